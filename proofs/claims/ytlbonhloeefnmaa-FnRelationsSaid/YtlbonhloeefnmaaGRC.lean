/- GRC: models and contracts, printed by wip/gen/gen.py -/
import Derived.Test.YtlbonhloeefnmaaGQ
import Derived.Test.YtlbonhloeefnmaaNest
set_option linter.unusedVariables false
set_option linter.unusedSimpArgs false
namespace Go.Proofs.Ytlbonhloeefnmaa
open Go.RowKit


theorem sI_self {xs : List Int} {t : Int} (h0 : 0 ≤ t) (h : t < (xs.length : Int)) : sI xs t (gI xs t) = xs := by
  apply ext_gi (by rw [sI_len])
  intro j hj
  unfold sI gI
  rw [gi_set (by omega)]
  by_cases e : t.toNat = j
  · rw [if_pos e, e]
  · rw [if_neg e]
theorem mapLoop_key (n : Int) (h : Int → Int → Int) (L : Nat → Int → List Int → Int × List Int) (hL : ∀ r t xs, 0 ≤ t → (xs.length : Int) = n → L (r + 1) t xs = bif decide (t < n) then L r (t + 1) (sI xs t (h t (gI xs t))) else (t, xs)) (xs : List Int) :
    ∀ (k : Nat) (t : Int) (ys : List Int), 0 ≤ t → n - t = (k : Int) → (ys.length : Int) = n → (∀ j : Nat, (j : Int) < t → gI ys j = h j (gI xs j)) → (∀ j : Nat, t ≤ (j : Int) → gI ys j = gI xs j) →
    ((L (k + 1) t ys).2.length : Int) = n ∧ ∀ j : Nat, (j : Int) < n → gI (L (k + 1) t ys).2 j = h j (gI xs j) := by
  intro k
  induction k with
  | zero =>
    intro t ys h0 hk hl h1 h2
    rw [hL _ _ _ h0 hl, decide_eq_false (by omega), cond_false]
    exact ⟨hl, fun j hj => h1 j (by omega)⟩
  | succ k ih =>
    intro t ys h0 hk hl h1 h2
    rw [hL _ _ _ h0 hl, decide_eq_true (by omega), cond_true]
    have hs : ∀ j : Nat, gI (sI ys t (h t (gI ys t))) j = if t.toNat = j then h t (gI ys t) else gI ys j := fun j => by
      unfold sI
      show gi _ _ = _
      rw [gi_set (by omega), Int.toNat_natCast]; rfl
    refine ih (t + 1) _ (by omega) (by omega) (by rw [sI_len]; exact hl) (fun j hj => ?_) (fun j hj => ?_)
    · rw [hs]
      by_cases e : t.toNat = j
      · rw [if_pos e]
        have e2 : t = (j : Int) := by omega
        rw [e2, h2 j (by omega)]
      · rw [if_neg e]; exact h1 j (by omega)
    · rw [hs, if_neg (by omega)]; exact h2 j (by omega)
theorem mapLoop (n : Int) (h : Int → Int → Int) (L : Nat → Int → List Int → Int × List Int) (hL : ∀ r t xs, 0 ≤ t → (xs.length : Int) = n → L (r + 1) t xs = bif decide (t < n) then L r (t + 1) (sI xs t (h t (gI xs t))) else (t, xs)) (xs : List Int) (hl : (xs.length : Int) = n) :
    ((L (Int.toNat (n - 0) + 1) 0 xs).2.length : Int) = n ∧ ∀ j : Nat, (j : Int) < n → gI (L (Int.toNat (n - 0) + 1) 0 xs).2 j = h j (gI xs j) :=
  mapLoop_key n h L hL xs (Int.toNat (n - 0)) 0 xs (by omega) (by omega) hl (fun j hj => by omega) (fun _ _ => rfl)
theorem list_map_ext {xs : List Int} {n : Nat} {f : Nat → Int} (hl : xs.length = n) (h : ∀ j, j < n → gI xs (j : Int) = f j) : xs = (List.range n).map f := by
  rw [← map_gI xs, hl]
  exact List.map_congr_left fun j hj => h j (List.mem_range.1 hj)

def F_relationCode_L1b (list : List (List Int)) (rec : Int → Int → Except (Int) (Int × Int)) (code3 : Int) (t8 : Int) : Except (Int) (Int × Int) :=
  bif (decide (t8 < ((list).length : Int))) then (bif (decide (30 < ((gL list t8).length : Int))) then (.error 2) else (bif (!(F_isRelation (gL list t8))) then (rec 1 (t8 + 1)) else (rec code3 (t8 + 1)))) else (.ok (code3, t8))
def F_relationCode_L1 (list : List (List Int)) : Nat → Int → Int → Except (Int) (Int × Int)
  | 0, code3, t8 => .ok (code3, t8)
  | r + 1, code3, t8 => F_relationCode_L1b list (F_relationCode_L1 list r) code3 t8
def F_relationCode (list : List (List Int)) : Int :=
  bif (isOk (F_relationCode_L1 list (Int.toNat (((list).length : Int) - 0) + 1) 0 0)) then ((okD (F_relationCode_L1 list (Int.toNat (((list).length : Int) - 0) + 1) 0 0)).1) else (errD (F_relationCode_L1 list (Int.toNat (((list).length : Int) - 0) + 1) 0 0))
theorem cf_relationCode (args : Array Value) (w : World) : (callFunc 122 args).run Try.prog w = .ok (.enter 122 args) w := by kernel_rfl
set_option maxRecDepth 100000 in
theorem c_relationCode (listA : Option Addr) (listN listC : Nat) (listQ : List Hd) (list : List (List Int)) (w : World) (listR : RdN w 1 listA listN listC listQ list) (hl : list.length ≤ 1000) :
    Calls Try.prog 122 #[.slice listA listN listC] w (Ret fun v w' => v = .int .i64 (F_relationCode list) ∧ Ext w w') := by
  obtain rfl : listN = list.length := listR.len
  have listLe := listR.le
  have hS := St.nil w
  have hS1 := St.rdn0 hS rfl listR; clear hS
  refine enter (args := [.slice listA ((list).length) listC]) Try.func122 rfl rfl ?_
  rw [Try.ntmps122]; intro a hE
  have hE := hE.sub (L' := [(0, .slice listA ((list).length) listC)]) ⟨rfl, trivial⟩
  refine c_seq ?_
  refine c_reg ?_
  refine q_step (v := .int .i64 0) hE (y_assign rfl) rfl rfl rfl ?_; intro a2 hE3; clear hE
  refine c_nil ?_
  have hE4 := hE3.sub (L' := [(0, .slice listA ((list).length) listC)]) ⟨rfl, trivial⟩; clear hE3
  refine p_tn ?_
  refine c_seq ?_
  refine c_reg ?_
  refine q_step (v := .int .i64 0) hE4 (y_assign rfl) rfl rfl rfl ?_; intro a5 hE6; clear hE4
  refine c_nil ?_
  have hE7 := hE6.sub (L' := [(0, .slice listA ((list).length) listC), (3, .int .i64 0)]) ⟨rfl, rfl, trivial⟩; clear hE6
  refine p_tn ?_
  refine c_seq ?_
  refine c_seq ?_
  refine c_reg ?_
  refine q_step (v := .slice listA ((list).length) listC) hE7 (y_move rfl) rfl rfl rfl ?_; intro a8 hE9; clear hE7
  refine q_step (v := .int .i64 ((list).length : Int)) hE9 (y_len (e := 22) (by kernel_rfl) rfl) rfl rfl rfl ?_; intro a10 hE11; clear hE9
  refine q_step (v := .int .i64 0) hE11 (y_move rfl) rfl rfl rfl ?_; intro a12 hE13; clear hE11
  refine c_nil ?_
  have hE14 := hE13.sub (L' := [(3, .int .i64 0), (6, .slice listA ((list).length) listC), (7, .int .i64 ((list).length : Int)), (8, .int .i64 0)]) ⟨rfl, rfl, rfl, rfl, trivial⟩; clear hE13
  refine p_tn ?_
  refine c_cut1 (fun a' w' => isOk (F_relationCode_L1 list (Int.toNat (((list).length : Int) - 0) + 1) 0 0) = true ∧ (0 ≤ ((okD (F_relationCode_L1 list (Int.toNat (((list).length : Int) - 0) + 1) 0 0)).2)) ∧ (((okD (F_relationCode_L1 list (Int.toNat (((list).length : Int) - 0) + 1) 0 0)).2) ≤ ((list).length : Int)) ∧ E a' 22 [(3, .int .i64 ((okD (F_relationCode_L1 list (Int.toNat (((list).length : Int) - 0) + 1) 0 0)).1)), (6, .slice listA ((list).length) listC), (7, .int .i64 ((list).length : Int)), (8, .int .i64 ((okD (F_relationCode_L1 list (Int.toNat (((list).length : Int) - 0) + 1) 0 0)).2))] ∧ St w w' [.rdn 1 listA ((list).length) listC listQ list]) ?_ ?_
  ·
   refine wp_block ?_
   refine c_loop (fun r a' w' => ∃ code3 : Int, ∃ t8 : Int, F_relationCode_L1 list r code3 t8 = F_relationCode_L1 list (Int.toNat (((list).length : Int) - 0) + 1) 0 0 ∧ Int.toNat (((list).length : Int) - t8) < r ∧ (0 ≤ t8) ∧ (t8 ≤ ((list).length : Int)) ∧ E a' 22 [(3, .int .i64 code3), (6, .slice listA ((list).length) listC), (7, .int .i64 ((list).length : Int)), (8, .int .i64 t8)] ∧ St w w' [.rdn 1 listA ((list).length) listC listQ list]) (r := (Int.toNat (((list).length : Int) - 0) + 1)) ?_ ?_
   · exact ⟨0, 0, rfl, Nat.lt_succ_self _, (by first | omega | (simp only [sS_len, sL_len]; omega) | (simp only [List.length_replicate, sI_len]; omega) | (simp only [List.length_append, List.length_cons, List.length_nil, sI_len, cond_true, cond_false]; omega) | (simp only [List.length_append, List.length_cons, List.length_nil, sI_len, cond_eq_ite, apply_ite List.length]; split <;> simp only [List.length_append, List.length_cons, List.length_nil, sI_len] <;> omega) | grind), (by first | omega | (simp only [sS_len, sL_len]; omega) | (simp only [List.length_replicate, sI_len]; omega) | (simp only [List.length_append, List.length_cons, List.length_nil, sI_len, cond_true, cond_false]; omega) | (simp only [List.length_append, List.length_cons, List.length_nil, sI_len, cond_eq_ite, apply_ite List.length]; split <;> simp only [List.length_append, List.length_cons, List.length_nil, sI_len] <;> omega) | grind), (hE14.sub (L' := [(3, .int .i64 0), (6, .slice listA ((list).length) listC), (7, .int .i64 ((list).length : Int)), (8, .int .i64 0)]) ⟨rfl, rfl, rfl, rfl, trivial⟩), (St.pick (Γ' := [.rdn 1 listA ((list).length) listC listQ list]) hS1 [0] (by decide) rfl)⟩
   ·
    clear hE14 hS1
    rintro r24 a16 w17 ⟨code3, t8, hT20, hr21, hi22, hi23, hE18, hS19⟩
    obtain ⟨r24, rfl⟩ : ∃ r', r24 = r' + 1 := ⟨r24 - 1, by omega⟩
    refine c_seq ?_
    refine c_reg ?_
    refine q_step (v := .bool (decide (t8 < ((list).length : Int)))) hE18 (y_lss rfl rfl) rfl rfl rfl ?_; intro a25 hE26; clear hE18
    refine c_nil ?_
    have hE27 := hE26.sub (L' := [(3, .int .i64 code3), (6, .slice listA ((list).length) listC), (7, .int .i64 ((list).length : Int)), (8, .int .i64 t8), (9, .bool (decide (t8 < ((list).length : Int))))]) ⟨rfl, rfl, rfl, rfl, rfl, trivial⟩; clear hE26
    refine p_tn ?_
    refine c_seq ?_
    refine c_cond hE27 rfl (fun ht28 => ?_) (fun ht28 => ?_)
    ·
     have hp29 := of_decide_eq_true ht28
     have hE30 := hE27; rw [ht28] at hE30; clear hE27
     refine wp_skip ?_
     refine p_tn ?_
     refine c_seq ?_
     refine wp_block ?_
     refine c_seq ?_
     refine c_reg ?_
     refine q_step (v := .pointer (some (adr listA (Int.toNat t8)))) hE30 (y_idx (by kernel_rfl) (fun _ => by kernel_rfl) rfl rfl (RdN.isS (m := t8) (St.rdNr (i := 0) hS19 rfl) (by omega) (by omega)) (by omega) (by omega) (Nat.mul_one _).symm) rfl rfl rfl ?_; intro a31 hE32; clear hE30
     have hv33 : (0 : Int) ≤ t8 ∧ t8 < (((list).length) : Int) := ⟨(by omega), (by omega)⟩
     refine q_step (v := .slice (hdA listQ t8) ((gL list t8).length) (hdC listQ t8)) hE32 (y_load (fun _ => by kernel_rfl) rfl (RdN.elt1 (St.rdNr (i := 0) hS19 rfl) (by omega) (by omega))) rfl rfl rfl ?_; intro a35 hE36; clear hE32
     refine q_step (v := .slice (hdA listQ t8) ((gL list t8).length) (hdC listQ t8)) hE36 (y_assign rfl) rfl rfl rfl ?_; intro a37 hE38; clear hE36
     refine c_nil ?_
     have hE39 := hE38.sub (L' := [(3, .int .i64 code3), (5, .slice (hdA listQ t8) ((gL list t8).length) (hdC listQ t8)), (6, .slice listA ((list).length) listC), (7, .int .i64 ((list).length : Int)), (8, .int .i64 t8)]) ⟨rfl, rfl, rfl, rfl, rfl, trivial⟩; clear hE38
     refine p_tn ?_
     refine wp_block ?_
     refine c_seq ?_
     refine c_reg ?_
     refine q_step (v := .slice (hdA listQ t8) ((gL list t8).length) (hdC listQ t8)) hE39 (y_move rfl) rfl rfl rfl ?_; intro a40 hE41; clear hE39
     refine q_step (v := .int .i64 ((gL list t8).length : Int)) hE41 (y_len (e := 2) (by kernel_rfl) rfl) rfl rfl rfl ?_; intro a42 hE43; clear hE41
     refine q_step (v := .bool (decide (30 < ((gL list t8).length : Int)))) hE43 (y_gtr rfl rfl) rfl rfl rfl ?_; intro a44 hE45; clear hE43
     refine q_step (v := .bool (decide (30 < ((gL list t8).length : Int)))) hE45 (y_assign rfl) rfl rfl rfl ?_; intro a46 hE47; clear hE45
     refine c_nil ?_
     have hE48 := hE47.sub (L' := [(3, .int .i64 code3), (5, .slice (hdA listQ t8) ((gL list t8).length) (hdC listQ t8)), (6, .slice listA ((list).length) listC), (7, .int .i64 ((list).length : Int)), (8, .int .i64 t8), (12, .bool (decide (30 < ((gL list t8).length : Int))))]) ⟨rfl, rfl, rfl, rfl, rfl, rfl, trivial⟩; clear hE47
     refine p_tn ?_
     refine c_cond hE48 rfl (fun ht49 => ?_) (fun ht49 => ?_)
     ·
      have hp50 := of_decide_eq_true ht49
      have hE51 := hE48; rw [ht49] at hE51; clear hE48
      refine c_seq ?_
      refine c_reg ?_
      refine q_step (v := .int .i64 2) hE51 (y_assign rfl) rfl rfl rfl ?_; intro a52 hE53; clear hE51
      refine c_nil ?_
      have hE54 := hE53.sub (L' := [(2, .int .i64 2)]) ⟨rfl, trivial⟩; clear hE53
      refine p_tn ?_
      refine wp_ret ?_
      refine p_br ?_
      refine p_br ?_
      refine p_tr ?_
      have hX55 : F_relationCode_L1 list (Int.toNat (((list).length : Int) - 0) + 1) 0 0 = .error 2 := hT20.symm.trans (show F_relationCode_L1b list (F_relationCode_L1 list r24) code3 t8 = .error 2 by unfold F_relationCode_L1b; rw [ht49, ht28]; first | done | rfl)
      refine p_tr (p_br (p_tr ?_))
      refine p_tr ?_
      have hF : F_relationCode list = 2 := by unfold F_relationCode; rw [hX55]; first | done | rfl
      refine c_ret1 hE54 rfl rfl ?_
      exact ⟨(by rw [hF]; first | done | (dsimp only; done) | rfl), hS19.ext⟩
     ·
      have hp56 := of_decide_eq_false ht49
      have hE57 := hE48; rw [ht49] at hE57; clear hE48
      refine c_seq ?_
      refine c_reg ?_
      refine q_step (v := .slice (hdA listQ t8) ((gL list t8).length) (hdC listQ t8)) hE57 (y_move rfl) rfl rfl rfl ?_; intro a58 hE59; clear hE57
      refine l_step hE59 rfl (l_call (f := 166) (argv := [.slice (hdA listQ t8) ((gL list t8).length) (hdC listQ t8)]) hE59 (fun _ => cf_isRelation _ _) rfl rfl (c_isRelation (hdA listQ t8) ((gL list t8).length) (hdC listQ t8) (gL list t8) w17 (RdN.row1 (St.rdNr (i := 0) hS19 rfl) hv33.1 hv33.2)) ?_)
      rintro _ w61 ⟨rfl, he65⟩ a62 hE63; clear hE59
      have hS64 := St.go hS19 he65; clear hS19
      refine q_step (v := .bool (!(F_isRelation (gL list t8)))) hE63 (y_not rfl) rfl rfl rfl ?_; intro a66 hE67; clear hE63
      refine q_step (v := .bool (!(F_isRelation (gL list t8)))) hE67 (y_assign rfl) rfl rfl rfl ?_; intro a68 hE69; clear hE67
      refine c_nil ?_
      have hE70 := hE69.sub (L' := [(3, .int .i64 code3), (6, .slice listA ((list).length) listC), (7, .int .i64 ((list).length : Int)), (8, .int .i64 t8), (16, .bool (!(F_isRelation (gL list t8))))]) ⟨rfl, rfl, rfl, rfl, rfl, trivial⟩; clear hE69
      refine p_tn ?_
      refine c_cond hE70 rfl (fun ht71 => ?_) (fun ht71 => ?_)
      ·
       have ht72 := bn_t ht71
       have hE73 := hE70; rw [ht71] at hE73; clear hE70
       refine c_reg ?_
       refine q_step (v := .int .i64 1) hE73 (y_assign rfl) rfl rfl rfl ?_; intro a74 hE75; clear hE73
       refine c_nil ?_
       have hE76 := hE75.sub (L' := [(3, .int .i64 1), (6, .slice listA ((list).length) listC), (7, .int .i64 ((list).length : Int)), (8, .int .i64 t8)]) ⟨rfl, rfl, rfl, rfl, trivial⟩; clear hE75
       refine p_bn ?_
       refine p_bn ?_
       refine p_tn ?_
       refine c_reg ?_
       refine q_step (v := .int .i64 (t8 + 1)) hE76 (y_add rfl rfl ⟨(by omega), (by omega)⟩) rfl rfl rfl ?_; intro a77 hE78; clear hE76
       refine q_step (v := .int .i64 (t8 + 1)) hE78 (y_move rfl) rfl rfl rfl ?_; intro a79 hE80; clear hE78
       refine c_nil ?_
       have hE81 := hE80.sub (L' := [(3, .int .i64 1), (6, .slice listA ((list).length) listC), (7, .int .i64 ((list).length : Int)), (8, .int .i64 (t8 + 1))]) ⟨rfl, rfl, rfl, rfl, trivial⟩; clear hE80
       refine p_tn ⟨r24, Nat.lt_succ_self _, 1, t8 + 1, (hT20.symm.trans (show F_relationCode_L1b list (F_relationCode_L1 list r24) code3 t8 = F_relationCode_L1 list r24 1 (t8 + 1) by unfold F_relationCode_L1b; rw [ht71, ht49, ht28]; first | done | rfl)).symm, (by omega), (by first | omega | (simp only [sS_len, sL_len]; omega) | (simp only [List.length_replicate, sI_len]; omega) | (simp only [List.length_append, List.length_cons, List.length_nil, sI_len, cond_true, cond_false]; omega) | (simp only [List.length_append, List.length_cons, List.length_nil, sI_len, cond_eq_ite, apply_ite List.length]; split <;> simp only [List.length_append, List.length_cons, List.length_nil, sI_len] <;> omega) | grind), (by first | omega | (simp only [sS_len, sL_len]; omega) | (simp only [List.length_replicate, sI_len]; omega) | (simp only [List.length_append, List.length_cons, List.length_nil, sI_len, cond_true, cond_false]; omega) | (simp only [List.length_append, List.length_cons, List.length_nil, sI_len, cond_eq_ite, apply_ite List.length]; split <;> simp only [List.length_append, List.length_cons, List.length_nil, sI_len] <;> omega) | grind), (hE81.sub (L' := [(3, .int .i64 1), (6, .slice listA ((list).length) listC), (7, .int .i64 ((list).length : Int)), (8, .int .i64 (t8 + 1))]) ⟨rfl, rfl, rfl, rfl, trivial⟩), (St.pick (Γ' := [.rdn 1 listA ((list).length) listC listQ list]) hS64 [0] (by decide) rfl)⟩
      ·
       have ht82 := bn_f ht71
       have hE83 := hE70; rw [ht71] at hE83; clear hE70
       refine wp_skip ?_
       refine p_bn ?_
       refine p_bn ?_
       refine p_tn ?_
       refine c_reg ?_
       refine q_step (v := .int .i64 (t8 + 1)) hE83 (y_add rfl rfl ⟨(by omega), (by omega)⟩) rfl rfl rfl ?_; intro a84 hE85; clear hE83
       refine q_step (v := .int .i64 (t8 + 1)) hE85 (y_move rfl) rfl rfl rfl ?_; intro a86 hE87; clear hE85
       refine c_nil ?_
       have hE88 := hE87.sub (L' := [(3, .int .i64 code3), (6, .slice listA ((list).length) listC), (7, .int .i64 ((list).length : Int)), (8, .int .i64 (t8 + 1))]) ⟨rfl, rfl, rfl, rfl, trivial⟩; clear hE87
       refine p_tn ⟨r24, Nat.lt_succ_self _, code3, t8 + 1, (hT20.symm.trans (show F_relationCode_L1b list (F_relationCode_L1 list r24) code3 t8 = F_relationCode_L1 list r24 code3 (t8 + 1) by unfold F_relationCode_L1b; rw [ht71, ht49, ht28]; first | done | rfl)).symm, (by omega), (by first | omega | (simp only [sS_len, sL_len]; omega) | (simp only [List.length_replicate, sI_len]; omega) | (simp only [List.length_append, List.length_cons, List.length_nil, sI_len, cond_true, cond_false]; omega) | (simp only [List.length_append, List.length_cons, List.length_nil, sI_len, cond_eq_ite, apply_ite List.length]; split <;> simp only [List.length_append, List.length_cons, List.length_nil, sI_len] <;> omega) | grind), (by first | omega | (simp only [sS_len, sL_len]; omega) | (simp only [List.length_replicate, sI_len]; omega) | (simp only [List.length_append, List.length_cons, List.length_nil, sI_len, cond_true, cond_false]; omega) | (simp only [List.length_append, List.length_cons, List.length_nil, sI_len, cond_eq_ite, apply_ite List.length]; split <;> simp only [List.length_append, List.length_cons, List.length_nil, sI_len] <;> omega) | grind), (hE88.sub (L' := [(3, .int .i64 code3), (6, .slice listA ((list).length) listC), (7, .int .i64 ((list).length : Int)), (8, .int .i64 (t8 + 1))]) ⟨rfl, rfl, rfl, rfl, trivial⟩), (St.pick (Γ' := [.rdn 1 listA ((list).length) listC listQ list]) hS64 [0] (by decide) rfl)⟩
    ·
     have hp89 := of_decide_eq_false ht28
     have hE90 := hE27; rw [ht28] at hE90; clear hE27
     refine wp_exit ?_
     refine p_te ?_
     have hX91 : F_relationCode_L1 list (Int.toNat (((list).length : Int) - 0) + 1) 0 0 = .ok (code3, t8) := hT20.symm.trans (show F_relationCode_L1b list (F_relationCode_L1 list r24) code3 t8 = .ok (code3, t8) by unfold F_relationCode_L1b; rw [ht28]; first | done | rfl)
     refine p_te (p_be (p_tn ?_))
     exact ⟨(by rw [hX91]; rfl), (by rw [hX91]; exact (show 0 ≤ t8 from (by first | omega | (simp only [sS_len, sL_len]; omega) | (simp only [List.length_replicate, sI_len]; omega) | (simp only [List.length_append, List.length_cons, List.length_nil, sI_len, cond_true, cond_false]; omega) | (simp only [List.length_append, List.length_cons, List.length_nil, sI_len, cond_eq_ite, apply_ite List.length]; split <;> simp only [List.length_append, List.length_cons, List.length_nil, sI_len] <;> omega) | grind))), (by rw [hX91]; exact (show t8 ≤ ((list).length : Int) from (by first | omega | (simp only [sS_len, sL_len]; omega) | (simp only [List.length_replicate, sI_len]; omega) | (simp only [List.length_append, List.length_cons, List.length_nil, sI_len, cond_true, cond_false]; omega) | (simp only [List.length_append, List.length_cons, List.length_nil, sI_len, cond_eq_ite, apply_ite List.length]; split <;> simp only [List.length_append, List.length_cons, List.length_nil, sI_len] <;> omega) | grind))), (by rw [hX91]; exact (hE90.sub (L' := [(3, .int .i64 code3), (6, .slice listA ((list).length) listC), (7, .int .i64 ((list).length : Int)), (8, .int .i64 t8)]) ⟨rfl, rfl, rfl, rfl, trivial⟩)), (St.pick (Γ' := [.rdn 1 listA ((list).length) listC listQ list]) hS19 [0] (by decide) rfl)⟩
  ·
   rintro a92 w93 ⟨hO96, hi97, hi98, hE94, hS95⟩; clear hE14 hS1
   refine p_tn ?_
   refine c_seq ?_
   refine c_reg ?_
   refine q_step (v := .int .i64 ((okD (F_relationCode_L1 list (Int.toNat (((list).length : Int) - 0) + 1) 0 0)).1)) hE94 (y_move rfl) rfl rfl rfl ?_; intro a99 hE100; clear hE94
   refine q_step (v := .int .i64 ((okD (F_relationCode_L1 list (Int.toNat (((list).length : Int) - 0) + 1) 0 0)).1)) hE100 (y_assign rfl) rfl rfl rfl ?_; intro a101 hE102; clear hE100
   refine c_nil ?_
   have hE103 := hE102.sub (L' := [(2, .int .i64 ((okD (F_relationCode_L1 list (Int.toNat (((list).length : Int) - 0) + 1) 0 0)).1))]) ⟨rfl, trivial⟩; clear hE102
   refine p_tn ?_
   refine wp_ret ?_
   have hF : F_relationCode list = (okD (F_relationCode_L1 list (Int.toNat (((list).length : Int) - 0) + 1) 0 0)).1 := by unfold F_relationCode; rw [hO96]; first | done | rfl
   refine c_ret1 hE103 rfl rfl ?_
   exact ⟨(by rw [hF]; first | done | (dsimp only; done) | rfl), hS95.ext⟩

theorem relCode2 (a b : List Int) : F_relationCode [a, b] = bif decide (30 < (a.length : Int)) then 2 else bif decide (30 < (b.length : Int)) then 2 else bif F_isRelation a && F_isRelation b then 0 else 1 := by
  unfold F_relationCode
  rw [show Int.toNat ((([a, b] : List (List Int)).length : Int) - 0) + 1 = 3 from rfl]
  have e1 : ∀ r c, F_relationCode_L1 [a, b] (r + 1) c 1 = bif decide (30 < (b.length : Int)) then .error 2 else bif !F_isRelation b then F_relationCode_L1 [a, b] r 1 2 else F_relationCode_L1 [a, b] r c 2 := fun r c => rfl
  have e2 : ∀ r c, F_relationCode_L1 [a, b] (r + 1) c 2 = .ok (c, 2) := fun r c => rfl
  have e0 : ∀ r c, F_relationCode_L1 [a, b] (r + 1) c 0 = bif decide (30 < (a.length : Int)) then .error 2 else bif !F_isRelation a then F_relationCode_L1 [a, b] r 1 1 else F_relationCode_L1 [a, b] r c 1 := fun r c => rfl
  rw [e0, e1, e1, e2, e2]
  cases decide (30 < (a.length : Int)) <;> cases decide (30 < (b.length : Int)) <;> cases F_isRelation a <;> cases F_isRelation b <;> rfl
theorem relCode1 (a : List Int) : F_relationCode [a] = bif decide (30 < (a.length : Int)) then 2 else bif F_isRelation a then 0 else 1 := by
  unfold F_relationCode
  rw [show Int.toNat ((([a] : List (List Int)).length : Int) - 0) + 1 = 2 from rfl]
  have e1 : ∀ r c, F_relationCode_L1 [a] (r + 1) c 1 = .ok (c, 1) := fun r c => rfl
  have e0 : ∀ r c, F_relationCode_L1 [a] (r + 1) c 0 = bif decide (30 < (a.length : Int)) then .error 2 else bif !F_isRelation a then F_relationCode_L1 [a] r 1 1 else F_relationCode_L1 [a] r c 1 := fun r c => rfl
  rw [e0, e1, e1]
  cases decide (30 < (a.length : Int)) <;> cases F_isRelation a <;> rfl
theorem relCode1_t {a : List Int} (h : F_relationCode [a] = 0) : F_isRelation a = true ∧ a.length ≤ 30 := by
  rw [relCode1] at h
  by_cases h1 : 30 < (a.length : Int)
  · rw [decide_eq_true h1] at h; simp at h
  · rw [decide_eq_false h1] at h
    cases h3 : F_isRelation a <;> simp [h3] at h
    exact ⟨rfl, by omega⟩
theorem relCode_t {a b : List Int} (h : F_relationCode [a, b] = 0) : F_isRelation a = true ∧ F_isRelation b = true ∧ a.length ≤ 30 ∧ b.length ≤ 30 := by
  rw [relCode2] at h
  by_cases h1 : 30 < (a.length : Int)
  · rw [decide_eq_true h1] at h; simp at h
  · by_cases h2 : 30 < (b.length : Int)
    · rw [decide_eq_false h1, decide_eq_true h2] at h; simp at h
    · rw [decide_eq_false h1, decide_eq_false h2] at h
      cases h3 : F_isRelation a <;> cases h4 : F_isRelation b <;> simp [h3, h4] at h
      exact ⟨rfl, rfl, by omega, by omega⟩
theorem isRel_all {a : List Int} (h : F_isRelation a = true) (hl : a.length ≤ 30) : ∀ m : Int, 0 ≤ m → m < (a.length : Int) → 0 ≤ gI a m ∧ gI a m ≤ fullI (a.length : Int) ∧ gI a m < 4611686018427387904 := fun m h0 h1 => by
  rw [isRel_eq hl, masks_eq, List.all_eq_true] at h
  have hg : gI a m ∈ a := gI_mem h0 h1
  have := F_l01In_t (h _ hg)
  have hb := fullI_bd (n := (a.length : Int)) (by omega) (by omega)
  omega
theorem rel_masks {a b : List Int} (h : F_isRelation a = true ∧ F_isRelation b = true ∧ a.length ≤ 30 ∧ b.length ≤ 30) (hl : (a.length : Int) = (b.length : Int)) : ∀ m : Int, 0 ≤ m → m < (a.length : Int) → 0 ≤ gI a m ∧ gI a m ≤ fullI (b.length : Int) ∧ gI a m < 4611686018427387904 := by
  have := isRel_all h.1 h.2.2.1
  rw [← hl]; exact this


def F_compose_L1b (ap : List Int) (bp : List Int) (rec : Int → (List Int) → Int × (List Int)) (t13 : Int) (out5 : List Int) : Int × (List Int) :=
  bif (decide (t13 < (ap.length : Int))) then (rec (t13 + 1) (sI out5 t13 (F_image bp (gI ap t13)))) else (t13, out5)
def F_compose_L1 (ap : List Int) (bp : List Int) : Nat → Int → (List Int) → Int × (List Int)
  | 0, t13, out5 => (t13, out5)
  | r + 1, t13, out5 => F_compose_L1b ap bp (F_compose_L1 ap bp r) t13 out5
def F_compose (ap : List Int) (bp : List Int) : List Int :=
  (F_compose_L1 ap bp (Int.toNat ((ap.length : Int) - 0) + 1) 0 (List.replicate (Int.toNat (ap.length : Int)) 0)).2
theorem cf_compose (args : Array Value) (w : World) : (callFunc 126 args).run Try.prog w = .ok (.enter 126 args) w := by kernel_rfl
set_option maxRecDepth 100000 in
theorem c_compose (apA : Option Addr) (apN apC : Nat) (ap : List Int) (bpA : Option Addr) (bpN bpC : Nat) (bp : List Int) (w : World) (apR : RdS w 1 apA apN apC ap) (bpR : RdS w 1 bpA bpN bpC bp) (hl : ap.length ≤ 30) (hl2 : bp.length ≤ 30) (hm : ∀ m : Int, 0 ≤ m → m < (ap.length : Int) → 0 ≤ gI ap m ∧ gI ap m ≤ fullI (bp.length : Int) ∧ gI ap m < 4611686018427387904) :
    Calls Try.prog 126 #[.slice apA apN apC, .slice bpA bpN bpC] w (Ret fun v w' => ∃ b1 : Option Addr, ∃ c1 : Nat, v = .slice b1 (F_compose ap bp).length c1 ∧ OwnS w' w.heap.size 2 1 b1 (F_compose ap bp).length c1 (F_compose ap bp) ∧ Ext w w') := by
  obtain rfl : apN = ap.length := apR.len1.symm
  have apLe := apR.le
  obtain rfl : bpN = bp.length := bpR.len1.symm
  have bpLe := bpR.le
  have hS := St.nil w
  have hS1 := St.rd0 hS rfl apR; clear hS
  have hS2 := St.rd0 hS1 rfl bpR; clear hS1
  refine enter (args := [.slice apA ap.length apC, .slice bpA bp.length bpC]) Try.func126 rfl rfl ?_
  rw [Try.ntmps126]; intro a hE
  have hE := hE.sub (L' := [(0, .slice apA ap.length apC), (1, .slice bpA bp.length bpC)]) ⟨rfl, rfl, trivial⟩
  refine c_seq ?_
  refine c_reg ?_
  refine q_step (v := .slice none 0 0) hE (y_assign rfl) rfl rfl rfl ?_; intro a3 hE4; clear hE
  refine c_nil ?_
  have hE5 := hE4.sub (L' := [(0, .slice apA ap.length apC), (1, .slice bpA bp.length bpC)]) ⟨rfl, rfl, trivial⟩; clear hE4
  refine p_tn ?_
  refine c_seq ?_
  refine c_reg ?_
  refine q_step (v := .slice apA ap.length apC) hE5 (y_move rfl) rfl rfl rfl ?_; intro a6 hE7; clear hE5
  refine q_step (v := .int .i64 (ap.length : Int)) hE7 (y_len (e := 2) (by kernel_rfl) rfl) rfl rfl rfl ?_; intro a8 hE9; clear hE7
  refine l_step hE9 rfl (l_make (e := 2) (m := (ap.length : Int)) hS2 hE9 (by kernel_rfl) (by kernel_rfl) rfl rfl (by omega) (by omega) rfl ?_)
  intro b10 w11 hS14 he15 a12 hE13; clear hS2 hE9
  refine q_step (v := .slice b10 (Int.toNat (ap.length : Int)) (Int.toNat (ap.length : Int))) hE13 (y_assign rfl) rfl rfl rfl ?_; intro a16 hE17; clear hE13
  refine c_nil ?_
  have hE18 := hE17.sub (L' := [(0, .slice apA ap.length apC), (1, .slice bpA bp.length bpC), (5, .slice b10 (Int.toNat (ap.length : Int)) (Int.toNat (ap.length : Int)))]) ⟨rfl, rfl, rfl, trivial⟩; clear hE17
  refine p_tn ?_
  refine c_seq ?_
  refine c_seq ?_
  refine c_reg ?_
  refine q_step (v := .slice apA ap.length apC) hE18 (y_move rfl) rfl rfl rfl ?_; intro a19 hE20; clear hE18
  refine q_step (v := .int .i64 (ap.length : Int)) hE20 (y_len (e := 2) (by kernel_rfl) rfl) rfl rfl rfl ?_; intro a21 hE22; clear hE20
  refine q_step (v := .int .i64 0) hE22 (y_move rfl) rfl rfl rfl ?_; intro a23 hE24; clear hE22
  refine c_nil ?_
  have hE25 := hE24.sub (L' := [(1, .slice bpA bp.length bpC), (5, .slice b10 (Int.toNat (ap.length : Int)) (Int.toNat (ap.length : Int))), (11, .slice apA ap.length apC), (12, .int .i64 (ap.length : Int)), (13, .int .i64 0)]) ⟨rfl, rfl, rfl, rfl, rfl, trivial⟩; clear hE24
  refine p_tn ?_
  refine c_cut1 (fun a' w' => (0 ≤ ((F_compose_L1 ap bp (Int.toNat ((ap.length : Int) - 0) + 1) 0 (List.replicate (Int.toNat (ap.length : Int)) 0)).1)) ∧ ((((F_compose_L1 ap bp (Int.toNat ((ap.length : Int) - 0) + 1) 0 (List.replicate (Int.toNat (ap.length : Int)) 0)).2).length : Int) = (ap.length : Int)) ∧ (((F_compose_L1 ap bp (Int.toNat ((ap.length : Int) - 0) + 1) 0 (List.replicate (Int.toNat (ap.length : Int)) 0)).1) ≤ (ap.length : Int)) ∧ E a' 26 [(1, .slice bpA bp.length bpC), (5, .slice b10 (Int.toNat (ap.length : Int)) (Int.toNat (ap.length : Int))), (11, .slice apA ap.length apC), (12, .int .i64 (ap.length : Int)), (13, .int .i64 ((F_compose_L1 ap bp (Int.toNat ((ap.length : Int) - 0) + 1) 0 (List.replicate (Int.toNat (ap.length : Int)) 0)).1))] ∧ St w w' [.own 2 1 b10 (Int.toNat (ap.length : Int)) (Int.toNat (ap.length : Int)) ((F_compose_L1 ap bp (Int.toNat ((ap.length : Int) - 0) + 1) 0 (List.replicate (Int.toNat (ap.length : Int)) 0)).2), .rd 1 bpA bp.length bpC bp, .rd 1 apA ap.length apC ap]) ?_ ?_
  ·
   refine wp_block ?_
   refine c_loop (fun r a' w' => ∃ t13 : Int, ∃ out5 : List Int, F_compose_L1 ap bp r t13 out5 = F_compose_L1 ap bp (Int.toNat ((ap.length : Int) - 0) + 1) 0 (List.replicate (Int.toNat (ap.length : Int)) 0) ∧ Int.toNat ((ap.length : Int) - t13) < r ∧ (0 ≤ t13) ∧ ((out5.length : Int) = (ap.length : Int)) ∧ (t13 ≤ (ap.length : Int)) ∧ E a' 26 [(1, .slice bpA bp.length bpC), (5, .slice b10 (Int.toNat (ap.length : Int)) (Int.toNat (ap.length : Int))), (11, .slice apA ap.length apC), (12, .int .i64 (ap.length : Int)), (13, .int .i64 t13)] ∧ St w w' [.own 2 1 b10 (Int.toNat (ap.length : Int)) (Int.toNat (ap.length : Int)) out5, .rd 1 bpA bp.length bpC bp, .rd 1 apA ap.length apC ap]) (r := (Int.toNat ((ap.length : Int) - 0) + 1)) ?_ ?_
   · exact ⟨0, List.replicate (Int.toNat (ap.length : Int)) 0, rfl, Nat.lt_succ_self _, (by first | omega | (simp only [sS_len, sL_len]; omega) | (simp only [List.length_replicate, sI_len]; omega) | (simp only [List.length_append, List.length_cons, List.length_nil, sI_len, cond_true, cond_false]; omega) | (simp only [List.length_append, List.length_cons, List.length_nil, sI_len, cond_eq_ite, apply_ite List.length]; split <;> simp only [List.length_append, List.length_cons, List.length_nil, sI_len] <;> omega) | grind), (by first | omega | (simp only [sS_len, sL_len]; omega) | (simp only [List.length_replicate, sI_len]; omega) | (simp only [List.length_append, List.length_cons, List.length_nil, sI_len, cond_true, cond_false]; omega) | (simp only [List.length_append, List.length_cons, List.length_nil, sI_len, cond_eq_ite, apply_ite List.length]; split <;> simp only [List.length_append, List.length_cons, List.length_nil, sI_len] <;> omega) | grind), (by first | omega | (simp only [sS_len, sL_len]; omega) | (simp only [List.length_replicate, sI_len]; omega) | (simp only [List.length_append, List.length_cons, List.length_nil, sI_len, cond_true, cond_false]; omega) | (simp only [List.length_append, List.length_cons, List.length_nil, sI_len, cond_eq_ite, apply_ite List.length]; split <;> simp only [List.length_append, List.length_cons, List.length_nil, sI_len] <;> omega) | grind), (hE25.sub (L' := [(1, .slice bpA bp.length bpC), (5, .slice b10 (Int.toNat (ap.length : Int)) (Int.toNat (ap.length : Int))), (11, .slice apA ap.length apC), (12, .int .i64 (ap.length : Int)), (13, .int .i64 0)]) ⟨rfl, rfl, rfl, rfl, rfl, trivial⟩), (St.pick (Γ' := [.own 2 1 b10 (Int.toNat (ap.length : Int)) (Int.toNat (ap.length : Int)) (List.replicate (Int.toNat (ap.length : Int)) 0), .rd 1 bpA bp.length bpC bp, .rd 1 apA ap.length apC ap]) hS14 [0, 1, 2] (by decide) rfl)⟩
   ·
    clear hE25 hS14
    rintro r36 a27 w28 ⟨t13, out5, hT31, hr32, hi33, hi34, hi35, hE29, hS30⟩
    obtain ⟨r36, rfl⟩ : ∃ r', r36 = r' + 1 := ⟨r36 - 1, by omega⟩
    refine c_seq ?_
    refine c_reg ?_
    refine q_step (v := .bool (decide (t13 < (ap.length : Int)))) hE29 (y_lss rfl rfl) rfl rfl rfl ?_; intro a37 hE38; clear hE29
    refine c_nil ?_
    have hE39 := hE38.sub (L' := [(1, .slice bpA bp.length bpC), (5, .slice b10 (Int.toNat (ap.length : Int)) (Int.toNat (ap.length : Int))), (11, .slice apA ap.length apC), (12, .int .i64 (ap.length : Int)), (13, .int .i64 t13), (14, .bool (decide (t13 < (ap.length : Int))))]) ⟨rfl, rfl, rfl, rfl, rfl, rfl, trivial⟩; clear hE38
    refine p_tn ?_
    refine c_seq ?_
    refine c_cond hE39 rfl (fun ht40 => ?_) (fun ht40 => ?_)
    ·
     have hp41 := of_decide_eq_true ht40
     have hE42 := hE39; rw [ht40] at hE42; clear hE39
     have hm1 := hm t13 (by omega) (by omega)
     refine wp_skip ?_
     refine p_tn ?_
     refine c_seq ?_
     refine wp_block ?_
     refine c_seq ?_
     refine c_reg ?_
     refine q_step (v := .int .i64 t13) hE42 (y_move rfl) rfl rfl rfl ?_; intro a43 hE44; clear hE42
     refine q_step (v := .pointer (some (adr apA (Int.toNat t13)))) hE44 (y_idx (by kernel_rfl) (fun _ => by kernel_rfl) rfl rfl (RdS.isS (m := t13) (St.rdR (i := 2) hS30 rfl) (by omega) (by omega)) (by omega) (by omega) (Nat.mul_one _).symm) rfl rfl rfl ?_; intro a45 hE46; clear hE44
     refine q_step (v := .int .i64 (gI ap t13)) hE46 (y_load (fun _ => by kernel_rfl) rfl (RdS.elt (St.rdR (i := 2) hS30 rfl) (by omega) (by omega))) rfl rfl rfl ?_; intro a47 hE48; clear hE46
     refine q_step (v := .int .i64 t13) hE48 (y_assign rfl) rfl rfl rfl ?_; intro a49 hE50; clear hE48
     refine q_step (v := .int .i64 (gI ap t13)) hE50 (y_assign rfl) rfl rfl rfl ?_; intro a51 hE52; clear hE50
     refine c_nil ?_
     have hE53 := hE52.sub (L' := [(1, .slice bpA bp.length bpC), (5, .slice b10 (Int.toNat (ap.length : Int)) (Int.toNat (ap.length : Int))), (6, .int .i64 t13), (7, .int .i64 (gI ap t13)), (11, .slice apA ap.length apC), (12, .int .i64 (ap.length : Int)), (13, .int .i64 t13)]) ⟨rfl, rfl, rfl, rfl, rfl, rfl, rfl, trivial⟩; clear hE52
     refine p_tn ?_
     refine c_reg ?_
     refine q_step (v := .slice b10 (Int.toNat (ap.length : Int)) (Int.toNat (ap.length : Int))) hE53 (y_move rfl) rfl rfl rfl ?_; intro a54 hE55; clear hE53
     refine q_step (v := .int .i64 t13) hE55 (y_move rfl) rfl rfl rfl ?_; intro a56 hE57; clear hE55
     refine q_step (v := .slice bpA bp.length bpC) hE57 (y_move rfl) rfl rfl rfl ?_; intro a58 hE59; clear hE57
     refine q_step (v := .int .i64 (gI ap t13)) hE59 (y_move rfl) rfl rfl rfl ?_; intro a60 hE61; clear hE59
     refine l_step hE61 rfl (l_call (f := 119) (argv := [.slice bpA bp.length bpC, .int .i64 (gI ap t13)]) hE61 (fun _ => cf_image _ _) rfl rfl (c_image bpA bp.length bpC bp (gI ap t13) w28 (St.rdR (i := 1) hS30 rfl) (by omega) (by omega) (by omega) (by omega)) ?_)
     rintro _ w63 ⟨rfl, he67⟩ a64 hE65; clear hE61
     have hS66 := St.go hS30 he67; clear hS30
     refine q_step (v := .pointer (some (adr b10 (Int.toNat t13)))) hE65 (y_idx (by kernel_rfl) (fun _ => by kernel_rfl) rfl rfl (RdS.isS (m := t13) (St.rdO (i := 0) hS66 rfl) (by omega) (by omega)) (by omega) (by omega) (Nat.mul_one _).symm) rfl rfl rfl ?_; intro a68 hE69; clear hE65
     refine l_step hE69 rfl (l_store (k := 0) hS66 hE69 (fun _ => by kernel_rfl) rfl rfl rfl (by omega) (by omega) ?_)
     intro w71 hS74 a72 hE73; clear hS66 hE69
     refine c_nil ?_
     have hE76 := hE73.sub (L' := [(1, .slice bpA bp.length bpC), (5, .slice b10 (Int.toNat (ap.length : Int)) (Int.toNat (ap.length : Int))), (11, .slice apA ap.length apC), (12, .int .i64 (ap.length : Int)), (13, .int .i64 t13)]) ⟨rfl, rfl, rfl, rfl, rfl, trivial⟩; clear hE73
     refine p_bn ?_
     refine p_tn ?_
     refine c_reg ?_
     refine q_step (v := .int .i64 (t13 + 1)) hE76 (y_add rfl rfl ⟨(by omega), (by omega)⟩) rfl rfl rfl ?_; intro a77 hE78; clear hE76
     refine q_step (v := .int .i64 (t13 + 1)) hE78 (y_move rfl) rfl rfl rfl ?_; intro a79 hE80; clear hE78
     refine c_nil ?_
     have hE81 := hE80.sub (L' := [(1, .slice bpA bp.length bpC), (5, .slice b10 (Int.toNat (ap.length : Int)) (Int.toNat (ap.length : Int))), (11, .slice apA ap.length apC), (12, .int .i64 (ap.length : Int)), (13, .int .i64 (t13 + 1))]) ⟨rfl, rfl, rfl, rfl, rfl, trivial⟩; clear hE80
     refine p_tn ⟨r36, Nat.lt_succ_self _, t13 + 1, sI out5 t13 (F_image bp (gI ap t13)), (hT31.symm.trans (show F_compose_L1b ap bp (F_compose_L1 ap bp r36) t13 out5 = F_compose_L1 ap bp r36 (t13 + 1) (sI out5 t13 (F_image bp (gI ap t13))) by unfold F_compose_L1b; rw [ht40]; first | done | rfl)).symm, (by omega), (by first | omega | (simp only [sS_len, sL_len]; omega) | (simp only [List.length_replicate, sI_len]; omega) | (simp only [List.length_append, List.length_cons, List.length_nil, sI_len, cond_true, cond_false]; omega) | (simp only [List.length_append, List.length_cons, List.length_nil, sI_len, cond_eq_ite, apply_ite List.length]; split <;> simp only [List.length_append, List.length_cons, List.length_nil, sI_len] <;> omega) | grind), (by first | omega | (simp only [sS_len, sL_len]; omega) | (simp only [List.length_replicate, sI_len]; omega) | (simp only [List.length_append, List.length_cons, List.length_nil, sI_len, cond_true, cond_false]; omega) | (simp only [List.length_append, List.length_cons, List.length_nil, sI_len, cond_eq_ite, apply_ite List.length]; split <;> simp only [List.length_append, List.length_cons, List.length_nil, sI_len] <;> omega) | grind), (by first | omega | (simp only [sS_len, sL_len]; omega) | (simp only [List.length_replicate, sI_len]; omega) | (simp only [List.length_append, List.length_cons, List.length_nil, sI_len, cond_true, cond_false]; omega) | (simp only [List.length_append, List.length_cons, List.length_nil, sI_len, cond_eq_ite, apply_ite List.length]; split <;> simp only [List.length_append, List.length_cons, List.length_nil, sI_len] <;> omega) | grind), (hE81.sub (L' := [(1, .slice bpA bp.length bpC), (5, .slice b10 (Int.toNat (ap.length : Int)) (Int.toNat (ap.length : Int))), (11, .slice apA ap.length apC), (12, .int .i64 (ap.length : Int)), (13, .int .i64 (t13 + 1))]) ⟨rfl, rfl, rfl, rfl, rfl, trivial⟩), (St.pick (Γ' := [.own 2 1 b10 (Int.toNat (ap.length : Int)) (Int.toNat (ap.length : Int)) (sI out5 t13 (F_image bp (gI ap t13))), .rd 1 bpA bp.length bpC bp, .rd 1 apA ap.length apC ap]) hS74 [0, 1, 2] (by decide) rfl)⟩
    ·
     have hp82 := of_decide_eq_false ht40
     have hE83 := hE39; rw [ht40] at hE83; clear hE39
     refine wp_exit ?_
     refine p_te ?_
     have hX84 : F_compose_L1 ap bp (Int.toNat ((ap.length : Int) - 0) + 1) 0 (List.replicate (Int.toNat (ap.length : Int)) 0) = (t13, out5) := hT31.symm.trans (show F_compose_L1b ap bp (F_compose_L1 ap bp r36) t13 out5 = (t13, out5) by unfold F_compose_L1b; rw [ht40]; first | done | rfl)
     refine p_te (p_be (p_tn ?_))
     exact ⟨(by rw [hX84]; exact (show 0 ≤ t13 from (by first | omega | (simp only [sS_len, sL_len]; omega) | (simp only [List.length_replicate, sI_len]; omega) | (simp only [List.length_append, List.length_cons, List.length_nil, sI_len, cond_true, cond_false]; omega) | (simp only [List.length_append, List.length_cons, List.length_nil, sI_len, cond_eq_ite, apply_ite List.length]; split <;> simp only [List.length_append, List.length_cons, List.length_nil, sI_len] <;> omega) | grind))), (by rw [hX84]; exact (show (out5.length : Int) = (ap.length : Int) from (by first | omega | (simp only [sS_len, sL_len]; omega) | (simp only [List.length_replicate, sI_len]; omega) | (simp only [List.length_append, List.length_cons, List.length_nil, sI_len, cond_true, cond_false]; omega) | (simp only [List.length_append, List.length_cons, List.length_nil, sI_len, cond_eq_ite, apply_ite List.length]; split <;> simp only [List.length_append, List.length_cons, List.length_nil, sI_len] <;> omega) | grind))), (by rw [hX84]; exact (show t13 ≤ (ap.length : Int) from (by first | omega | (simp only [sS_len, sL_len]; omega) | (simp only [List.length_replicate, sI_len]; omega) | (simp only [List.length_append, List.length_cons, List.length_nil, sI_len, cond_true, cond_false]; omega) | (simp only [List.length_append, List.length_cons, List.length_nil, sI_len, cond_eq_ite, apply_ite List.length]; split <;> simp only [List.length_append, List.length_cons, List.length_nil, sI_len] <;> omega) | grind))), (by rw [hX84]; exact (hE83.sub (L' := [(1, .slice bpA bp.length bpC), (5, .slice b10 (Int.toNat (ap.length : Int)) (Int.toNat (ap.length : Int))), (11, .slice apA ap.length apC), (12, .int .i64 (ap.length : Int)), (13, .int .i64 t13)]) ⟨rfl, rfl, rfl, rfl, rfl, trivial⟩)), (by rw [hX84]; exact (St.pick (Γ' := [.own 2 1 b10 (Int.toNat (ap.length : Int)) (Int.toNat (ap.length : Int)) out5, .rd 1 bpA bp.length bpC bp, .rd 1 apA ap.length apC ap]) hS30 [0, 1, 2] (by decide) rfl))⟩
  ·
   rintro a85 w86 ⟨hi90, hi91, hi92, hE87, hS88⟩; clear hE25 hS14
   refine p_tn ?_
   refine c_seq ?_
   refine c_reg ?_
   refine q_step (v := .slice b10 (Int.toNat (ap.length : Int)) (Int.toNat (ap.length : Int))) hE87 (y_move rfl) rfl rfl rfl ?_; intro a93 hE94; clear hE87
   refine q_step (v := .slice b10 (Int.toNat (ap.length : Int)) (Int.toNat (ap.length : Int))) hE94 (y_assign rfl) rfl rfl rfl ?_; intro a95 hE96; clear hE94
   refine c_nil ?_
   have hE97 := hE96.sub (L' := [(4, .slice b10 (Int.toNat (ap.length : Int)) (Int.toNat (ap.length : Int)))]) ⟨rfl, trivial⟩; clear hE96
   refine p_tn ?_
   refine wp_ret ?_
   have hF : F_compose ap bp = (F_compose_L1 ap bp (Int.toNat ((ap.length : Int) - 0) + 1) 0 (List.replicate (Int.toNat (ap.length : Int)) 0)).2 := by unfold F_compose; rfl
   refine c_ret1 hE97 rfl rfl ?_
   exact ⟨b10, Int.toNat (ap.length : Int), (by rw [hF]; first | rfl | (rw [(St.rdO (i := 0) hS88 rfl).len1])), (by rw [hF, (St.rdO (i := 0) hS88 rfl).len1]; (try dsimp only); exact hS88.ok 0 _ rfl), hS88.ext⟩

def F_ComposeRelations (ap : List Int) (bp : List Int) : (List Int) × (Int) :=
  bif (!decide ((F_relationCode ([ap, bp])) = 0)) then ([], F_relationCode ([ap, bp])) else (bif (!decide ((ap.length : Int) = (bp.length : Int))) then ([], 1) else (F_compose ap bp, 0))
theorem cf_ComposeRelations (args : Array Value) (w : World) : (callFunc 66 args).run Try.prog w = .ok (.enter 66 args) w := by kernel_rfl
set_option maxRecDepth 100000 in
theorem c_ComposeRelations (apA : Option Addr) (apN apC : Nat) (ap : List Int) (bpA : Option Addr) (bpN bpC : Nat) (bp : List Int) (w : World) (apR : RdS w 1 apA apN apC ap) (bpR : RdS w 1 bpA bpN bpC bp) :
    Calls Try.prog 66 #[.slice apA apN apC, .slice bpA bpN bpC] w (Ret fun v w' => ∃ b1 : Option Addr, ∃ c1 : Nat, v = .tuple #[.slice b1 ((F_ComposeRelations ap bp).1).length c1, .int .i64 ((F_ComposeRelations ap bp).2)] ∧ OwnS w' w.heap.size 2 1 b1 ((F_ComposeRelations ap bp).1).length c1 ((F_ComposeRelations ap bp).1) ∧ Ext w w') := by
  obtain rfl : apN = ap.length := apR.len1.symm
  have apLe := apR.le
  obtain rfl : bpN = bp.length := bpR.len1.symm
  have bpLe := bpR.le
  have hS := St.nil w
  have hS1 := St.rd0 hS rfl apR; clear hS
  have hS2 := St.rd0 hS1 rfl bpR; clear hS1
  refine enter (args := [.slice apA ap.length apC, .slice bpA bp.length bpC]) Try.func66 rfl rfl ?_
  rw [Try.ntmps66]; intro a hE
  have hE := hE.sub (L' := [(0, .slice apA ap.length apC), (1, .slice bpA bp.length bpC)]) ⟨rfl, rfl, trivial⟩
  refine c_seq ?_
  refine c_reg ?_
  refine q_step (v := .slice none 0 0) hE (y_assign rfl) rfl rfl rfl ?_; intro a3 hE4; clear hE
  refine q_step (v := .int .i64 0) hE4 (y_assign rfl) rfl rfl rfl ?_; intro a5 hE6; clear hE4
  refine c_nil ?_
  have hE7 := hE6.sub (L' := [(0, .slice apA ap.length apC), (1, .slice bpA bp.length bpC)]) ⟨rfl, rfl, trivial⟩; clear hE6
  refine p_tn ?_
  refine c_seq ?_
  refine c_reg ?_
  refine q_step (v := .slice apA ap.length apC) hE7 (y_move rfl) rfl rfl rfl ?_; intro a8 hE9; clear hE7
  refine q_step (v := .slice bpA bp.length bpC) hE9 (y_move rfl) rfl rfl rfl ?_; intro a10 hE11; clear hE9
  refine l_step hE11 rfl (l_litN (e := 22) (s := 1) (rows := [(⟨apA, ap.length, apC⟩, ap), (⟨bpA, bp.length, bpC⟩, bp)]) (hs := [⟨apA, ap.length, apC⟩, ⟨bpA, bp.length, bpC⟩]) (xss := [ap, bp]) (vs := [.slice apA ap.length apC, .slice bpA bp.length bpC]) hS2 hE11 rfl rfl rfl rfl (fun _ => by kernel_rfl) ⟨⟨(St.rdR (i := 1) hS2 rfl), (St.robR (i := 1) hS2 rfl)⟩, ⟨(St.rdR (i := 0) hS2 rfl), (St.robR (i := 0) hS2 rfl)⟩, trivial⟩ rfl rfl rfl ?_)
  intro b12 w13 hS16 he17 a14 hE15; clear hS2 hE11
  refine l_step hE15 rfl (l_call (f := 122) (argv := [.slice (some ⟨b12, 0, none⟩) 2 2]) hE15 (fun _ => cf_relationCode _ _) rfl rfl (c_relationCode (some ⟨b12, 0, none⟩) 2 2 ([⟨apA, ap.length, apC⟩, ⟨bpA, bp.length, bpC⟩]) ([ap, bp]) w13 (St.rdNo (i := 0) hS16 rfl) (by simp)) ?_)
  rintro _ w19 ⟨rfl, he23⟩ a20 hE21; clear hE15
  have hS22 := St.go hS16 he23; clear hS16
  refine q_step (v := .int .i64 (F_relationCode ([ap, bp]))) hE21 (y_assign rfl) rfl rfl rfl ?_; intro a24 hE25; clear hE21
  refine c_nil ?_
  have hE26 := hE25.sub (L' := [(0, .slice apA ap.length apC), (1, .slice bpA bp.length bpC), (6, .int .i64 (F_relationCode ([ap, bp])))]) ⟨rfl, rfl, rfl, trivial⟩; clear hE25
  refine p_tn ?_
  refine c_seq ?_
  refine wp_block ?_
  refine c_seq ?_
  refine c_reg ?_
  refine q_step (v := .int .i64 (F_relationCode ([ap, bp]))) hE26 (y_move rfl) rfl rfl rfl ?_; intro a27 hE28; clear hE26
  refine q_step (v := .bool (!decide ((F_relationCode ([ap, bp])) = 0))) hE28 (y_neq rfl rfl) rfl rfl rfl ?_; intro a29 hE30; clear hE28
  refine q_step (v := .bool (!decide ((F_relationCode ([ap, bp])) = 0))) hE30 (y_assign rfl) rfl rfl rfl ?_; intro a31 hE32; clear hE30
  refine c_nil ?_
  have hE33 := hE32.sub (L' := [(0, .slice apA ap.length apC), (1, .slice bpA bp.length bpC), (6, .int .i64 (F_relationCode ([ap, bp]))), (11, .bool (!decide ((F_relationCode ([ap, bp])) = 0)))]) ⟨rfl, rfl, rfl, rfl, trivial⟩; clear hE32
  refine p_tn ?_
  refine c_cond hE33 rfl (fun ht34 => ?_) (fun ht34 => ?_)
  ·
   have ht35 := bn_t ht34
   have hp36 := of_decide_eq_false ht35
   have hE37 := hE33; rw [ht34] at hE37; clear hE33
   refine c_seq ?_
   refine c_reg ?_
   refine q_step (v := .int .i64 (F_relationCode ([ap, bp]))) hE37 (y_move rfl) rfl rfl rfl ?_; intro a38 hE39; clear hE37
   refine q_step (v := .slice none 0 0) hE39 (y_assign rfl) rfl rfl rfl ?_; intro a40 hE41; clear hE39
   refine q_step (v := .int .i64 (F_relationCode ([ap, bp]))) hE41 (y_assign rfl) rfl rfl rfl ?_; intro a42 hE43; clear hE41
   refine c_nil ?_
   have hE44 := hE43.sub (L' := [(4, .slice none 0 0), (5, .int .i64 (F_relationCode ([ap, bp])))]) ⟨rfl, rfl, trivial⟩; clear hE43
   refine p_tn ?_
   refine wp_ret ?_
   refine p_br ?_
   refine p_tr ?_
   have hF : F_ComposeRelations ap bp = ([], F_relationCode ([ap, bp])) := by unfold F_ComposeRelations; rw [ht34]; first | done | rfl
   refine c_ret2 hE44 rfl rfl rfl ?_
   exact ⟨none, 0, (by rw [hF]; first | done | (dsimp only; done) | rfl), (by rw [hF]; (try dsimp only); exact OwnS.nilS _ _ _ _), hS22.ext⟩
  ·
   have ht45 := bn_f ht34
   have hp46 := of_decide_eq_true ht45
   have hq47 := relCode_t hp46
   have hE48 := hE33; rw [ht34] at hE48; clear hE33
   refine c_seq ?_
   refine c_reg ?_
   refine q_step (v := .slice apA ap.length apC) hE48 (y_move rfl) rfl rfl rfl ?_; intro a49 hE50; clear hE48
   refine q_step (v := .int .i64 (ap.length : Int)) hE50 (y_len (e := 2) (by kernel_rfl) rfl) rfl rfl rfl ?_; intro a51 hE52; clear hE50
   refine q_step (v := .slice bpA bp.length bpC) hE52 (y_move rfl) rfl rfl rfl ?_; intro a53 hE54; clear hE52
   refine q_step (v := .int .i64 (bp.length : Int)) hE54 (y_len (e := 2) (by kernel_rfl) rfl) rfl rfl rfl ?_; intro a55 hE56; clear hE54
   refine q_step (v := .bool (!decide ((ap.length : Int) = (bp.length : Int)))) hE56 (y_neq rfl rfl) rfl rfl rfl ?_; intro a57 hE58; clear hE56
   refine q_step (v := .bool (!decide ((ap.length : Int) = (bp.length : Int)))) hE58 (y_assign rfl) rfl rfl rfl ?_; intro a59 hE60; clear hE58
   refine c_nil ?_
   have hE61 := hE60.sub (L' := [(0, .slice apA ap.length apC), (1, .slice bpA bp.length bpC), (15, .bool (!decide ((ap.length : Int) = (bp.length : Int))))]) ⟨rfl, rfl, rfl, trivial⟩; clear hE60
   refine p_tn ?_
   refine c_cond hE61 rfl (fun ht62 => ?_) (fun ht62 => ?_)
   ·
    have ht63 := bn_t ht62
    have hp64 := of_decide_eq_false ht63
    have hE65 := hE61; rw [ht62] at hE65; clear hE61
    refine c_seq ?_
    refine c_reg ?_
    refine q_step (v := .slice none 0 0) hE65 (y_assign rfl) rfl rfl rfl ?_; intro a66 hE67; clear hE65
    refine q_step (v := .int .i64 1) hE67 (y_assign rfl) rfl rfl rfl ?_; intro a68 hE69; clear hE67
    refine c_nil ?_
    have hE70 := hE69.sub (L' := [(4, .slice none 0 0), (5, .int .i64 1)]) ⟨rfl, rfl, trivial⟩; clear hE69
    refine p_tn ?_
    refine wp_ret ?_
    refine p_br ?_
    refine p_tr ?_
    have hF : F_ComposeRelations ap bp = ([], 1) := by unfold F_ComposeRelations; rw [ht62, ht34]; first | done | rfl
    refine c_ret2 hE70 rfl rfl rfl ?_
    exact ⟨none, 0, (by rw [hF]; first | done | (dsimp only; done) | rfl), (by rw [hF]; (try dsimp only); exact OwnS.nilS _ _ _ _), hS22.ext⟩
   ·
    have ht71 := bn_f ht62
    have hp72 := of_decide_eq_true ht71
    have hE73 := hE61; rw [ht62] at hE73; clear hE61
    refine wp_skip ?_
    refine p_bn ?_
    refine p_tn ?_
    refine c_seq ?_
    refine c_reg ?_
    refine q_step (v := .slice apA ap.length apC) hE73 (y_move rfl) rfl rfl rfl ?_; intro a74 hE75; clear hE73
    refine q_step (v := .slice bpA bp.length bpC) hE75 (y_move rfl) rfl rfl rfl ?_; intro a76 hE77; clear hE75
    refine l_step hE77 rfl (l_call (f := 126) (argv := [.slice apA ap.length apC, .slice bpA bp.length bpC]) hE77 (fun _ => cf_compose _ _) rfl rfl (c_compose apA ap.length apC ap bpA bp.length bpC bp w19 (St.rdR (i := 2) hS22 rfl) (St.rdR (i := 1) hS22 rfl) (by omega) (by omega) (rel_masks (relCode_t (by assumption)) (by omega))) ?_)
    rintro _ w79 ⟨b84, c85, rfl, ho86, he83⟩ a80 hE81; clear hE77
    have hS82 := St.own hS22 he83 ho86; clear hS22
    refine q_step (v := .slice b84 ((F_compose ap bp).length) c85) hE81 (y_assign rfl) rfl rfl rfl ?_; intro a87 hE88; clear hE81
    refine q_step (v := .int .i64 0) hE88 (y_assign rfl) rfl rfl rfl ?_; intro a89 hE90; clear hE88
    refine c_nil ?_
    have hE91 := hE90.sub (L' := [(4, .slice b84 ((F_compose ap bp).length) c85), (5, .int .i64 0)]) ⟨rfl, rfl, trivial⟩; clear hE90
    refine p_tn ?_
    refine wp_ret ?_
    have hF : F_ComposeRelations ap bp = (F_compose ap bp, 0) := by unfold F_ComposeRelations; rw [ht62, ht34]; first | done | rfl
    refine c_ret2 hE91 rfl rfl rfl ?_
    exact ⟨b84, c85, (by rw [hF]; first | done | (dsimp only; done) | rfl), (by rw [hF]; (try dsimp only); exact hS82.ok 0 _ rfl), hS82.ext⟩

theorem ComposeRelations_len (a b : List Int) : (F_ComposeRelations a b).1.length ≤ a.length := by
  unfold F_ComposeRelations
  cases decide (F_relationCode [a, b] = 0)
  · simp
  · cases decide ((a.length : Int) = (b.length : Int))
    · simp
    · simp only [Bool.not_true, cond_false]
      unfold F_compose
      have := (mapLoop (a.length : Int) (fun t _ => F_image b (gI a t)) (F_compose_L1 a b) (fun _ _ _ _ _ => rfl) (List.replicate (Int.toNat (a.length : Int)) 0) (by simp)).1
      omega
theorem ComposeRelations_cd (a b : List Int) : 0 ≤ (F_ComposeRelations a b).2 ∧ (F_ComposeRelations a b).2 ≤ 2 := by
  have h : 0 ≤ F_relationCode [a, b] ∧ F_relationCode [a, b] ≤ 2 := by
    rw [relCode2]
    cases decide (30 < (a.length : Int)) <;> cases decide (30 < (b.length : Int)) <;> cases F_isRelation a <;> cases F_isRelation b <;> simp
  unfold F_ComposeRelations
  cases decide (F_relationCode [a, b] = 0) <;> cases decide ((a.length : Int) = (b.length : Int)) <;> simp only [Bool.not_true, Bool.not_false, cond_true, cond_false] <;> omega

end Go.Proofs.Ytlbonhloeefnmaa
