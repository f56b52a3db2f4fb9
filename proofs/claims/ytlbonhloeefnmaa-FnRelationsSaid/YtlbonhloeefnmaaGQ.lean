/- GQ: models and contracts, printed by wip/gen/gen.py -/
import Derived.Test.YtlbonhloeefnmaaGD
set_option linter.unusedVariables false
set_option linter.unusedSimpArgs false
namespace Go.Proofs.Ytlbonhloeefnmaa
open Go.RowKit

theorem has_eq {mask : Int} (h0 : 0 ≤ mask) (h1 : mask < 4611686018427387904) {j : Nat} (hj : j ≤ 62) : F_has mask (j : Int) = mask.toNat.testBit j := by
  unfold F_has
  rw [bit_eq h0 (by omega) (by omega) (by omega), Int.toNat_natCast]
theorem shr_small {mask : Int} {i : Nat} (h0 : 0 ≤ mask) (hi : i ≤ 62) (h : ¬ 0 < shrI mask (i : Int)) : mask.toNat < 2 ^ i := by
  rw [shrI_nat h0 (by omega) (by omega), Int.toNat_natCast] at h
  have : mask.toNat / 2 ^ i = 0 := by
    have h' : ¬ 0 < mask.toNat / 2 ^ i := fun h2 => h (by exact_mod_cast h2)
    exact Nat.eq_zero_of_not_pos h'
  exact (Nat.div_eq_zero_iff_lt (Nat.pow_pos (by decide))).1 this
theorem bit_small {mask : Int} {i j : Nat} (h : mask.toNat < 2 ^ i) (hj : i ≤ j) : mask.toNat.testBit j = false :=
  Nat.testBit_lt_two_pow (Nat.lt_of_lt_of_le h (Nat.pow_le_pow_right (by decide) hj))
theorem members_key {mask : Int} {n : Nat} (h0 : 0 ≤ mask) (h1 : mask < 4611686018427387904) (hn : n ≤ 62) (hm : mask.toNat < 2 ^ n) : ∀ (k i : Nat) (out : List Int) (r : Nat), i + k = n → k + 1 ≤ r →
    (F_membersOf_L1 mask r out (i : Int)).1 = out ++ ((List.range' i k).filter (fun (j : Nat) => F_has mask (j : Int))).map (fun (j : Nat) => (j : Int)) := by
  intro k
  induction k with
  | zero =>
    intro i out r hi hr
    obtain ⟨r, rfl⟩ : ∃ r', r = r' + 1 := ⟨r - 1, by omega⟩
    show (F_membersOf_L1b mask _ out _).1 = _
    unfold F_membersOf_L1b
    have : ¬ 0 < shrI mask (i : Int) := by
      rw [shrI_nat h0 (by omega) (by omega), Int.toNat_natCast, Nat.div_eq_of_lt (by rw [show i = n by omega]; exact hm)]; decide
    rw [decide_eq_false this, cond_false]; simp
  | succ k ih =>
    intro i out r hi hr
    obtain ⟨r, rfl⟩ : ∃ r', r = r' + 1 := ⟨r - 1, by omega⟩
    show (F_membersOf_L1b mask _ out _).1 = _
    unfold F_membersOf_L1b
    by_cases h : 0 < shrI mask (i : Int)
    · rw [decide_eq_true h, cond_true, show (i : Int) + 1 = ((i + 1 : Nat) : Int) by omega, ih (i + 1) _ r (by omega) (by omega), List.range'_succ, List.filter_cons]
      cases F_has mask (i : Int)
      · rfl
      · rw [if_pos rfl, List.map_cons, cond_true, List.append_assoc]; rfl
    · rw [decide_eq_false h, cond_false]
      have hz := shr_small h0 (by omega) h
      have : (List.range' i (k + 1)).filter (fun (j : Nat) => F_has mask (j : Int)) = [] := by
        rw [List.filter_eq_nil_iff]
        intro j hj
        rw [List.mem_range'_1] at hj
        rw [has_eq h0 h1 (by omega), bit_small hz (by omega)]; decide
      rw [this]; simp
theorem full_toNat {n : Nat} {mask : Int} (h0 : 0 ≤ mask) (h : mask ≤ fullI (n : Int)) : mask.toNat < 2 ^ n := by
  unfold fullI at h
  rw [Int.toNat_natCast] at h
  have : ((2 : Int) ^ n) = ((2 ^ n : Nat) : Int) := by norm_cast
  have h2 : 0 < 2 ^ n := Nat.pow_pos (by decide)
  rw [this] at h; omega
theorem members_eq {mask : Int} {n : Nat} (hn : n ≤ 62) (h0 : 0 ≤ mask) (hm : mask ≤ fullI (n : Int)) : F_membersOf mask = ((List.range n).filter (fun (j : Nat) => F_has mask (j : Int))).map (fun (j : Nat) => (j : Int)) := by
  unfold F_membersOf
  have := fullI_bd (n := (n : Int)) (by omega) (by omega)
  rw [show (0 : Int) = ((0 : Nat) : Int) from rfl, members_key (n := n) h0 (by omega) hn (full_toNat h0 hm) n 0 [] _ (by omega) (by omega), List.nil_append, List.range_eq_range']
theorem members_lt {mask : Int} {n : Nat} (hn : n ≤ 62) (h0 : 0 ≤ mask) (hm : mask ≤ fullI (n : Int)) (t : Int) (ht : 0 ≤ t) (ht1 : t < ((F_membersOf mask).length : Int)) : 0 ≤ gI (F_membersOf mask) t ∧ gI (F_membersOf mask) t < (n : Int) := by
  unfold gI
  rw [gi_get (by omega)]
  have hmem : (F_membersOf mask)[t.toNat]'(by omega) ∈ F_membersOf mask := List.getElem_mem _
  generalize (F_membersOf mask)[t.toNat]'(by omega) = x at hmem
  rw [members_eq hn h0 hm, List.mem_map] at hmem
  obtain ⟨j, hj, rfl⟩ := hmem
  have := List.mem_range.1 (List.mem_filter.1 hj).1
  omega
theorem members_len {mask : Int} {n : Nat} (hn : n ≤ 62) (h0 : 0 ≤ mask) (hm : mask ≤ fullI (n : Int)) : (F_membersOf mask).length ≤ n := by
  rw [members_eq hn h0 hm, List.length_map]
  exact Nat.le_trans (List.length_filter_le _ _) (by simp)
/-- A loop over a range is a fold. -/
theorem rangeLoop {α : Type} (n : Int) (g : α → Int → α) (L : Nat → α → Int → α × Int) (hL : ∀ r o t, L (r + 1) o t = bif decide (t < n) then L r (g o t) (t + 1) else (o, t)) :
    ∀ (k : Nat) (i : Int) (o : α), n - i = (k : Int) → (L (k + 1) o i).1 = (List.range k).foldl (fun o (j : Nat) => g o (i + (j : Int))) o := by
  intro k
  induction k with
  | zero => intro i o h; rw [hL, decide_eq_false (by omega)]; rfl
  | succ k ih =>
    intro i o h
    rw [hL, decide_eq_true (by omega), cond_true, ih (i + 1) _ (by omega), List.range_succ_eq_map, List.foldl_cons, List.foldl_map, show i + ((0 : Nat) : Int) = i by omega]
    congr 1; funext o j; congr 1; rw [Int.natCast_succ]; omega
theorem foldl_ext' {α β : Type} (f g : α → β → α) : ∀ (l : List β) (o : α), (∀ b ∈ l, ∀ o, f o b = g o b) → l.foldl f o = l.foldl g o := by
  intro l
  induction l with
  | nil => intro o _; rfl
  | cons b l ih => intro o h; rw [List.foldl_cons, List.foldl_cons, h b (List.mem_cons_self ..), ih _ fun b' hb' => h b' (List.mem_cons_of_mem _ hb')]
theorem map_gI (xs : List Int) : (List.range xs.length).map (fun (j : Nat) => gI xs (j : Int)) = xs := by
  apply List.ext_getElem
  · simp
  · intro i h1 h2
    simp only [List.getElem_map, List.getElem_range]
    unfold gI
    rw [Int.toNat_natCast, gi_get h2]
theorem listLoop {α : Type} (xs : List Int) (g : α → Int → α) (L : Nat → α → Int → α × Int) (hL : ∀ r o t, L (r + 1) o t = bif decide (t < (xs.length : Int)) then L r (g o (gI xs t)) (t + 1) else (o, t)) (o : α) :
    (L (Int.toNat ((xs.length : Int) - 0) + 1) o 0).1 = xs.foldl g o := by
  rw [show Int.toNat ((xs.length : Int) - 0) = xs.length by omega, rangeLoop (xs.length : Int) (fun o t => g o (gI xs t)) L hL xs.length 0 o (by omega)]
  conv => rhs; rw [← map_gI xs]
  rw [List.foldl_map]
  congr 1; funext o j; rw [Int.zero_add]
theorem rangeLoop0 {α : Type} (n : Int) (h0 : 0 ≤ n) (g : α → Int → α) (L : Nat → α → Int → α × Int) (hL : ∀ r o t, L (r + 1) o t = bif decide (t < n) then L r (g o t) (t + 1) else (o, t)) (o : α) :
    (L (Int.toNat (n - 0) + 1) o 0).1 = (List.range n.toNat).foldl (fun o (j : Nat) => g o (j : Int)) o := by
  rw [show Int.toNat (n - 0) = n.toNat by omega, rangeLoop n g L hL n.toNat 0 o (by omega)]
  congr 1; funext o j; rw [Int.zero_add]
theorem members_fold {α : Type} {mask : Int} {n : Nat} (hn : n ≤ 62) (h0 : 0 ≤ mask) (hm : mask ≤ fullI (n : Int)) (g : α → Int → α) (o : α) : (F_membersOf mask).foldl g o = (List.range n).foldl (fun o (j : Nat) => bif F_has mask (j : Int) then g o (j : Int) else o) o := by
  rw [members_eq hn h0 hm, List.foldl_map, List.foldl_filter]
  congr 1; funext o j
  cases F_has mask (j : Int) <;> rfl

theorem gI_mem {xs : List Int} {t : Int} (h0 : 0 ≤ t) (h1 : t < (xs.length : Int)) : gI xs t ∈ xs := by
  unfold gI; rw [gi_get (by omega)]; exact List.getElem_mem _
theorem members_all {mask : Int} {n : Nat} (hn : n ≤ 62) (h0 : 0 ≤ mask) (hm : mask ≤ fullI (n : Int)) (q : Int → Bool) : (F_membersOf mask).all q = (List.range n).all (fun (j : Nat) => !F_has mask (j : Int) || q (j : Int)) := by
  rw [members_eq hn h0 hm, List.all_map, List.all_filter]; rfl
theorem members_mem {mask : Int} {n : Nat} (hn : n ≤ 62) (h0 : 0 ≤ mask) (hm : mask ≤ fullI (n : Int)) {y : Int} (h : y ∈ F_membersOf mask) : 0 ≤ y ∧ y < (n : Int) := by
  rw [members_eq hn h0 hm, List.mem_map] at h
  obtain ⟨j, hj, rfl⟩ := h
  have := List.mem_range.1 (List.mem_filter.1 hj).1
  omega
theorem members_len62 {mask : Int} (h0 : 0 ≤ mask) (h1 : mask < 4611686018427387904) : (F_membersOf mask).length ≤ 62 := members_len (n := 62) (by omega) h0 (by show mask ≤ fullI ((62 : Nat) : Int); exact Int.le_sub_one_of_lt h1)
theorem members_lt62 {mask : Int} (h0 : 0 ≤ mask) (h1 : mask < 4611686018427387904) (t : Int) (ht : 0 ≤ t) (ht1 : t < ((F_membersOf mask).length : Int)) : 0 ≤ gI (F_membersOf mask) t ∧ gI (F_membersOf mask) t < 62 := members_lt (n := 62) (by omega) h0 (by show mask ≤ fullI ((62 : Nat) : Int); exact Int.le_sub_one_of_lt h1) t ht ht1
theorem gI_map {f : Nat → Int} {n j : Nat} (h : j < n) : gI ((List.range n).map f) (j : Int) = f j := by
  unfold gI
  rw [Int.toNat_natCast, gi_map (by simpa using h)]; simp
theorem foldl_app2 {β : Type} (f : β → Int) (l : List β) (o : List Int) : l.foldl (fun o j => o ++ [f j]) o = o ++ l.map f := by
  induction l generalizing o with
  | nil => simp
  | cons a l ih => rw [List.foldl_cons, ih]; simp
theorem mapLoop0 (n : Int) (h0 : 0 ≤ n) (f : Int → Int) (L : Nat → List Int → Int → List Int × Int) (hL : ∀ r o t, L (r + 1) o t = bif decide (t < n) then L r (o ++ [f t]) (t + 1) else (o, t)) : (L (Int.toNat (n - 0) + 1) [] 0).1 = (List.range n.toNat).map (fun (j : Nat) => f (j : Int)) := by
  rw [rangeLoop0 n h0 (fun o t => o ++ [f t]) L hL, foldl_app2]; rfl
theorem foldl_and {β : Type} (c : β → Bool) (l : List β) (o : Bool) : l.foldl (fun o j => o && c j) o = (o && l.all c) := by
  induction l generalizing o with
  | nil => simp
  | cons a l ih => rw [List.foldl_cons, ih, List.all_cons, Bool.and_assoc]

theorem gI_replicate {n : Nat} {j : Nat} (h : j < n) : gI (List.replicate n 0) (j : Int) = 0 := by
  unfold gI
  rw [Int.toNat_natCast, gi_get (by simpa using h)]; simp
theorem rangeLoopR {α : Type} (n : Int) (g : α → Int → α) (L : Nat → Int → α → Int × α) (hL : ∀ r t o, L (r + 1) t o = bif decide (t < n) then L r (t + 1) (g o t) else (t, o)) :
    ∀ (k : Nat) (i : Int) (o : α), n - i = (k : Int) → (L (k + 1) i o).2 = (List.range k).foldl (fun o (j : Nat) => g o (i + (j : Int))) o := by
  intro k
  induction k with
  | zero => intro i o h; rw [hL, decide_eq_false (by omega)]; rfl
  | succ k ih =>
    intro i o h
    rw [hL, decide_eq_true (by omega), cond_true, ih (i + 1) _ (by omega), List.range_succ_eq_map, List.foldl_cons, List.foldl_map, show i + ((0 : Nat) : Int) = i by omega]
    congr 1; funext o j; congr 1; rw [Int.natCast_succ]; omega
theorem rangeLoopR0 {α : Type} (n : Int) (h0 : 0 ≤ n) (g : α → Int → α) (L : Nat → Int → α → Int × α) (hL : ∀ r t o, L (r + 1) t o = bif decide (t < n) then L r (t + 1) (g o t) else (t, o)) (o : α) :
    (L (Int.toNat (n - 0) + 1) 0 o).2 = (List.range n.toNat).foldl (fun o (j : Nat) => g o (j : Int)) o := by
  rw [show Int.toNat (n - 0) = n.toNat by omega, rangeLoopR n g L hL n.toNat 0 o (by omega)]
  congr 1; funext o j; rw [Int.zero_add]
theorem mapLoopR0 (n : Int) (h0 : 0 ≤ n) (f : Int → Int) (L : Nat → Int → List Int → Int × List Int) (hL : ∀ r t o, L (r + 1) t o = bif decide (t < n) then L r (t + 1) (o ++ [f t]) else (t, o)) : (L (Int.toNat (n - 0) + 1) 0 []).2 = (List.range n.toNat).map (fun (j : Nat) => f (j : Int)) := by
  rw [rangeLoopR0 n h0 (fun o t => o ++ [f t]) L hL, foldl_app2]; rfl

def F_image_L1b (relation : List Int) (mask : Int) (rec : Int → Int → Int × Int) (out5 : Int) (t11 : Int) : Int × Int :=
  bif (decide (t11 < ((F_membersOf mask).length : Int))) then (rec (orI out5 (gI relation (gI (F_membersOf mask) t11))) (t11 + 1)) else (out5, t11)
def F_image_L1 (relation : List Int) (mask : Int) : Nat → Int → Int → Int × Int
  | 0, out5, t11 => (out5, t11)
  | r + 1, out5, t11 => F_image_L1b relation mask (F_image_L1 relation mask r) out5 t11
def F_image (relation : List Int) (mask : Int) : Int :=
  (F_image_L1 relation mask (Int.toNat (((F_membersOf mask).length : Int) - 0) + 1) 0 0).1
theorem cf_image (args : Array Value) (w : World) : (callFunc 119 args).run Try.prog w = .ok (.enter 119 args) w := by kernel_rfl
set_option maxRecDepth 100000 in
theorem c_image (relationA : Option Addr) (relationN relationC : Nat) (relation : List Int) (mask : Int) (w : World) (relationR : RdS w 1 relationA relationN relationC relation) (hl : relation.length ≤ 30) (h0 : 0 ≤ mask) (h1 : mask ≤ fullI (relation.length : Int)) (h2 : mask < 4611686018427387904) :
    Calls Try.prog 119 #[.slice relationA relationN relationC, .int .i64 mask] w (Ret fun v w' => v = .int .i64 (F_image relation mask) ∧ Ext w w') := by
  obtain rfl : relationN = relation.length := relationR.len1.symm
  have relationLe := relationR.le
  have hml := members_len (mask := mask) (n := relation.length) (by omega) h0 h1
  have hS := St.nil w
  have hS1 := St.rd0 hS rfl relationR; clear hS
  refine enter (args := [.slice relationA relation.length relationC, .int .i64 mask]) Try.func119 rfl rfl ?_
  rw [Try.ntmps119]; intro a hE
  have hE := hE.sub (L' := [(0, .slice relationA relation.length relationC), (1, .int .i64 mask)]) ⟨rfl, rfl, trivial⟩
  refine c_seq ?_
  refine c_reg ?_
  refine q_step (v := .int .i64 0) hE (y_assign rfl) rfl rfl rfl ?_; intro a2 hE3; clear hE
  refine c_nil ?_
  have hE4 := hE3.sub (L' := [(0, .slice relationA relation.length relationC), (1, .int .i64 mask)]) ⟨rfl, rfl, trivial⟩; clear hE3
  refine p_tn ?_
  refine c_seq ?_
  refine c_reg ?_
  refine q_step (v := .int .i64 0) hE4 (y_assign rfl) rfl rfl rfl ?_; intro a5 hE6; clear hE4
  refine c_nil ?_
  have hE7 := hE6.sub (L' := [(0, .slice relationA relation.length relationC), (1, .int .i64 mask), (5, .int .i64 0)]) ⟨rfl, rfl, rfl, trivial⟩; clear hE6
  refine p_tn ?_
  refine c_seq ?_
  refine c_seq ?_
  refine c_reg ?_
  refine q_step (v := .int .i64 mask) hE7 (y_move rfl) rfl rfl rfl ?_; intro a8 hE9; clear hE7
  refine l_step hE9 rfl (l_call (f := 170) (argv := [.int .i64 mask]) hE9 (fun _ => cf_membersOf _ _) rfl rfl (c_membersOf mask w (by omega) (by omega)) ?_)
  rintro _ w11 ⟨b16, c17, rfl, ho18, he15⟩ a12 hE13; clear hE9
  have hS14 := St.own hS1 he15 ho18; clear hS1
  refine q_step (v := .int .i64 ((F_membersOf mask).length : Int)) hE13 (y_len (e := 2) (by kernel_rfl) rfl) rfl rfl rfl ?_; intro a19 hE20; clear hE13
  refine q_step (v := .int .i64 0) hE20 (y_move rfl) rfl rfl rfl ?_; intro a21 hE22; clear hE20
  refine c_nil ?_
  have hE23 := hE22.sub (L' := [(0, .slice relationA relation.length relationC), (5, .int .i64 0), (9, .slice b16 ((F_membersOf mask).length) c17), (10, .int .i64 ((F_membersOf mask).length : Int)), (11, .int .i64 0)]) ⟨rfl, rfl, rfl, rfl, rfl, trivial⟩; clear hE22
  refine p_tn ?_
  refine c_cut1 (fun a' w' => (0 ≤ ((F_image_L1 relation mask (Int.toNat (((F_membersOf mask).length : Int) - 0) + 1) 0 0).2)) ∧ (((F_image_L1 relation mask (Int.toNat (((F_membersOf mask).length : Int) - 0) + 1) 0 0).2) ≤ ((F_membersOf mask).length : Int)) ∧ E a' 23 [(0, .slice relationA relation.length relationC), (5, .int .i64 ((F_image_L1 relation mask (Int.toNat (((F_membersOf mask).length : Int) - 0) + 1) 0 0).1)), (9, .slice b16 ((F_membersOf mask).length) c17), (10, .int .i64 ((F_membersOf mask).length : Int)), (11, .int .i64 ((F_image_L1 relation mask (Int.toNat (((F_membersOf mask).length : Int) - 0) + 1) 0 0).2))] ∧ St w w' [.own 2 1 b16 ((F_membersOf mask).length) c17 (F_membersOf mask), .rd 1 relationA relation.length relationC relation]) ?_ ?_
  ·
   refine wp_block ?_
   refine c_loop (fun r a' w' => ∃ out5 : Int, ∃ t11 : Int, F_image_L1 relation mask r out5 t11 = F_image_L1 relation mask (Int.toNat (((F_membersOf mask).length : Int) - 0) + 1) 0 0 ∧ Int.toNat (((F_membersOf mask).length : Int) - t11) < r ∧ (0 ≤ t11) ∧ (t11 ≤ ((F_membersOf mask).length : Int)) ∧ E a' 23 [(0, .slice relationA relation.length relationC), (5, .int .i64 out5), (9, .slice b16 ((F_membersOf mask).length) c17), (10, .int .i64 ((F_membersOf mask).length : Int)), (11, .int .i64 t11)] ∧ St w w' [.own 2 1 b16 ((F_membersOf mask).length) c17 (F_membersOf mask), .rd 1 relationA relation.length relationC relation]) (r := (Int.toNat (((F_membersOf mask).length : Int) - 0) + 1)) ?_ ?_
   · exact ⟨0, 0, rfl, Nat.lt_succ_self _, (by first | omega | (simp only [sS_len, sL_len]; omega) | (simp only [List.length_replicate, sI_len]; omega) | (simp only [List.length_append, List.length_cons, List.length_nil, sI_len, cond_true, cond_false]; omega) | (simp only [List.length_append, List.length_cons, List.length_nil, sI_len, cond_eq_ite, apply_ite List.length]; split <;> simp only [List.length_append, List.length_cons, List.length_nil, sI_len] <;> omega) | grind), (by first | omega | (simp only [sS_len, sL_len]; omega) | (simp only [List.length_replicate, sI_len]; omega) | (simp only [List.length_append, List.length_cons, List.length_nil, sI_len, cond_true, cond_false]; omega) | (simp only [List.length_append, List.length_cons, List.length_nil, sI_len, cond_eq_ite, apply_ite List.length]; split <;> simp only [List.length_append, List.length_cons, List.length_nil, sI_len] <;> omega) | grind), (hE23.sub (L' := [(0, .slice relationA relation.length relationC), (5, .int .i64 0), (9, .slice b16 ((F_membersOf mask).length) c17), (10, .int .i64 ((F_membersOf mask).length : Int)), (11, .int .i64 0)]) ⟨rfl, rfl, rfl, rfl, rfl, trivial⟩), (St.pick (Γ' := [.own 2 1 b16 ((F_membersOf mask).length) c17 (F_membersOf mask), .rd 1 relationA relation.length relationC relation]) hS14 [0, 1] (by decide) rfl)⟩
   ·
    clear hE23 hS14
    rintro r33 a25 w26 ⟨out5, t11, hT29, hr30, hi31, hi32, hE27, hS28⟩
    obtain ⟨r33, rfl⟩ : ∃ r', r33 = r' + 1 := ⟨r33 - 1, by omega⟩
    refine c_seq ?_
    refine c_reg ?_
    refine q_step (v := .bool (decide (t11 < ((F_membersOf mask).length : Int)))) hE27 (y_lss rfl rfl) rfl rfl rfl ?_; intro a34 hE35; clear hE27
    refine c_nil ?_
    have hE36 := hE35.sub (L' := [(0, .slice relationA relation.length relationC), (5, .int .i64 out5), (9, .slice b16 ((F_membersOf mask).length) c17), (10, .int .i64 ((F_membersOf mask).length : Int)), (11, .int .i64 t11), (12, .bool (decide (t11 < ((F_membersOf mask).length : Int))))]) ⟨rfl, rfl, rfl, rfl, rfl, rfl, trivial⟩; clear hE35
    refine p_tn ?_
    refine c_seq ?_
    refine c_cond hE36 rfl (fun ht37 => ?_) (fun ht37 => ?_)
    ·
     have hp38 := of_decide_eq_true ht37
     have hE39 := hE36; rw [ht37] at hE39; clear hE36
     have hm1 := members_lt (mask := mask) (n := relation.length) (by omega) h0 h1 t11 (by omega) (by omega)
     refine wp_skip ?_
     refine p_tn ?_
     refine c_seq ?_
     refine wp_block ?_
     refine c_seq ?_
     refine c_reg ?_
     refine q_step (v := .pointer (some (adr b16 (Int.toNat t11)))) hE39 (y_idx (by kernel_rfl) (fun _ => by kernel_rfl) rfl rfl (RdS.isS (m := t11) (St.rdO (i := 0) hS28 rfl) (by omega) (by omega)) (by omega) (by omega) (Nat.mul_one _).symm) rfl rfl rfl ?_; intro a40 hE41; clear hE39
     refine q_step (v := .int .i64 (gI (F_membersOf mask) t11)) hE41 (y_load (fun _ => by kernel_rfl) rfl (RdS.elt (St.rdO (i := 0) hS28 rfl) (by omega) (by omega))) rfl rfl rfl ?_; intro a42 hE43; clear hE41
     refine q_step (v := .int .i64 (gI (F_membersOf mask) t11)) hE43 (y_assign rfl) rfl rfl rfl ?_; intro a44 hE45; clear hE43
     refine c_nil ?_
     have hE46 := hE45.sub (L' := [(0, .slice relationA relation.length relationC), (5, .int .i64 out5), (7, .int .i64 (gI (F_membersOf mask) t11)), (9, .slice b16 ((F_membersOf mask).length) c17), (10, .int .i64 ((F_membersOf mask).length : Int)), (11, .int .i64 t11)]) ⟨rfl, rfl, rfl, rfl, rfl, rfl, trivial⟩; clear hE45
     refine p_tn ?_
     refine c_reg ?_
     refine q_step (v := .int .i64 out5) hE46 (y_move rfl) rfl rfl rfl ?_; intro a47 hE48; clear hE46
     refine q_step (v := .slice relationA relation.length relationC) hE48 (y_move rfl) rfl rfl rfl ?_; intro a49 hE50; clear hE48
     refine q_step (v := .int .i64 (gI (F_membersOf mask) t11)) hE50 (y_move rfl) rfl rfl rfl ?_; intro a51 hE52; clear hE50
     refine q_step (v := .pointer (some (adr relationA (Int.toNat (gI (F_membersOf mask) t11))))) hE52 (y_idx (by kernel_rfl) (fun _ => by kernel_rfl) rfl rfl (RdS.isS (m := gI (F_membersOf mask) t11) (St.rdR (i := 1) hS28 rfl) (by omega) (by omega)) (by omega) (by omega) (Nat.mul_one _).symm) rfl rfl rfl ?_; intro a53 hE54; clear hE52
     refine q_step (v := .int .i64 (gI relation (gI (F_membersOf mask) t11))) hE54 (y_load (fun _ => by kernel_rfl) rfl (RdS.elt (St.rdR (i := 1) hS28 rfl) (by omega) (by omega))) rfl rfl rfl ?_; intro a55 hE56; clear hE54
     refine q_step (v := .int .i64 (orI out5 (gI relation (gI (F_membersOf mask) t11)))) hE56 (y_or rfl rfl) rfl rfl rfl ?_; intro a57 hE58; clear hE56
     refine q_step (v := .int .i64 (orI out5 (gI relation (gI (F_membersOf mask) t11)))) hE58 (y_assign rfl) rfl rfl rfl ?_; intro a59 hE60; clear hE58
     refine c_nil ?_
     have hE61 := hE60.sub (L' := [(0, .slice relationA relation.length relationC), (5, .int .i64 (orI out5 (gI relation (gI (F_membersOf mask) t11)))), (9, .slice b16 ((F_membersOf mask).length) c17), (10, .int .i64 ((F_membersOf mask).length : Int)), (11, .int .i64 t11)]) ⟨rfl, rfl, rfl, rfl, rfl, trivial⟩; clear hE60
     refine p_bn ?_
     refine p_tn ?_
     refine c_reg ?_
     refine q_step (v := .int .i64 (t11 + 1)) hE61 (y_add rfl rfl ⟨(by omega), (by omega)⟩) rfl rfl rfl ?_; intro a62 hE63; clear hE61
     refine q_step (v := .int .i64 (t11 + 1)) hE63 (y_move rfl) rfl rfl rfl ?_; intro a64 hE65; clear hE63
     refine c_nil ?_
     have hE66 := hE65.sub (L' := [(0, .slice relationA relation.length relationC), (5, .int .i64 (orI out5 (gI relation (gI (F_membersOf mask) t11)))), (9, .slice b16 ((F_membersOf mask).length) c17), (10, .int .i64 ((F_membersOf mask).length : Int)), (11, .int .i64 (t11 + 1))]) ⟨rfl, rfl, rfl, rfl, rfl, trivial⟩; clear hE65
     refine p_tn ⟨r33, Nat.lt_succ_self _, orI out5 (gI relation (gI (F_membersOf mask) t11)), t11 + 1, (hT29.symm.trans (show F_image_L1b relation mask (F_image_L1 relation mask r33) out5 t11 = F_image_L1 relation mask r33 (orI out5 (gI relation (gI (F_membersOf mask) t11))) (t11 + 1) by unfold F_image_L1b; rw [ht37]; first | done | rfl)).symm, (by omega), (by first | omega | (simp only [sS_len, sL_len]; omega) | (simp only [List.length_replicate, sI_len]; omega) | (simp only [List.length_append, List.length_cons, List.length_nil, sI_len, cond_true, cond_false]; omega) | (simp only [List.length_append, List.length_cons, List.length_nil, sI_len, cond_eq_ite, apply_ite List.length]; split <;> simp only [List.length_append, List.length_cons, List.length_nil, sI_len] <;> omega) | grind), (by first | omega | (simp only [sS_len, sL_len]; omega) | (simp only [List.length_replicate, sI_len]; omega) | (simp only [List.length_append, List.length_cons, List.length_nil, sI_len, cond_true, cond_false]; omega) | (simp only [List.length_append, List.length_cons, List.length_nil, sI_len, cond_eq_ite, apply_ite List.length]; split <;> simp only [List.length_append, List.length_cons, List.length_nil, sI_len] <;> omega) | grind), (hE66.sub (L' := [(0, .slice relationA relation.length relationC), (5, .int .i64 (orI out5 (gI relation (gI (F_membersOf mask) t11)))), (9, .slice b16 ((F_membersOf mask).length) c17), (10, .int .i64 ((F_membersOf mask).length : Int)), (11, .int .i64 (t11 + 1))]) ⟨rfl, rfl, rfl, rfl, rfl, trivial⟩), (St.pick (Γ' := [.own 2 1 b16 ((F_membersOf mask).length) c17 (F_membersOf mask), .rd 1 relationA relation.length relationC relation]) hS28 [0, 1] (by decide) rfl)⟩
    ·
     have hp67 := of_decide_eq_false ht37
     have hE68 := hE36; rw [ht37] at hE68; clear hE36
     refine wp_exit ?_
     refine p_te ?_
     have hX69 : F_image_L1 relation mask (Int.toNat (((F_membersOf mask).length : Int) - 0) + 1) 0 0 = (out5, t11) := hT29.symm.trans (show F_image_L1b relation mask (F_image_L1 relation mask r33) out5 t11 = (out5, t11) by unfold F_image_L1b; rw [ht37]; first | done | rfl)
     refine p_te (p_be (p_tn ?_))
     exact ⟨(by rw [hX69]; exact (show 0 ≤ t11 from (by first | omega | (simp only [sS_len, sL_len]; omega) | (simp only [List.length_replicate, sI_len]; omega) | (simp only [List.length_append, List.length_cons, List.length_nil, sI_len, cond_true, cond_false]; omega) | (simp only [List.length_append, List.length_cons, List.length_nil, sI_len, cond_eq_ite, apply_ite List.length]; split <;> simp only [List.length_append, List.length_cons, List.length_nil, sI_len] <;> omega) | grind))), (by rw [hX69]; exact (show t11 ≤ ((F_membersOf mask).length : Int) from (by first | omega | (simp only [sS_len, sL_len]; omega) | (simp only [List.length_replicate, sI_len]; omega) | (simp only [List.length_append, List.length_cons, List.length_nil, sI_len, cond_true, cond_false]; omega) | (simp only [List.length_append, List.length_cons, List.length_nil, sI_len, cond_eq_ite, apply_ite List.length]; split <;> simp only [List.length_append, List.length_cons, List.length_nil, sI_len] <;> omega) | grind))), (by rw [hX69]; exact (hE68.sub (L' := [(0, .slice relationA relation.length relationC), (5, .int .i64 out5), (9, .slice b16 ((F_membersOf mask).length) c17), (10, .int .i64 ((F_membersOf mask).length : Int)), (11, .int .i64 t11)]) ⟨rfl, rfl, rfl, rfl, rfl, trivial⟩)), (St.pick (Γ' := [.own 2 1 b16 ((F_membersOf mask).length) c17 (F_membersOf mask), .rd 1 relationA relation.length relationC relation]) hS28 [0, 1] (by decide) rfl)⟩
  ·
   rintro a70 w71 ⟨hi75, hi76, hE72, hS73⟩; clear hE23 hS14
   refine p_tn ?_
   refine c_seq ?_
   refine c_reg ?_
   refine q_step (v := .int .i64 ((F_image_L1 relation mask (Int.toNat (((F_membersOf mask).length : Int) - 0) + 1) 0 0).1)) hE72 (y_move rfl) rfl rfl rfl ?_; intro a77 hE78; clear hE72
   refine q_step (v := .int .i64 ((F_image_L1 relation mask (Int.toNat (((F_membersOf mask).length : Int) - 0) + 1) 0 0).1)) hE78 (y_assign rfl) rfl rfl rfl ?_; intro a79 hE80; clear hE78
   refine c_nil ?_
   have hE81 := hE80.sub (L' := [(4, .int .i64 ((F_image_L1 relation mask (Int.toNat (((F_membersOf mask).length : Int) - 0) + 1) 0 0).1))]) ⟨rfl, trivial⟩; clear hE80
   refine p_tn ?_
   refine wp_ret ?_
   have hF : F_image relation mask = (F_image_L1 relation mask (Int.toNat (((F_membersOf mask).length : Int) - 0) + 1) 0 0).1 := by unfold F_image; rfl
   refine c_ret1 hE81 rfl rfl ?_
   exact ⟨(by rw [hF]; first | done | (dsimp only; done) | rfl), hS73.ext⟩

/-- Bit j of a mask. -/
def tb (m : Int) (j : Nat) : Bool := m.toNat.testBit j
/-- A mask of n bits. -/
def Mk (n : Nat) (m : Int) : Prop := 0 ≤ m ∧ m ≤ fullI (n : Int)
theorem le_full {m n : Nat} (h : m < 2 ^ n) : (m : Int) ≤ fullI (n : Int) := by
  unfold fullI
  rw [Int.toNat_natCast]
  have : ((2 : Int) ^ n) = ((2 ^ n : Nat) : Int) := by norm_cast
  rw [this]; omega
theorem Mk.lt {n : Nat} {m : Int} (h : Mk n m) : m.toNat < 2 ^ n := full_toNat h.1 h.2
theorem Mk.sm {n : Nat} {m : Int} (h : Mk n m) (hn : n ≤ 62) : m < 4611686018427387904 := by
  have := fullI_bd (n := (n : Int)) (by omega) (by omega)
  have := h.2; omega
theorem Mk.of {n : Nat} {m : Int} (h0 : 0 ≤ m) (h : m.toNat < 2 ^ n) : Mk n m := by
  refine ⟨h0, ?_⟩
  have := le_full h
  omega
theorem Mk.zero (n : Nat) : Mk n 0 := Mk.of (by omega) (Nat.pow_pos (by decide))
theorem tb_zero (j : Nat) : tb 0 j = false := Nat.zero_testBit j
theorem tb_big {n : Nat} {m : Int} (h : Mk n m) {j : Nat} (hj : n ≤ j) : tb m j = false := bit_small h.lt hj
theorem tb_lt {n : Nat} {m : Int} (h : Mk n m) {j : Nat} (hj : tb m j = true) : j < n := by
  apply Decidable.byContradiction; intro h'
  rw [tb_big h (by omega)] at hj; cases hj
theorem tb_ext {a b : Int} (ha : 0 ≤ a) (hb : 0 ≤ b) (h : ∀ j, tb a j = tb b j) : a = b := by
  have : a.toNat = b.toNat := Nat.eq_of_testBit_eq h
  omega
theorem Mk.ofBits {n : Nat} {m : Int} (h0 : 0 ≤ m) (h : ∀ j, tb m j = true → j < n) : Mk n m :=
  Mk.of h0 (Nat.lt_pow_two_of_testBit _ fun j hj => by
    cases e : m.toNat.testBit j
    · rfl
    · have := h j e; omega)
theorem Mk.or {n : Nat} (hn : n ≤ 62) {a b : Int} (ha : Mk n a) (hb : Mk n b) : Mk n (orI a b) ∧ ∀ j, tb (orI a b) j = (tb a j || tb b j) := by
  have h1 := ha.sm hn
  have h2 := hb.sm hn
  obtain ⟨h3, h4, h5⟩ := orI_testBit ha.1 (by omega) hb.1 (by omega)
  refine ⟨Mk.ofBits h3 fun j hj => ?_, h5⟩
  have e : tb (orI a b) j = (tb a j || tb b j) := h5 j
  rw [e, Bool.or_eq_true] at hj
  rcases hj with h | h
  · exact tb_lt ha h
  · exact tb_lt hb h
theorem Mk.anz {n : Nat} (hn : n ≤ 62) {a b : Int} (ha : Mk n a) (hb : Mk n b) : anI a b = 0 ↔ ∀ j, tb a j = true → tb b j = true := by
  have h1 := ha.sm hn
  have h2 := hb.sm hn
  obtain ⟨h3, h4, h5⟩ := anI_testBit ha.1 (by omega) hb.1 (by omega)
  constructor
  · intro h j hj
    have := h5 j
    rw [h] at this
    have e : (0 : Int).toNat.testBit j = false := Nat.zero_testBit j
    rw [e] at this
    unfold tb at hj ⊢
    rw [hj] at this
    cases hb' : b.toNat.testBit j
    · rw [hb'] at this; cases this
    · rfl
  · intro h
    apply tb_ext h3 (by omega)
    intro j
    rw [tb_zero]
    show (anI a b).toNat.testBit j = false
    rw [h5 j]
    cases ha' : a.toNat.testBit j
    · rfl
    · have := h j ha'
      unfold tb at this
      rw [this]; rfl
theorem tb_has {n : Nat} (hn : n ≤ 62) {m : Int} (h : Mk n m) {j : Nat} (hj : j ≤ 62) : F_has m (j : Int) = tb m j := has_eq h.1 (h.sm hn) hj
theorem tb_pow (t j : Nat) : tb (powI (t : Int)) j = decide (t = j) := by
  unfold tb powI
  have e : ((2 : Int) ^ (t : Int).toNat).toNat = 2 ^ t := by
    rw [Int.toNat_natCast]
    have : ((2 : Int) ^ t) = ((2 ^ t : Nat) : Int) := by norm_cast
    rw [this, Int.toNat_natCast]
  rw [e, Nat.testBit_two_pow]
theorem Mk.pow {n t : Nat} (ht : t < n) : Mk n (powI (t : Int)) :=
  Mk.ofBits (by unfold powI; exact Int.pow_nonneg (by decide)) fun j hj => by
    rw [tb_pow] at hj
    have := of_decide_eq_true hj; omega
theorem fold_or {n : Nat} (hn : n ≤ 62) (p : Nat → Bool) (f : Nat → Int) : ∀ (l : List Nat) (o : Int), Mk n o → (∀ i ∈ l, p i = true → Mk n (f i)) →
    Mk n (l.foldl (fun o i => bif p i then orI o (f i) else o) o) ∧ ∀ j, (tb (l.foldl (fun o i => bif p i then orI o (f i) else o) o) j = true ↔ (tb o j = true ∨ ∃ i, i ∈ l ∧ p i = true ∧ tb (f i) j = true)) := by
  intro l
  induction l with
  | nil => intro o ho _; exact ⟨ho, fun j => ⟨fun h => .inl h, fun h => h.elim id fun ⟨i, hi, _⟩ => by cases hi⟩⟩
  | cons a l ih =>
    intro o ho hf
    rw [List.foldl_cons]
    cases hp : p a
    · obtain ⟨h1, h2⟩ := ih o ho fun i hi => hf i (List.mem_cons_of_mem _ hi)
      refine ⟨h1, fun j => (h2 j).trans ⟨fun h => h.elim .inl fun ⟨i, hi, h⟩ => .inr ⟨i, List.mem_cons_of_mem _ hi, h⟩, fun h => h.elim .inl fun ⟨i, hi, hq⟩ => ?_⟩⟩
      rcases List.mem_cons.1 hi with rfl | hi
      · rw [hp] at hq; cases hq.1
      · exact .inr ⟨i, hi, hq⟩
    · obtain ⟨h3, h4⟩ := Mk.or hn ho (hf a (List.mem_cons_self ..) hp)
      obtain ⟨h1, h2⟩ := ih _ h3 fun i hi => hf i (List.mem_cons_of_mem _ hi)
      refine ⟨h1, fun j => (h2 j).trans ?_⟩
      rw [h4 j, Bool.or_eq_true]
      constructor
      · rintro ((h | h) | ⟨i, hi, h⟩)
        · exact .inl h
        · exact .inr ⟨a, List.mem_cons_self .., hp, h⟩
        · exact .inr ⟨i, List.mem_cons_of_mem _ hi, h⟩
      · rintro (h | ⟨i, hi, h⟩)
        · exact .inl (.inl h)
        · rcases List.mem_cons.1 hi with rfl | hi
          · exact .inl (.inr h.2)
          · exact .inr ⟨i, hi, h⟩
/-- A relation: a list of n masks of n bits. -/
def Rl (n : Nat) (a : List Int) : Prop := a.length = n ∧ ∀ i : Nat, i < n → Mk n (gI a (i : Int))
/-- i sees j. -/
def rb (a : List Int) (i j : Nat) : Bool := tb (gI a (i : Int)) j
theorem l01Image_bits {n : Nat} (hn : n ≤ 62) {a : List Int} {mask : Int} (ha : Rl n a) (hm : Mk n mask) : Mk n (F_l01Image a mask) ∧ ∀ j, (tb (F_l01Image a mask) j = true ↔ ∃ i, tb mask i = true ∧ rb a i j = true) := by
  unfold F_l01Image
  rw [rangeLoop0 (a.length : Int) (by omega) (fun o i => bif F_l01Bit mask i then orI o (gI a i) else o) (F_l01Image_L1 a mask) (fun _ _ _ => rfl), Int.toNat_natCast]
  obtain ⟨h1, h2⟩ := fold_or hn (fun i => F_l01Bit mask (i : Int)) (fun i => gI a (i : Int)) (List.range a.length) 0 (Mk.zero n) (fun i hi _ => ha.2 i (by rw [← ha.1]; exact List.mem_range.1 hi))
  refine ⟨h1, fun j => (h2 j).trans ⟨?_, ?_⟩⟩
  · rintro (h | ⟨i, hi, h, h'⟩)
    · rw [tb_zero] at h; cases h
    · have := List.mem_range.1 hi
      have hl := ha.1
      exact ⟨i, (tb_has hn hm (by omega)).symm.trans h, h'⟩
  · rintro ⟨i, h, h'⟩
    have hi := tb_lt hm h
    refine .inr ⟨i, List.mem_range.2 (by rw [ha.1]; exact hi), ?_, h'⟩
    exact (tb_has hn hm (by omega)).trans h
theorem image_eq {n : Nat} (hn : n ≤ 62) {a : List Int} {mask : Int} (hl : a.length = n) (hm : Mk n mask) : F_image a mask = F_l01Image a mask := by
  unfold F_image F_l01Image
  subst hl
  rw [listLoop (F_membersOf mask) (fun o m => orI o (gI a m)) (F_image_L1 a mask) (fun _ _ _ => rfl), members_fold (n := a.length) hn hm.1 hm.2,
    rangeLoop0 (a.length : Int) (by omega) (fun o i => bif F_l01Bit mask i then orI o (gI a i) else o) (F_l01Image_L1 a mask) (fun _ _ _ => rfl), Int.toNat_natCast]
  rfl

theorem pow_fold {n : Nat} (hn : n ≤ 62) (p : Nat → Bool) : Mk n ((List.range n).foldl (fun o i => bif p i then orI o (powI (i : Int)) else o) 0) ∧ ∀ j, tb ((List.range n).foldl (fun o i => bif p i then orI o (powI (i : Int)) else o) 0) j = (decide (j < n) && p j) := by
  obtain ⟨h1, h2⟩ := fold_or hn p (fun i => powI (i : Int)) (List.range n) 0 (Mk.zero n) (fun i hi _ => Mk.pow (List.mem_range.1 hi))
  refine ⟨h1, fun j => ?_⟩
  rw [Bool.eq_iff_iff, h2 j, Bool.and_eq_true, decide_eq_true_iff]
  constructor
  · rintro (h | ⟨i, hi, h3, h4⟩)
    · rw [tb_zero] at h; cases h
    · rw [tb_pow] at h4
      have := of_decide_eq_true h4
      subst this
      exact ⟨List.mem_range.1 hi, h3⟩
  · rintro ⟨h3, h4⟩
    exact .inr ⟨j, List.mem_range.2 h3, h4, by rw [tb_pow]; simp⟩
theorem within_bits {n : Nat} (hn : n ≤ 62) {a b : Int} (ha : Mk n a) (hb : Mk n b) : F_within a b = true ↔ ∀ j, tb a j = true → tb b j = true := by
  unfold F_within; rw [decide_eq_true_iff]; exact Mk.anz hn ha hb
theorem image_fold {a : List Int} {mask : Int} {n : Nat} (hn : n ≤ 62) (h0 : 0 ≤ mask) (hm : mask ≤ fullI (n : Int)) : F_image a mask = (List.range n).foldl (fun o (i : Nat) => bif F_has mask (i : Int) then orI o (gI a (i : Int)) else o) 0 := by
  unfold F_image
  rw [listLoop (F_membersOf mask) (fun o m => orI o (gI a m)) (F_image_L1 a mask) (fun _ _ _ => rfl), members_fold hn h0 hm]
theorem Mk.mk' {n : Nat} {m : Int} (h0 : 0 ≤ m) (h : m ≤ fullI (n : Int)) : Mk n m := ⟨h0, h⟩

end Go.Proofs.Ytlbonhloeefnmaa
