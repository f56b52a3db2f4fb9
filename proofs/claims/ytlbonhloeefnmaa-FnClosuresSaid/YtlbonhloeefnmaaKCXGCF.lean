/- GCF: models and contracts, printed by wip/gen/gen.py -/
import Derived.Test.YtlbonhloeefnmaaKCXGW
set_option linter.unusedVariables false
set_option linter.unusedSimpArgs false
namespace Go.Proofs.Ytlbonhloeefnmaa
open Go.RowKit
theorem sI_self {xs : List Int} {t : Int} (h0 : 0 ≤ t) (h : t < (xs.length : Int)) : sI xs t (gI xs t) = xs := by
  apply ext_gi (by rw [sI_len])
  intro j hj
  unfold sI gI
  rw [gi_set (by omega)]
  by_cases e : t.toNat = j
  · rw [if_pos e, e]
  · rw [if_neg e]
theorem mapLoop_key (n : Int) (h : Int → Int → Int) (L : Nat → Int → List Int → Int × List Int) (hL : ∀ r t xs, 0 ≤ t → (xs.length : Int) = n → L (r + 1) t xs = bif decide (t < n) then L r (t + 1) (sI xs t (h t (gI xs t))) else (t, xs)) (xs : List Int) :
    ∀ (k : Nat) (t : Int) (ys : List Int), 0 ≤ t → n - t = (k : Int) → (ys.length : Int) = n → (∀ j : Nat, (j : Int) < t → gI ys j = h j (gI xs j)) → (∀ j : Nat, t ≤ (j : Int) → gI ys j = gI xs j) →
    ((L (k + 1) t ys).2.length : Int) = n ∧ ∀ j : Nat, (j : Int) < n → gI (L (k + 1) t ys).2 j = h j (gI xs j) := by
  intro k
  induction k with
  | zero =>
    intro t ys h0 hk hl h1 h2
    rw [hL _ _ _ h0 hl, decide_eq_false (by omega), cond_false]
    exact ⟨hl, fun j hj => h1 j (by omega)⟩
  | succ k ih =>
    intro t ys h0 hk hl h1 h2
    rw [hL _ _ _ h0 hl, decide_eq_true (by omega), cond_true]
    have hs : ∀ j : Nat, gI (sI ys t (h t (gI ys t))) j = if t.toNat = j then h t (gI ys t) else gI ys j := fun j => by
      unfold sI
      show gi _ _ = _
      rw [gi_set (by omega), Int.toNat_natCast]; rfl
    refine ih (t + 1) _ (by omega) (by omega) (by rw [sI_len]; exact hl) (fun j hj => ?_) (fun j hj => ?_)
    · rw [hs]
      by_cases e : t.toNat = j
      · rw [if_pos e]
        have e2 : t = (j : Int) := by omega
        rw [e2, h2 j (by omega)]
      · rw [if_neg e]; exact h1 j (by omega)
    · rw [hs, if_neg (by omega)]; exact h2 j (by omega)
theorem mapLoop (n : Int) (h : Int → Int → Int) (L : Nat → Int → List Int → Int × List Int) (hL : ∀ r t xs, 0 ≤ t → (xs.length : Int) = n → L (r + 1) t xs = bif decide (t < n) then L r (t + 1) (sI xs t (h t (gI xs t))) else (t, xs)) (xs : List Int) (hl : (xs.length : Int) = n) :
    ((L (Int.toNat (n - 0) + 1) 0 xs).2.length : Int) = n ∧ ∀ j : Nat, (j : Int) < n → gI (L (Int.toNat (n - 0) + 1) 0 xs).2 j = h j (gI xs j) :=
  mapLoop_key n h L hL xs (Int.toNat (n - 0)) 0 xs (by omega) (by omega) hl (fun j hj => by omega) (fun _ _ => rfl)
theorem list_map_ext {xs : List Int} {n : Nat} {f : Nat → Int} (hl : xs.length = n) (h : ∀ j, j < n → gI xs (j : Int) = f j) : xs = (List.range n).map f := by
  rw [← map_gI xs, hl]
  exact List.map_congr_left fun j hj => h j (List.mem_range.1 hj)
def sumN (xs : List Int) : Nat := (xs.map Int.toNat).sum
theorem gI_cons (a : Int) (xs : List Int) (j : Nat) : gI (a :: xs) ((j + 1 : Nat) : Int) = gI xs (j : Int) := by
  unfold gI gi; rw [Int.toNat_natCast, Int.toNat_natCast]; rfl
theorem sumN_le : ∀ {xs ys : List Int}, ys.length = xs.length → (∀ j : Nat, j < xs.length → gI ys (j : Int) ≤ gI xs (j : Int)) → sumN ys ≤ sumN xs
  | [], [], _, _ => Nat.le_refl _
  | [], _ :: _, hl, _ => by simp at hl
  | _ :: _, [], hl, _ => by simp at hl
  | a :: xs, b :: ys, hl, h => by
    have h0 : b ≤ a := h 0 (by simp)
    have := sumN_le (xs := xs) (ys := ys) (by simpa using hl) fun j hj => by
      have := h (j + 1) (by simp; omega)
      rwa [gI_cons, gI_cons] at this
    unfold sumN at this ⊢
    rw [List.map_cons, List.map_cons, List.sum_cons, List.sum_cons]
    omega
theorem sumN_lt : ∀ {xs ys : List Int}, ys.length = xs.length → (∀ j : Nat, j < xs.length → 0 ≤ gI ys (j : Int) ∧ gI ys (j : Int) ≤ gI xs (j : Int)) → ys ≠ xs → sumN ys < sumN xs
  | [], [], _, _, hne => absurd rfl hne
  | [], _ :: _, hl, _, _ => by simp at hl
  | _ :: _, [], hl, _, _ => by simp at hl
  | a :: xs, b :: ys, hl, h, hne => by
    have h0 : 0 ≤ b ∧ b ≤ a := h 0 (by simp)
    have hr : ∀ j : Nat, j < xs.length → 0 ≤ gI ys (j : Int) ∧ gI ys (j : Int) ≤ gI xs (j : Int) := fun j hj => by
      have := h (j + 1) (by simp; omega)
      rwa [gI_cons, gI_cons] at this
    have hl' : ys.length = xs.length := by simpa using hl
    have hle := sumN_le hl' fun j hj => (hr j hj).2
    by_cases hb : b = a
    · have := sumN_lt hl' hr fun e => hne (by rw [hb, e])
      unfold sumN at this ⊢
      rw [List.map_cons, List.map_cons, List.sum_cons, List.sum_cons]
      omega
    · unfold sumN at hle ⊢
      rw [List.map_cons, List.map_cons, List.sum_cons, List.sum_cons]
      omega
theorem Mk.and {n : Nat} (hn : n ≤ 62) {a b : Int} (ha : Mk n a) (hb : Mk n b) : Mk n (andI a b) ∧ (∀ j, tb (andI a b) j = (tb a j && tb b j)) ∧ andI a b ≤ b := by
  have h1 := ha.sm hn
  have h2 := hb.sm hn
  obtain ⟨h3, h4, h5⟩ := andI_testBit ha.1 (by omega) hb.1 (by omega)
  refine ⟨Mk.ofBits h3 fun j hj => ?_, h5, (andI_le ha.1 (by omega) hb.1 (by omega)).2.2⟩
  have e : tb (andI a b) j = (tb a j && tb b j) := h5 j
  rw [e, Bool.and_eq_true] at hj
  exact tb_lt ha hj.1
theorem rl_of {f0 : Int} {f1 : List Int} (h0 : 0 ≤ f0) (hl : (f1.length : Int) = f0) (hx : ∀ m : Int, 0 ≤ m → m < (f1.length : Int) → 0 ≤ gI f1 m ∧ gI f1 m ≤ fullI f0) : Rl f0.toNat f1 := by
  refine ⟨by omega, fun i hi => ?_⟩
  have := hx (i : Int) (by omega) (by omega)
  have e : ((f0.toNat : Nat) : Int) = f0 := by omega
  exact ⟨this.1, by rw [e]; exact this.2⟩
theorem frame_mm {f0 : Int} {f1 : List Int} (h : F_isFrame f0 f1 = true) : ∀ m : Int, 0 ≤ m → m < (f1.length : Int) → 0 ≤ gI f1 m ∧ gI f1 m ≤ fullI (f1.length : Int) := by
  rw [isFrame_eq] at h
  intro m h0 h1
  rw [(l05Is_t h).2]; exact l05Is_m h m h0 h1
def ecap (n : Int) : Nat := n.toNat * (fullI n).toNat
theorem l01Closure_loop2 (ap : List Int) (k : Int) (r : Nat) (i : Int) (o : List Int) : F_l01Closure_L2 ap k r i o = F_transitive_L2 ap k r i o := by
  induction r generalizing i o with
  | zero => rfl
  | succ r ih =>
    show F_l01Closure_L2b ap k _ i o = F_transitive_L2b ap k _ i o
    unfold F_l01Closure_L2b F_transitive_L2b
    rw [ih]; rfl
theorem l01Closure_loop1 (ap : List Int) (r : Nat) (i : Int) (o : List Int) : F_l01Closure_L1 ap r i o = F_transitive_L1 ap r i o := by
  induction r generalizing i o with
  | zero => rfl
  | succ r ih =>
    show F_l01Closure_L1b ap _ i o = F_transitive_L1b ap _ i o
    unfold F_l01Closure_L1b F_transitive_L1b
    rw [ih, l01Closure_loop2]
theorem l01Closure_eq (ap : List Int) : F_l01Closure ap = F_transitive ap := by
  unfold F_l01Closure F_transitive; rw [l01Closure_loop1]
theorem l01Closure_len (ap : List Int) : (F_l01Closure ap).length = ap.length := by rw [l01Closure_eq, transitive_len]
theorem rl_ofL {a : List Int} (h : ∀ m : Int, 0 ≤ m → m < (a.length : Int) → 0 ≤ gI a m ∧ gI a m ≤ fullI (a.length : Int)) : Rl a.length a := ⟨rfl, fun i hi => h (i : Int) (by omega) (by omega)⟩
theorem rl_mask {a : List Int} {n : Nat} (h : Rl n a) (x : Int) (h0 : 0 ≤ x) (h1 : x < (n : Int)) : Mk n (gI a x) := by
  have := h.2 x.toNat (by omega)
  rwa [show ((x.toNat : Nat) : Int) = x by omega] at this
theorem sumN_bd : ∀ (xs : List Int) (c : Nat), (∀ j : Nat, j < xs.length → (gI xs (j : Int)).toNat ≤ c) → sumN xs ≤ xs.length * c
  | [], _, _ => by simp [sumN]
  | a :: xs, c, h => by
    have h0 : a.toNat ≤ c := h 0 (by simp)
    have := sumN_bd xs c fun j hj => by
      have := h (j + 1) (by simp; omega)
      rwa [gI_cons] at this
    unfold sumN at this ⊢
    rw [List.map_cons, List.sum_cons, List.length_cons, Nat.succ_mul]
    omega
theorem rl_cap {f0 : Int} {b : List Int} (h0 : 0 ≤ f0) (h8 : f0 ≤ 8) (h : Rl f0.toNat b) : sumN b ≤ ecap f0 := by
  have hf := fullI_bd (n := f0) h0 (by omega)
  have := sumN_bd b (fullI f0).toNat fun j hj => by
    have := (h.2 j (by have := h.1; omega)).2
    rw [show ((f0.toNat : Nat) : Int) = f0 by omega] at this
    omega
  rwa [h.1] at this
/-- It has grown, or the flag is down. -/
def Gr (b0 b : List Int) (f : Bool) : Prop := sumN b0 ≤ sumN b ∧ (f = true → sumN b0 < sumN b)
theorem Gr.refl (b : List Int) : Gr b b false := ⟨Nat.le_refl _, fun h => by cases h⟩
theorem Gr.dec {b0 b : List Int} {f m : Bool} {r cap : Nat} (h : Gr b0 b f) (hc : sumN b ≤ cap) (hm : m = true) (hr : 2 * (cap - sumN b0) + (bif m then 1 else 0) < r + 1) : 2 * (cap - sumN b) + (bif f then 1 else 0) < r := by
  subst hm
  have h1 := h.1
  rw [cond_true] at hr
  cases f
  · rw [cond_false]; omega
  · have := h.2 rfl
    rw [cond_true]; omega
theorem sumN_set {n : Nat} {a : List Int} (h : Rl n a) {y : Nat} (hy : y < n) {v : Int} (hv : gI a (y : Int) < v) (h0 : 0 ≤ gI a (y : Int)) : sumN a < sumN (sI a (y : Int) v) := by
  have hl : a.length = (sI a (y : Int) v).length := (sI_len a (y : Int) v).symm
  refine sumN_lt hl (fun j hj => ?_) fun e => ?_
  · rw [sI_len] at hj
    rw [gI_sI (by rw [h.1]; exact hy)]
    refine ⟨(h.2 j (by have := h.1; omega)).1, ?_⟩
    by_cases e : y = j
    · subst e; rw [if_pos rfl]; omega
    · rw [if_neg e]; exact Int.le_refl _
  · have := gI_sI (xs := a) (i := y) (v := v) (by rw [h.1]; exact hy) y
    rw [if_pos rfl, ← e] at this
    omega
/-- One step: mask m goes into row y. -/
theorem ec_core {n : Nat} (hn : n ≤ 8) {a : List Int} (h : Rl n a) {m : Int} (hm : Mk n m) {y : Nat} (hy : y < n) : Rl n (sI a (y : Int) (orI (gI a (y : Int)) m)) ∧ (anI m (gI a (y : Int)) = 0 → sI a (y : Int) (orI (gI a (y : Int)) m) = a) ∧ (¬ anI m (gI a (y : Int)) = 0 → sumN a < sumN (sI a (y : Int) (orI (gI a (y : Int)) m))) := by
  have hr := h.2 y hy
  obtain ⟨o1, o2⟩ := Mk.or (by omega) hr hm
  refine ⟨h.set hy o1, fun hz => ?_, fun hz => ?_⟩
  · rw [Mk.anz (by omega) hm hr] at hz
    have e : orI (gI a (y : Int)) m = gI a (y : Int) := by
      apply tb_ext o1.1 hr.1
      intro j
      rw [o2 j]
      cases e : tb m j
      · rw [Bool.or_false]
      · rw [hz j e]; rfl
    rw [e]
    exact sI_self (by omega) (by have := h.1; omega)
  · refine sumN_set h hy ?_ hr.1
    rw [Mk.anz (by omega) hm hr] at hz
    refine mk_mono hr o1 (fun j hj => by rw [o2 j, hj]; rfl) ?_
    apply Classical.byContradiction
    intro hno
    apply hz
    intro j hj
    cases e : tb (gI a (y : Int)) j
    · exact absurd ⟨j, by rw [o2 j, hj, Bool.or_true], e⟩ hno
    · rfl
theorem ec_body {n : Nat} (hn : n ≤ 8) {a : List Int} (h : Rl n a) {x y : Int} (hx0 : 0 ≤ x) (hx : x < (n : Int)) (hy0 : 0 ≤ y) (hy : y < (n : Int)) : Rl n (bif ((F_l01Bit (gI a x) y) && (!decide ((anI (gI a x) (gI a y)) = 0))) then sI a y (orI (gI a y) (gI a x)) else a) ∧ (bif ((F_l01Bit (gI a x) y) && (!decide ((anI (gI a x) (gI a y)) = 0))) then sI a y (orI (gI a y) (gI a x)) else a).length = a.length ∧ ∀ b0 f, Gr b0 a f → Gr b0 (bif ((F_l01Bit (gI a x) y) && (!decide ((anI (gI a x) (gI a y)) = 0))) then sI a y (orI (gI a y) (gI a x)) else a) (((F_l01Bit (gI a x) y) && (!decide ((anI (gI a x) (gI a y)) = 0))) || f) := by
  have hm := rl_mask h x hx0 hx
  obtain ⟨c1, c2, c3⟩ := ec_core hn h hm (y := y.toNat) (by omega)
  rw [show ((y.toNat : Nat) : Int) = y by omega] at c1 c2 c3
  cases hc : ((F_l01Bit (gI a x) y) && (!decide ((anI (gI a x) (gI a y)) = 0)))
  · rw [cond_false]; exact ⟨h, rfl, fun b0 f hg => by rw [Bool.false_or]; exact hg⟩
  · rw [cond_true]
    rw [Bool.and_eq_true, Bool.not_eq_true', decide_eq_false_iff_not] at hc
    have := c3 hc.2
    exact ⟨c1, sI_len _ _ _, fun b0 f hg => ⟨by have := hg.1; omega, fun _ => by have := hg.1; omega⟩⟩
theorem ec_body2 {n : Nat} (hn : n ≤ 8) {a : List Int} (h : Rl n a) {m y : Int} (hm : Mk n m) (hy0 : 0 ≤ y) (hy : y < (n : Int)) : Rl n (sI a y (orI (gI a y) m)) ∧ (sI a y (orI (gI a y) m)).length = a.length ∧ ∀ b0 f, Gr b0 a f → Gr b0 (sI a y (orI (gI a y) m)) (f || (!(F_within m (gI a y)))) := by
  obtain ⟨c1, c2, c3⟩ := ec_core hn h hm (y := y.toNat) (by omega)
  rw [show ((y.toNat : Nat) : Int) = y by omega] at c1 c2 c3
  refine ⟨c1, sI_len _ _ _, fun b0 f hg => ?_⟩
  unfold F_within
  by_cases hz : anI m (gI a y) = 0
  · rw [c2 hz, decide_eq_true hz, Bool.not_true, Bool.or_false]; exact hg
  · have := c3 hz
    exact ⟨by have := hg.1; omega, fun _ => by have := hg.1; omega⟩
def F_l01Reflexive_L1b (ap : List Int) (rec : (List Int) → Int → (List Int) × Int) (out3 : List Int) (i4 : Int) : (List Int) × Int :=
  bif (decide (i4 < (ap.length : Int))) then (rec (out3 ++ ([orI (gI ap i4) (powI i4)])) (i4 + 1)) else (out3, i4)
def F_l01Reflexive_L1 (ap : List Int) : Nat → (List Int) → Int → (List Int) × Int
  | 0, out3, i4 => (out3, i4)
  | r + 1, out3, i4 => F_l01Reflexive_L1b ap (F_l01Reflexive_L1 ap r) out3 i4
def F_l01Reflexive (ap : List Int) : List Int :=
  (F_l01Reflexive_L1 ap (Int.toNat ((ap.length : Int) - 0) + 1) ([]) 0).1
theorem cf_l01Reflexive (args : Array Value) (w : World) : (callFunc 141 args).run Try.prog w = .ok (.enter 141 args) w := by kernel_rfl
set_option maxRecDepth 100000 in
theorem c_l01Reflexive (apA : Option Addr) (apN apC : Nat) (ap : List Int) (w : World) (apR : RdS w 1 apA apN apC ap) (hl : ap.length ≤ 30) :
    Calls Try.prog 141 #[.slice apA apN apC] w (Ret fun v w' => ∃ b1 : Option Addr, ∃ c1 : Nat, v = .slice b1 (F_l01Reflexive ap).length c1 ∧ OwnS w' w.heap.size 2 1 b1 (F_l01Reflexive ap).length c1 (F_l01Reflexive ap) ∧ Ext w w') := by
  obtain rfl : apN = ap.length := apR.len1.symm
  have apLe := apR.le
  have hS := St.nil w
  have hS1 := St.rd0 hS rfl apR; clear hS
  refine enter (args := [.slice apA ap.length apC]) Try.func141 rfl rfl ?_
  rw [Try.ntmps141]; intro a hE
  have hE := hE.sub (L' := [(0, .slice apA ap.length apC)]) ⟨rfl, trivial⟩
  refine c_seq ?_
  refine c_reg ?_
  refine q_step (v := .slice none 0 0) hE (y_assign rfl) rfl rfl rfl ?_; intro a2 hE3; clear hE
  refine c_nil ?_
  have hE4 := hE3.sub (L' := [(0, .slice apA ap.length apC)]) ⟨rfl, trivial⟩; clear hE3
  refine p_tn ?_
  refine c_seq ?_
  refine c_reg ?_
  refine l_step hE4 rfl (l_lit (e := 2) (s := 1) (xs := []) (vs := []) hS1 hE4 rfl (fun _ => by kernel_rfl) rfl rfl rfl ?_)
  intro b5 w6 hS9 he10 a7 hE8; clear hS1 hE4
  refine q_step (v := .slice (some ⟨b5, 0, none⟩) 0 0) hE8 (y_assign rfl) rfl rfl rfl ?_; intro a11 hE12; clear hE8
  refine c_nil ?_
  have hE13 := hE12.sub (L' := [(0, .slice apA ap.length apC), (3, .slice (some ⟨b5, 0, none⟩) 0 0)]) ⟨rfl, rfl, trivial⟩; clear hE12
  refine p_tn ?_
  refine c_seq ?_
  refine c_seq ?_
  refine c_reg ?_
  refine q_step (v := .int .i64 0) hE13 (y_assign rfl) rfl rfl rfl ?_; intro a14 hE15; clear hE13
  refine c_nil ?_
  have hE16 := hE15.sub (L' := [(0, .slice apA ap.length apC), (3, .slice (some ⟨b5, 0, none⟩) 0 0), (4, .int .i64 0)]) ⟨rfl, rfl, rfl, trivial⟩; clear hE15
  refine p_tn ?_
  refine c_cut1 (fun a' w' => ∃ out3A_17 : Option Addr, ∃ out3C_17 : Nat, (0 ≤ ((F_l01Reflexive_L1 ap (Int.toNat ((ap.length : Int) - 0) + 1) ([]) 0).2)) ∧ (((F_l01Reflexive_L1 ap (Int.toNat ((ap.length : Int) - 0) + 1) ([]) 0).2) ≤ (ap.length : Int)) ∧ ((((F_l01Reflexive_L1 ap (Int.toNat ((ap.length : Int) - 0) + 1) ([]) 0).1).length : Int) ≤ ((F_l01Reflexive_L1 ap (Int.toNat ((ap.length : Int) - 0) + 1) ([]) 0).2)) ∧ E a' 23 [(0, .slice apA ap.length apC), (3, .slice out3A_17 (((F_l01Reflexive_L1 ap (Int.toNat ((ap.length : Int) - 0) + 1) ([]) 0).1).length) out3C_17), (4, .int .i64 ((F_l01Reflexive_L1 ap (Int.toNat ((ap.length : Int) - 0) + 1) ([]) 0).2))] ∧ St w w' [.own 2 1 out3A_17 (((F_l01Reflexive_L1 ap (Int.toNat ((ap.length : Int) - 0) + 1) ([]) 0).1).length) out3C_17 ((F_l01Reflexive_L1 ap (Int.toNat ((ap.length : Int) - 0) + 1) ([]) 0).1), .rd 1 apA ap.length apC ap]) ?_ ?_
  ·
   refine wp_block ?_
   refine c_loop (fun r a' w' => ∃ out3 : List Int, ∃ i4 : Int, ∃ out3A : Option Addr, ∃ out3C : Nat, F_l01Reflexive_L1 ap r out3 i4 = F_l01Reflexive_L1 ap (Int.toNat ((ap.length : Int) - 0) + 1) ([]) 0 ∧ Int.toNat ((ap.length : Int) - i4) < r ∧ (0 ≤ i4) ∧ (i4 ≤ (ap.length : Int)) ∧ ((out3.length : Int) ≤ i4) ∧ E a' 23 [(0, .slice apA ap.length apC), (3, .slice out3A ((out3).length) out3C), (4, .int .i64 i4)] ∧ St w w' [.own 2 1 out3A ((out3).length) out3C out3, .rd 1 apA ap.length apC ap]) (r := (Int.toNat ((ap.length : Int) - 0) + 1)) ?_ ?_
   · exact ⟨[], 0, some ⟨b5, 0, none⟩, 0, rfl, Nat.lt_succ_self _, (by first | omega | (simp only [sS_len, sL_len]; omega) | (simp only [List.length_replicate, sI_len]; omega) | (simp only [List.length_append, List.length_cons, List.length_nil, sI_len, cond_true, cond_false]; omega) | (simp only [List.length_append, List.length_cons, List.length_nil, sI_len, cond_eq_ite, apply_ite List.length]; split <;> simp only [List.length_append, List.length_cons, List.length_nil, sI_len] <;> omega) | grind), (by first | omega | (simp only [sS_len, sL_len]; omega) | (simp only [List.length_replicate, sI_len]; omega) | (simp only [List.length_append, List.length_cons, List.length_nil, sI_len, cond_true, cond_false]; omega) | (simp only [List.length_append, List.length_cons, List.length_nil, sI_len, cond_eq_ite, apply_ite List.length]; split <;> simp only [List.length_append, List.length_cons, List.length_nil, sI_len] <;> omega) | grind), (by first | omega | (simp only [sS_len, sL_len]; omega) | (simp only [List.length_replicate, sI_len]; omega) | (simp only [List.length_append, List.length_cons, List.length_nil, sI_len, cond_true, cond_false]; omega) | (simp only [List.length_append, List.length_cons, List.length_nil, sI_len, cond_eq_ite, apply_ite List.length]; split <;> simp only [List.length_append, List.length_cons, List.length_nil, sI_len] <;> omega) | grind), (hE16.sub (L' := [(0, .slice apA ap.length apC), (3, .slice (some ⟨b5, 0, none⟩) 0 0), (4, .int .i64 0)]) ⟨rfl, rfl, rfl, trivial⟩), (St.pick (Γ' := [.own 2 1 (some ⟨b5, 0, none⟩) 0 0 ([]), .rd 1 apA ap.length apC ap]) hS9 [0, 1] (by decide) rfl)⟩
   ·
    clear hE16 hS9
    rintro r27 a18 w19 ⟨out3, i4, out3A, out3C, hT22, hr23, hi24, hi25, hi26, hE20, hS21⟩
    obtain ⟨r27, rfl⟩ : ∃ r', r27 = r' + 1 := ⟨r27 - 1, by omega⟩
    refine c_seq ?_
    refine c_seq ?_
    refine c_reg ?_
    refine q_step (v := .int .i64 i4) hE20 (y_move rfl) rfl rfl rfl ?_; intro a28 hE29; clear hE20
    refine q_step (v := .slice apA ap.length apC) hE29 (y_move rfl) rfl rfl rfl ?_; intro a30 hE31; clear hE29
    refine q_step (v := .int .i64 (ap.length : Int)) hE31 (y_len (e := 2) (by kernel_rfl) rfl) rfl rfl rfl ?_; intro a32 hE33; clear hE31
    refine q_step (v := .bool (decide (i4 < (ap.length : Int)))) hE33 (y_lss rfl rfl) rfl rfl rfl ?_; intro a34 hE35; clear hE33
    refine c_nil ?_
    have hE36 := hE35.sub (L' := [(0, .slice apA ap.length apC), (3, .slice out3A ((out3).length) out3C), (4, .int .i64 i4), (9, .bool (decide (i4 < (ap.length : Int))))]) ⟨rfl, rfl, rfl, rfl, trivial⟩; clear hE35
    refine p_tn ?_
    refine c_cond hE36 rfl (fun ht37 => ?_) (fun ht37 => ?_)
    ·
     have hp38 := of_decide_eq_true ht37
     have hE39 := hE36; rw [ht37] at hE39; clear hE36
     refine wp_skip ?_
     refine p_tn ?_
     refine c_seq ?_
     refine wp_block ?_
     refine d_start (fun w w' => (fun w' => w'.cell? (adr apA (Int.toNat i4)) = some (.int .i64 (gI ap i4)) ∧ True) w → (fun w' => w'.cell? (adr apA (Int.toNat i4)) = some (.int .i64 (gI ap i4)) ∧ True) w') [4] 11 (by kernel_rfl) rfl ?_
     intro w40 he41; have hS42 := St.go hS21 he41; clear hS21
     refine d_pure (fun _ h => h) (v := .slice out3A ((out3).length) out3C) 0 rfl hE39 (y_move rfl) rfl (by kernel_rfl) (by kernel_rfl) (by kernel_rfl) rfl rfl (fun _ _ _ h => h) ?_; intro a43 hE44; clear hE39
     refine d_pure (fun _ h => h) (v := .slice apA ap.length apC) 1 rfl hE44 (y_move rfl) rfl (by kernel_rfl) (by kernel_rfl) (by kernel_rfl) rfl rfl (fun _ _ _ h => h) ?_; intro a45 hE46; clear hE44
     refine d_pure (fun _ h => h) (v := .int .i64 i4) 2 rfl hE46 (y_move rfl) rfl (by kernel_rfl) (by kernel_rfl) (by kernel_rfl) rfl rfl (fun _ _ _ h => h) ?_; intro a47 hE48; clear hE46
     refine d_pure (fun _ h => h) (v := .pointer (some (adr apA (Int.toNat i4)))) 3 rfl hE48 (y_idx (by kernel_rfl) (fun _ => by kernel_rfl) rfl rfl (RdS.isS (m := i4) (St.rdR (i := 1) hS42 rfl) (by omega) (by omega)) (by omega) (by omega) (Nat.mul_one _).symm) rfl (by kernel_rfl) (by kernel_rfl) (by kernel_rfl) rfl rfl (fun _ _ _ h => h) ?_; intro a49 hE50; clear hE48
     refine d_take (fun _ h => h) (fun _ _ h k => h k) (v := .int .i64 (gI ap i4)) 4 rfl hE50 (S := fun w' => w'.cell? (adr apA (Int.toNat i4)) = some (.int .i64 (gI ap i4)) ∧ True) ⟨(RdS.elt (St.rdR (i := 1) hS42 rfl) (by omega) (by omega) _ (Ext.refl _)), trivial⟩ (y_load (fun _ => by kernel_rfl) rfl (fun _ h => h.1)) rfl rfl (by kernel_rfl) (by kernel_rfl) (by kernel_rfl) (by kernel_rfl) rfl rfl (fun _ _ _ h => h) ?_; intro a51 hE52; clear hE50
     refine d_pure (fun _ h => h) (v := .int .i64 i4) 5 rfl hE52 (y_move rfl) rfl (by kernel_rfl) (by kernel_rfl) (by kernel_rfl) rfl rfl (fun _ _ _ h => h) ?_; intro a53 hE54; clear hE52
     refine d_only 6 (by kernel_rfl) rfl hE54 rfl (l_call (f := 209) (argv := [.int .i64 i4]) hE54 (fun _ => cf_l01One _ _) rfl rfl (d_l01One i4 w40 (by omega) (by omega)) ?_)
     rintro _ _ ⟨rfl, rfl⟩ a57 hE58; clear hE54
     refine ⟨fun _ _ => ⟨(RdS.elt (St.rdR (i := 1) hS42 rfl) (by omega) (by omega) _ (Ext.refl _)), trivial⟩, ?_⟩
     refine d_pure (fun _ h => h) (v := .int .i64 (orI (gI ap i4) (powI i4))) 7 rfl hE58 (y_or rfl rfl) rfl (by kernel_rfl) (by kernel_rfl) (by kernel_rfl) rfl rfl (fun _ _ _ h => h) ?_; intro a61 hE62; clear hE58
     refine d_only 8 (by kernel_rfl) rfl hE62 rfl (l_lit (e := 2) (s := 1) (xs := [orI (gI ap i4) (powI i4)]) (vs := [.int .i64 (orI (gI ap i4) (powI i4))]) hS42 hE62 rfl (fun _ => by kernel_rfl) rfl rfl rfl ?_)
     intro b63 w64 hS67 he68 a65 hE66; clear hS42 hE62
     refine ⟨fun h => Bool.noConfusion (h.symm.trans (show exm _ _ _ = true by kernel_rfl)), ?_⟩
     obtain ⟨_, hi1, hi2, hi3, hi4⟩ := info_parts (show (Try.prog.info? 2).map (fun i => (i.zero, i.size, i.bytes)) = some (some (.int .i64 0), 1, 8) by kernel_rfl)
     refine d_only 9 (by kernel_rfl) rfl hE66 rfl (l_append (k := 1) (n' := (out3 ++ ([orI (gI ap i4) (powI i4)])).length) hS67 hE66 (by kernel_rfl) hi1 hi2 hi3 rfl (by decide) (by rw [hi4]; decide) rfl rfl rfl (St.rdO (i := 0) hS67 rfl) (by first | omega | (simp only [List.length_append, List.length_cons, List.length_nil]; omega)) (by have h1 := (St.rdO (i := 1) hS67 rfl).len1; have h2 := (St.rdO (i := 0) hS67 rfl).len1; first | rw [List.length_append, h1, h2] | (simp only [List.length_append])) rfl ?_)
     intro b69 c75 w70 hS73 a71 hE72; clear hS67 hE66 hi1 hi2 hi3 hi4
     refine ⟨fun h => Bool.noConfusion (h.symm.trans (show exm _ _ _ = true by kernel_rfl)), ?_⟩
     refine d_pure (fun _ h => h) (v := .slice b69 ((out3 ++ ([orI (gI ap i4) (powI i4)])).length) c75) 10 rfl hE72 (y_assign rfl) rfl (by kernel_rfl) (by kernel_rfl) (by kernel_rfl) rfl rfl (fun _ _ _ h => h) ?_; intro a76 hE77; clear hE72
     refine d_done (by kernel_rfl) ?_
     have hE78 := hE77.sub (L' := [(0, .slice apA ap.length apC), (3, .slice b69 ((out3 ++ ([orI (gI ap i4) (powI i4)])).length) c75), (4, .int .i64 i4)]) ⟨rfl, rfl, rfl, trivial⟩; clear hE77
     refine p_bn ?_
     refine p_tn ?_
     refine c_reg ?_
     refine q_step (v := .int .i64 i4) hE78 (y_move rfl) rfl rfl rfl ?_; intro a79 hE80; clear hE78
     refine q_step (v := .int .i64 (i4 + 1)) hE80 (y_add rfl rfl ⟨(by omega), (by omega)⟩) rfl rfl rfl ?_; intro a81 hE82; clear hE80
     refine q_step (v := .int .i64 (i4 + 1)) hE82 (y_assign rfl) rfl rfl rfl ?_; intro a83 hE84; clear hE82
     refine c_nil ?_
     have hE85 := hE84.sub (L' := [(0, .slice apA ap.length apC), (3, .slice b69 ((out3 ++ ([orI (gI ap i4) (powI i4)])).length) c75), (4, .int .i64 (i4 + 1))]) ⟨rfl, rfl, rfl, trivial⟩; clear hE84
     refine p_tn ⟨r27, Nat.lt_succ_self _, out3 ++ ([orI (gI ap i4) (powI i4)]), i4 + 1, b69, c75, (hT22.symm.trans (show F_l01Reflexive_L1b ap (F_l01Reflexive_L1 ap r27) out3 i4 = F_l01Reflexive_L1 ap r27 (out3 ++ ([orI (gI ap i4) (powI i4)])) (i4 + 1) by unfold F_l01Reflexive_L1b; rw [ht37]; first | done | rfl)).symm, (by omega), (by first | omega | (simp only [sS_len, sL_len]; omega) | (simp only [List.length_replicate, sI_len]; omega) | (simp only [List.length_append, List.length_cons, List.length_nil, sI_len, cond_true, cond_false]; omega) | (simp only [List.length_append, List.length_cons, List.length_nil, sI_len, cond_eq_ite, apply_ite List.length]; split <;> simp only [List.length_append, List.length_cons, List.length_nil, sI_len] <;> omega) | grind), (by first | omega | (simp only [sS_len, sL_len]; omega) | (simp only [List.length_replicate, sI_len]; omega) | (simp only [List.length_append, List.length_cons, List.length_nil, sI_len, cond_true, cond_false]; omega) | (simp only [List.length_append, List.length_cons, List.length_nil, sI_len, cond_eq_ite, apply_ite List.length]; split <;> simp only [List.length_append, List.length_cons, List.length_nil, sI_len] <;> omega) | grind), (by first | omega | (simp only [sS_len, sL_len]; omega) | (simp only [List.length_replicate, sI_len]; omega) | (simp only [List.length_append, List.length_cons, List.length_nil, sI_len, cond_true, cond_false]; omega) | (simp only [List.length_append, List.length_cons, List.length_nil, sI_len, cond_eq_ite, apply_ite List.length]; split <;> simp only [List.length_append, List.length_cons, List.length_nil, sI_len] <;> omega) | grind), (hE85.sub (L' := [(0, .slice apA ap.length apC), (3, .slice b69 ((out3 ++ ([orI (gI ap i4) (powI i4)])).length) c75), (4, .int .i64 (i4 + 1))]) ⟨rfl, rfl, rfl, trivial⟩), (St.pick (Γ' := [.own 2 1 b69 ((out3 ++ ([orI (gI ap i4) (powI i4)])).length) c75 (out3 ++ ([orI (gI ap i4) (powI i4)])), .rd 1 apA ap.length apC ap]) hS73 [1, 2] (by decide) rfl)⟩
    ·
     have hp86 := of_decide_eq_false ht37
     have hE87 := hE36; rw [ht37] at hE87; clear hE36
     refine wp_exit ?_
     refine p_te ?_
     have hX88 : F_l01Reflexive_L1 ap (Int.toNat ((ap.length : Int) - 0) + 1) ([]) 0 = (out3, i4) := hT22.symm.trans (show F_l01Reflexive_L1b ap (F_l01Reflexive_L1 ap r27) out3 i4 = (out3, i4) by unfold F_l01Reflexive_L1b; rw [ht37]; first | done | rfl)
     refine p_te (p_be (p_tn ?_))
     exact ⟨out3A, out3C, (by rw [hX88]; exact (show 0 ≤ i4 from (by first | omega | (simp only [sS_len, sL_len]; omega) | (simp only [List.length_replicate, sI_len]; omega) | (simp only [List.length_append, List.length_cons, List.length_nil, sI_len, cond_true, cond_false]; omega) | (simp only [List.length_append, List.length_cons, List.length_nil, sI_len, cond_eq_ite, apply_ite List.length]; split <;> simp only [List.length_append, List.length_cons, List.length_nil, sI_len] <;> omega) | grind))), (by rw [hX88]; exact (show i4 ≤ (ap.length : Int) from (by first | omega | (simp only [sS_len, sL_len]; omega) | (simp only [List.length_replicate, sI_len]; omega) | (simp only [List.length_append, List.length_cons, List.length_nil, sI_len, cond_true, cond_false]; omega) | (simp only [List.length_append, List.length_cons, List.length_nil, sI_len, cond_eq_ite, apply_ite List.length]; split <;> simp only [List.length_append, List.length_cons, List.length_nil, sI_len] <;> omega) | grind))), (by rw [hX88]; exact (show (out3.length : Int) ≤ i4 from (by first | omega | (simp only [sS_len, sL_len]; omega) | (simp only [List.length_replicate, sI_len]; omega) | (simp only [List.length_append, List.length_cons, List.length_nil, sI_len, cond_true, cond_false]; omega) | (simp only [List.length_append, List.length_cons, List.length_nil, sI_len, cond_eq_ite, apply_ite List.length]; split <;> simp only [List.length_append, List.length_cons, List.length_nil, sI_len] <;> omega) | grind))), (by rw [hX88]; exact (hE87.sub (L' := [(0, .slice apA ap.length apC), (3, .slice out3A ((out3).length) out3C), (4, .int .i64 i4)]) ⟨rfl, rfl, rfl, trivial⟩)), (by rw [hX88]; exact (St.pick (Γ' := [.own 2 1 out3A ((out3).length) out3C out3, .rd 1 apA ap.length apC ap]) hS21 [0, 1] (by decide) rfl))⟩
  ·
   rintro a89 w90 ⟨out3A_17, out3C_17, hi94, hi95, hi96, hE91, hS92⟩; clear hE16 hS9
   refine p_tn ?_
   refine c_seq ?_
   refine c_reg ?_
   refine q_step (v := .slice out3A_17 (((F_l01Reflexive_L1 ap (Int.toNat ((ap.length : Int) - 0) + 1) ([]) 0).1).length) out3C_17) hE91 (y_move rfl) rfl rfl rfl ?_; intro a97 hE98; clear hE91
   refine q_step (v := .slice out3A_17 (((F_l01Reflexive_L1 ap (Int.toNat ((ap.length : Int) - 0) + 1) ([]) 0).1).length) out3C_17) hE98 (y_assign rfl) rfl rfl rfl ?_; intro a99 hE100; clear hE98
   refine c_nil ?_
   have hE101 := hE100.sub (L' := [(2, .slice out3A_17 (((F_l01Reflexive_L1 ap (Int.toNat ((ap.length : Int) - 0) + 1) ([]) 0).1).length) out3C_17)]) ⟨rfl, trivial⟩; clear hE100
   refine p_tn ?_
   refine wp_ret ?_
   have hF : F_l01Reflexive ap = (F_l01Reflexive_L1 ap (Int.toNat ((ap.length : Int) - 0) + 1) ([]) 0).1 := by unfold F_l01Reflexive; rfl
   refine c_ret1 hE101 rfl rfl ?_
   exact ⟨out3A_17, out3C_17, (by rw [hF]; first | done | (dsimp only; done) | rfl), (by rw [hF]; (try dsimp only); exact hS92.ok 0 _ rfl), hS92.ext⟩
theorem l01Reflexive_map (ap : List Int) : F_l01Reflexive ap = (List.range ap.length).map fun (i : Nat) => orI (gI ap (i : Int)) (powI (i : Int)) := by
  unfold F_l01Reflexive
  rw [mapLoop0 (ap.length : Int) (by omega) (fun i => orI (gI ap i) (powI i)) (F_l01Reflexive_L1 ap) (fun _ _ _ => rfl), Int.toNat_natCast]
theorem l01Reflexive_len (ap : List Int) : (F_l01Reflexive ap).length = ap.length := by rw [l01Reflexive_map]; simp
theorem reflexive_eq {ap : List Int} (h : ap.length ≤ 30) : F_reflexive ap = F_l01Reflexive ap := by
  rw [l01Reflexive_map]
  unfold F_reflexive
  obtain ⟨h1, h2⟩ := mapLoop (ap.length : Int) (fun t o => orI o (shlI 1 t)) (F_reflexive_L1 ap) (fun r t xs _ _ => rfl) ap rfl
  refine list_map_ext (by omega) fun j hj => ?_
  rw [h2 j (by omega), pow_shl (by omega) (by omega)]
def F_l01Inverse_L2b (ap : List Int) (i4 : Int) (rec : Int → (List Int) → Int × (List Int)) (j5L2 : Int) (out3L2 : List Int) : Int × (List Int) :=
  bif (decide (j5L2 < (ap.length : Int))) then (rec (j5L2 + 1) (bif (F_l01Bit (gI ap j5L2) i4) then sI out3L2 i4 (orI (gI out3L2 i4) (powI j5L2)) else out3L2)) else (j5L2, out3L2)
def F_l01Inverse_L2 (ap : List Int) (i4 : Int) : Nat → Int → (List Int) → Int × (List Int)
  | 0, j5L2, out3L2 => (j5L2, out3L2)
  | r + 1, j5L2, out3L2 => F_l01Inverse_L2b ap i4 (F_l01Inverse_L2 ap i4 r) j5L2 out3L2
def F_l01Inverse_L1b (ap : List Int) (rec : Int → (List Int) → Int × (List Int)) (i4 : Int) (out3 : List Int) : Int × (List Int) :=
  bif (decide (i4 < (ap.length : Int))) then (rec (i4 + 1) ((F_l01Inverse_L2 ap i4 (Int.toNat ((ap.length : Int) - 0) + 1) 0 out3).2)) else (i4, out3)
def F_l01Inverse_L1 (ap : List Int) : Nat → Int → (List Int) → Int × (List Int)
  | 0, i4, out3 => (i4, out3)
  | r + 1, i4, out3 => F_l01Inverse_L1b ap (F_l01Inverse_L1 ap r) i4 out3
def F_l01Inverse (ap : List Int) : List Int :=
  (F_l01Inverse_L1 ap (Int.toNat ((ap.length : Int) - 0) + 1) 0 (List.replicate (Int.toNat (ap.length : Int)) 0)).2
theorem cf_l01Inverse (args : Array Value) (w : World) : (callFunc 143 args).run Try.prog w = .ok (.enter 143 args) w := by kernel_rfl
set_option maxRecDepth 100000 in
theorem c_l01Inverse (apA : Option Addr) (apN apC : Nat) (ap : List Int) (w : World) (apR : RdS w 1 apA apN apC ap) (hl : ap.length ≤ 30) :
    Calls Try.prog 143 #[.slice apA apN apC] w (Ret fun v w' => ∃ b1 : Option Addr, ∃ c1 : Nat, v = .slice b1 (F_l01Inverse ap).length c1 ∧ OwnS w' w.heap.size 2 1 b1 (F_l01Inverse ap).length c1 (F_l01Inverse ap) ∧ Ext w w') := by
  obtain rfl : apN = ap.length := apR.len1.symm
  have apLe := apR.le
  have hS := St.nil w
  have hS1 := St.rd0 hS rfl apR; clear hS
  refine enter (args := [.slice apA ap.length apC]) Try.func143 rfl rfl ?_
  rw [Try.ntmps143]; intro a hE
  have hE := hE.sub (L' := [(0, .slice apA ap.length apC)]) ⟨rfl, trivial⟩
  refine c_seq ?_
  refine c_reg ?_
  refine q_step (v := .slice none 0 0) hE (y_assign rfl) rfl rfl rfl ?_; intro a2 hE3; clear hE
  refine c_nil ?_
  have hE4 := hE3.sub (L' := [(0, .slice apA ap.length apC)]) ⟨rfl, trivial⟩; clear hE3
  refine p_tn ?_
  refine c_seq ?_
  refine c_reg ?_
  refine q_step (v := .slice apA ap.length apC) hE4 (y_move rfl) rfl rfl rfl ?_; intro a5 hE6; clear hE4
  refine q_step (v := .int .i64 (ap.length : Int)) hE6 (y_len (e := 2) (by kernel_rfl) rfl) rfl rfl rfl ?_; intro a7 hE8; clear hE6
  refine l_step hE8 rfl (l_make (e := 2) (m := (ap.length : Int)) hS1 hE8 (by kernel_rfl) (by kernel_rfl) rfl rfl (by omega) (by omega) rfl ?_)
  intro b9 w10 hS13 he14 a11 hE12; clear hS1 hE8
  refine q_step (v := .slice b9 (Int.toNat (ap.length : Int)) (Int.toNat (ap.length : Int))) hE12 (y_assign rfl) rfl rfl rfl ?_; intro a15 hE16; clear hE12
  refine c_nil ?_
  have hE17 := hE16.sub (L' := [(0, .slice apA ap.length apC), (3, .slice b9 (Int.toNat (ap.length : Int)) (Int.toNat (ap.length : Int)))]) ⟨rfl, rfl, trivial⟩; clear hE16
  refine p_tn ?_
  refine c_seq ?_
  refine c_seq ?_
  refine c_reg ?_
  refine q_step (v := .int .i64 0) hE17 (y_assign rfl) rfl rfl rfl ?_; intro a18 hE19; clear hE17
  refine c_nil ?_
  have hE20 := hE19.sub (L' := [(0, .slice apA ap.length apC), (3, .slice b9 (Int.toNat (ap.length : Int)) (Int.toNat (ap.length : Int))), (4, .int .i64 0)]) ⟨rfl, rfl, rfl, trivial⟩; clear hE19
  refine p_tn ?_
  refine c_cut1 (fun a' w' => (0 ≤ ((F_l01Inverse_L1 ap (Int.toNat ((ap.length : Int) - 0) + 1) 0 (List.replicate (Int.toNat (ap.length : Int)) 0)).1)) ∧ ((((F_l01Inverse_L1 ap (Int.toNat ((ap.length : Int) - 0) + 1) 0 (List.replicate (Int.toNat (ap.length : Int)) 0)).2).length : Int) = (ap.length : Int)) ∧ (((F_l01Inverse_L1 ap (Int.toNat ((ap.length : Int) - 0) + 1) 0 (List.replicate (Int.toNat (ap.length : Int)) 0)).1) ≤ (ap.length : Int)) ∧ E a' 38 [(0, .slice apA ap.length apC), (3, .slice b9 (Int.toNat (ap.length : Int)) (Int.toNat (ap.length : Int))), (4, .int .i64 ((F_l01Inverse_L1 ap (Int.toNat ((ap.length : Int) - 0) + 1) 0 (List.replicate (Int.toNat (ap.length : Int)) 0)).1))] ∧ St w w' [.own 2 1 b9 (Int.toNat (ap.length : Int)) (Int.toNat (ap.length : Int)) ((F_l01Inverse_L1 ap (Int.toNat ((ap.length : Int) - 0) + 1) 0 (List.replicate (Int.toNat (ap.length : Int)) 0)).2), .rd 1 apA ap.length apC ap]) ?_ ?_
  ·
   refine wp_block ?_
   refine c_loop (fun r a' w' => ∃ i4 : Int, ∃ out3 : List Int, F_l01Inverse_L1 ap r i4 out3 = F_l01Inverse_L1 ap (Int.toNat ((ap.length : Int) - 0) + 1) 0 (List.replicate (Int.toNat (ap.length : Int)) 0) ∧ Int.toNat ((ap.length : Int) - i4) < r ∧ (0 ≤ i4) ∧ ((out3.length : Int) = (ap.length : Int)) ∧ (i4 ≤ (ap.length : Int)) ∧ E a' 38 [(0, .slice apA ap.length apC), (3, .slice b9 (Int.toNat (ap.length : Int)) (Int.toNat (ap.length : Int))), (4, .int .i64 i4)] ∧ St w w' [.own 2 1 b9 (Int.toNat (ap.length : Int)) (Int.toNat (ap.length : Int)) out3, .rd 1 apA ap.length apC ap]) (r := (Int.toNat ((ap.length : Int) - 0) + 1)) ?_ ?_
   · exact ⟨0, List.replicate (Int.toNat (ap.length : Int)) 0, rfl, Nat.lt_succ_self _, (by first | omega | (simp only [sS_len, sL_len]; omega) | (simp only [List.length_replicate, sI_len]; omega) | (simp only [List.length_append, List.length_cons, List.length_nil, sI_len, cond_true, cond_false]; omega) | (simp only [List.length_append, List.length_cons, List.length_nil, sI_len, cond_eq_ite, apply_ite List.length]; split <;> simp only [List.length_append, List.length_cons, List.length_nil, sI_len] <;> omega) | grind), (by first | omega | (simp only [sS_len, sL_len]; omega) | (simp only [List.length_replicate, sI_len]; omega) | (simp only [List.length_append, List.length_cons, List.length_nil, sI_len, cond_true, cond_false]; omega) | (simp only [List.length_append, List.length_cons, List.length_nil, sI_len, cond_eq_ite, apply_ite List.length]; split <;> simp only [List.length_append, List.length_cons, List.length_nil, sI_len] <;> omega) | grind), (by first | omega | (simp only [sS_len, sL_len]; omega) | (simp only [List.length_replicate, sI_len]; omega) | (simp only [List.length_append, List.length_cons, List.length_nil, sI_len, cond_true, cond_false]; omega) | (simp only [List.length_append, List.length_cons, List.length_nil, sI_len, cond_eq_ite, apply_ite List.length]; split <;> simp only [List.length_append, List.length_cons, List.length_nil, sI_len] <;> omega) | grind), (hE20.sub (L' := [(0, .slice apA ap.length apC), (3, .slice b9 (Int.toNat (ap.length : Int)) (Int.toNat (ap.length : Int))), (4, .int .i64 0)]) ⟨rfl, rfl, rfl, trivial⟩), (St.pick (Γ' := [.own 2 1 b9 (Int.toNat (ap.length : Int)) (Int.toNat (ap.length : Int)) (List.replicate (Int.toNat (ap.length : Int)) 0), .rd 1 apA ap.length apC ap]) hS13 [0, 1] (by decide) rfl)⟩
   ·
    clear hE20 hS13
    rintro r31 a22 w23 ⟨i4, out3, hT26, hr27, hi28, hi29, hi30, hE24, hS25⟩
    obtain ⟨r31, rfl⟩ : ∃ r', r31 = r' + 1 := ⟨r31 - 1, by omega⟩
    refine c_seq ?_
    refine c_seq ?_
    refine c_reg ?_
    refine q_step (v := .int .i64 i4) hE24 (y_move rfl) rfl rfl rfl ?_; intro a32 hE33; clear hE24
    refine q_step (v := .slice apA ap.length apC) hE33 (y_move rfl) rfl rfl rfl ?_; intro a34 hE35; clear hE33
    refine q_step (v := .int .i64 (ap.length : Int)) hE35 (y_len (e := 2) (by kernel_rfl) rfl) rfl rfl rfl ?_; intro a36 hE37; clear hE35
    refine q_step (v := .bool (decide (i4 < (ap.length : Int)))) hE37 (y_lss rfl rfl) rfl rfl rfl ?_; intro a38 hE39; clear hE37
    refine c_nil ?_
    have hE40 := hE39.sub (L' := [(0, .slice apA ap.length apC), (3, .slice b9 (Int.toNat (ap.length : Int)) (Int.toNat (ap.length : Int))), (4, .int .i64 i4), (12, .bool (decide (i4 < (ap.length : Int))))]) ⟨rfl, rfl, rfl, rfl, trivial⟩; clear hE39
    refine p_tn ?_
    refine c_cond hE40 rfl (fun ht41 => ?_) (fun ht41 => ?_)
    ·
     have hp42 := of_decide_eq_true ht41
     have hE43 := hE40; rw [ht41] at hE43; clear hE40
     refine wp_skip ?_
     refine p_tn ?_
     refine c_seq ?_
     refine wp_block ?_
     refine c_seq ?_
     refine c_reg ?_
     refine q_step (v := .int .i64 0) hE43 (y_assign rfl) rfl rfl rfl ?_; intro a44 hE45; clear hE43
     refine c_nil ?_
     have hE46 := hE45.sub (L' := [(0, .slice apA ap.length apC), (3, .slice b9 (Int.toNat (ap.length : Int)) (Int.toNat (ap.length : Int))), (4, .int .i64 i4), (5, .int .i64 0)]) ⟨rfl, rfl, rfl, rfl, trivial⟩; clear hE45
     refine p_tn ?_
     refine c_cut1 (fun a' w' => (0 ≤ ((F_l01Inverse_L2 ap i4 (Int.toNat ((ap.length : Int) - 0) + 1) 0 out3).1)) ∧ ((((F_l01Inverse_L2 ap i4 (Int.toNat ((ap.length : Int) - 0) + 1) 0 out3).2).length : Int) = (ap.length : Int)) ∧ (((F_l01Inverse_L2 ap i4 (Int.toNat ((ap.length : Int) - 0) + 1) 0 out3).1) ≤ (ap.length : Int)) ∧ E a' 38 [(0, .slice apA ap.length apC), (3, .slice b9 (Int.toNat (ap.length : Int)) (Int.toNat (ap.length : Int))), (4, .int .i64 i4), (5, .int .i64 ((F_l01Inverse_L2 ap i4 (Int.toNat ((ap.length : Int) - 0) + 1) 0 out3).1))] ∧ St w w' [.own 2 1 b9 (Int.toNat (ap.length : Int)) (Int.toNat (ap.length : Int)) ((F_l01Inverse_L2 ap i4 (Int.toNat ((ap.length : Int) - 0) + 1) 0 out3).2), .rd 1 apA ap.length apC ap]) ?_ ?_
     ·
      refine wp_block ?_
      refine c_loop (fun r a' w' => ∃ j5L2 : Int, ∃ out3L2 : List Int, F_l01Inverse_L2 ap i4 r j5L2 out3L2 = F_l01Inverse_L2 ap i4 (Int.toNat ((ap.length : Int) - 0) + 1) 0 out3 ∧ Int.toNat ((ap.length : Int) - j5L2) < r ∧ (0 ≤ j5L2) ∧ ((out3L2.length : Int) = (ap.length : Int)) ∧ (j5L2 ≤ (ap.length : Int)) ∧ E a' 38 [(0, .slice apA ap.length apC), (3, .slice b9 (Int.toNat (ap.length : Int)) (Int.toNat (ap.length : Int))), (4, .int .i64 i4), (5, .int .i64 j5L2)] ∧ St w w' [.own 2 1 b9 (Int.toNat (ap.length : Int)) (Int.toNat (ap.length : Int)) out3L2, .rd 1 apA ap.length apC ap]) (r := (Int.toNat ((ap.length : Int) - 0) + 1)) ?_ ?_
      · exact ⟨0, out3, rfl, Nat.lt_succ_self _, (by first | omega | (simp only [sS_len, sL_len]; omega) | (simp only [List.length_replicate, sI_len]; omega) | (simp only [List.length_append, List.length_cons, List.length_nil, sI_len, cond_true, cond_false]; omega) | (simp only [List.length_append, List.length_cons, List.length_nil, sI_len, cond_eq_ite, apply_ite List.length]; split <;> simp only [List.length_append, List.length_cons, List.length_nil, sI_len] <;> omega) | grind), (by first | omega | (simp only [sS_len, sL_len]; omega) | (simp only [List.length_replicate, sI_len]; omega) | (simp only [List.length_append, List.length_cons, List.length_nil, sI_len, cond_true, cond_false]; omega) | (simp only [List.length_append, List.length_cons, List.length_nil, sI_len, cond_eq_ite, apply_ite List.length]; split <;> simp only [List.length_append, List.length_cons, List.length_nil, sI_len] <;> omega) | grind), (by first | omega | (simp only [sS_len, sL_len]; omega) | (simp only [List.length_replicate, sI_len]; omega) | (simp only [List.length_append, List.length_cons, List.length_nil, sI_len, cond_true, cond_false]; omega) | (simp only [List.length_append, List.length_cons, List.length_nil, sI_len, cond_eq_ite, apply_ite List.length]; split <;> simp only [List.length_append, List.length_cons, List.length_nil, sI_len] <;> omega) | grind), (hE46.sub (L' := [(0, .slice apA ap.length apC), (3, .slice b9 (Int.toNat (ap.length : Int)) (Int.toNat (ap.length : Int))), (4, .int .i64 i4), (5, .int .i64 0)]) ⟨rfl, rfl, rfl, rfl, trivial⟩), (St.pick (Γ' := [.own 2 1 b9 (Int.toNat (ap.length : Int)) (Int.toNat (ap.length : Int)) out3, .rd 1 apA ap.length apC ap]) hS25 [0, 1] (by decide) rfl)⟩
      ·
       clear hE46 hS25
       rintro r57 a48 w49 ⟨j5L2, out3L2, hT52, hr53, hi54, hi55, hi56, hE50, hS51⟩
       obtain ⟨r57, rfl⟩ : ∃ r', r57 = r' + 1 := ⟨r57 - 1, by omega⟩
       refine c_seq ?_
       refine c_seq ?_
       refine c_reg ?_
       refine q_step (v := .int .i64 j5L2) hE50 (y_move rfl) rfl rfl rfl ?_; intro a58 hE59; clear hE50
       refine q_step (v := .slice apA ap.length apC) hE59 (y_move rfl) rfl rfl rfl ?_; intro a60 hE61; clear hE59
       refine q_step (v := .int .i64 (ap.length : Int)) hE61 (y_len (e := 2) (by kernel_rfl) rfl) rfl rfl rfl ?_; intro a62 hE63; clear hE61
       refine q_step (v := .bool (decide (j5L2 < (ap.length : Int)))) hE63 (y_lss rfl rfl) rfl rfl rfl ?_; intro a64 hE65; clear hE63
       refine c_nil ?_
       have hE66 := hE65.sub (L' := [(0, .slice apA ap.length apC), (3, .slice b9 (Int.toNat (ap.length : Int)) (Int.toNat (ap.length : Int))), (4, .int .i64 i4), (5, .int .i64 j5L2), (18, .bool (decide (j5L2 < (ap.length : Int))))]) ⟨rfl, rfl, rfl, rfl, rfl, trivial⟩; clear hE65
       refine p_tn ?_
       refine c_cond hE66 rfl (fun ht67 => ?_) (fun ht67 => ?_)
       ·
        have hp68 := of_decide_eq_true ht67
        have hE69 := hE66; rw [ht67] at hE69; clear hE66
        refine wp_skip ?_
        refine p_tn ?_
        refine c_cut (fun a' w' => E a' 38 [(0, .slice apA ap.length apC), (3, .slice b9 (Int.toNat (ap.length : Int)) (Int.toNat (ap.length : Int))), (4, .int .i64 i4), (5, .int .i64 j5L2)] ∧ St w w' [.own 2 1 b9 (Int.toNat (ap.length : Int)) (Int.toNat (ap.length : Int)) (bif (F_l01Bit (gI ap j5L2) i4) then sI out3L2 i4 (orI (gI out3L2 i4) (powI j5L2)) else out3L2), .rd 1 apA ap.length apC ap]) ?_ ?_
        ·
         refine wp_block ?_
         refine c_seq ?_
         refine c_reg ?_
         refine q_step (v := .slice apA ap.length apC) hE69 (y_move rfl) rfl rfl rfl ?_; intro a70 hE71; clear hE69
         refine q_step (v := .int .i64 j5L2) hE71 (y_move rfl) rfl rfl rfl ?_; intro a72 hE73; clear hE71
         refine q_step (v := .pointer (some (adr apA (Int.toNat j5L2)))) hE73 (y_idx (by kernel_rfl) (fun _ => by kernel_rfl) rfl rfl (RdS.isS (m := j5L2) (St.rdR (i := 1) hS51 rfl) (by omega) (by omega)) (by omega) (by omega) (Nat.mul_one _).symm) rfl rfl rfl ?_; intro a74 hE75; clear hE73
         refine q_step (v := .int .i64 (gI ap j5L2)) hE75 (y_load (fun _ => by kernel_rfl) rfl (RdS.elt (St.rdR (i := 1) hS51 rfl) (by omega) (by omega))) rfl rfl rfl ?_; intro a76 hE77; clear hE75
         refine q_step (v := .int .i64 i4) hE77 (y_move rfl) rfl rfl rfl ?_; intro a78 hE79; clear hE77
         refine l_step hE79 rfl (l_call (f := 144) (argv := [.int .i64 (gI ap j5L2), .int .i64 i4]) hE79 (fun _ => cf_l01Bit _ _) rfl rfl (c_l01Bit (gI ap j5L2) i4 w49 (by omega) (by omega)) ?_)
         rintro _ _ ⟨rfl, rfl⟩ a82 hE83; clear hE79
         refine c_nil ?_
         have hE86 := hE83.sub (L' := [(0, .slice apA ap.length apC), (3, .slice b9 (Int.toNat (ap.length : Int)) (Int.toNat (ap.length : Int))), (4, .int .i64 i4), (5, .int .i64 j5L2), (26, .bool (F_l01Bit (gI ap j5L2) i4))]) ⟨rfl, rfl, rfl, rfl, rfl, trivial⟩; clear hE83
         refine p_tn ?_
         refine c_cond hE86 rfl (fun ht87 => ?_) (fun ht87 => ?_)
         ·
          have hE88 := hE86; rw [ht87] at hE88; clear hE86
          refine d_start (fun w w' => (fun w' => w'.cell? (adr b9 (Int.toNat i4)) = some (.int .i64 (gI out3L2 i4)) ∧ True) w → (fun w' => w'.cell? (adr b9 (Int.toNat i4)) = some (.int .i64 (gI out3L2 i4)) ∧ True) w') [5] 11 (by kernel_rfl) rfl ?_
          intro w89 he90; have hS91 := St.go hS51 he90; clear hS51
          refine d_pure (fun _ h => h) (v := .slice b9 (Int.toNat (ap.length : Int)) (Int.toNat (ap.length : Int))) 0 rfl hE88 (y_move rfl) rfl (by kernel_rfl) (by kernel_rfl) (by kernel_rfl) rfl rfl (fun _ _ _ h => h) ?_; intro a92 hE93; clear hE88
          refine d_pure (fun _ h => h) (v := .int .i64 i4) 1 rfl hE93 (y_move rfl) rfl (by kernel_rfl) (by kernel_rfl) (by kernel_rfl) rfl rfl (fun _ _ _ h => h) ?_; intro a94 hE95; clear hE93
          refine d_pure (fun _ h => h) (v := .slice b9 (Int.toNat (ap.length : Int)) (Int.toNat (ap.length : Int))) 2 rfl hE95 (y_move rfl) rfl (by kernel_rfl) (by kernel_rfl) (by kernel_rfl) rfl rfl (fun _ _ _ h => h) ?_; intro a96 hE97; clear hE95
          refine d_pure (fun _ h => h) (v := .int .i64 i4) 3 rfl hE97 (y_move rfl) rfl (by kernel_rfl) (by kernel_rfl) (by kernel_rfl) rfl rfl (fun _ _ _ h => h) ?_; intro a98 hE99; clear hE97
          refine d_pure (fun _ h => h) (v := .pointer (some (adr b9 (Int.toNat i4)))) 4 rfl hE99 (y_idx (by kernel_rfl) (fun _ => by kernel_rfl) rfl rfl (RdS.isS (m := i4) (St.rdO (i := 0) hS91 rfl) (by omega) (by omega)) (by omega) (by omega) (Nat.mul_one _).symm) rfl (by kernel_rfl) (by kernel_rfl) (by kernel_rfl) rfl rfl (fun _ _ _ h => h) ?_; intro a100 hE101; clear hE99
          refine d_take (fun _ h => h) (fun _ _ h k => h k) (v := .int .i64 (gI out3L2 i4)) 5 rfl hE101 (S := fun w' => w'.cell? (adr b9 (Int.toNat i4)) = some (.int .i64 (gI out3L2 i4)) ∧ True) ⟨(RdS.elt (St.rdO (i := 0) hS91 rfl) (by omega) (by omega) _ (Ext.refl _)), trivial⟩ (y_load (fun _ => by kernel_rfl) rfl (fun _ h => h.1)) rfl rfl (by kernel_rfl) (by kernel_rfl) (by kernel_rfl) (by kernel_rfl) rfl rfl (fun _ _ _ h => h) ?_; intro a102 hE103; clear hE101
          refine d_pure (fun _ h => h) (v := .int .i64 j5L2) 6 rfl hE103 (y_move rfl) rfl (by kernel_rfl) (by kernel_rfl) (by kernel_rfl) rfl rfl (fun _ _ _ h => h) ?_; intro a104 hE105; clear hE103
          refine d_only 7 (by kernel_rfl) rfl hE105 rfl (l_call (f := 209) (argv := [.int .i64 j5L2]) hE105 (fun _ => cf_l01One _ _) rfl rfl (d_l01One j5L2 w89 (by omega) (by omega)) ?_)
          rintro _ _ ⟨rfl, rfl⟩ a108 hE109; clear hE105
          refine ⟨fun _ _ => ⟨(RdS.elt (St.rdO (i := 0) hS91 rfl) (by omega) (by omega) _ (Ext.refl _)), trivial⟩, ?_⟩
          refine d_pure (fun _ h => h) (v := .int .i64 (orI (gI out3L2 i4) (powI j5L2))) 8 rfl hE109 (y_or rfl rfl) rfl (by kernel_rfl) (by kernel_rfl) (by kernel_rfl) rfl rfl (fun _ _ _ h => h) ?_; intro a112 hE113; clear hE109
          refine d_pure (fun _ h => h) (v := .pointer (some (adr b9 (Int.toNat i4)))) 9 rfl hE113 (y_idx (by kernel_rfl) (fun _ => by kernel_rfl) rfl rfl (RdS.isS (m := i4) (St.rdO (i := 0) hS91 rfl) (by omega) (by omega)) (by omega) (by omega) (Nat.mul_one _).symm) rfl (by kernel_rfl) (by kernel_rfl) (by kernel_rfl) rfl rfl (fun _ _ _ h => h) ?_; intro a114 hE115; clear hE113
          refine d_only 10 (by kernel_rfl) rfl hE115 rfl (l_store (k := 0) hS91 hE115 (fun _ => by kernel_rfl) rfl rfl rfl (by omega) (by omega) ?_)
          intro w117 hS120 a118 hE119; clear hS91 hE115
          refine ⟨fun h => Bool.noConfusion (h.symm.trans (show exm _ _ _ = true by kernel_rfl)), ?_⟩
          refine d_done (by kernel_rfl) ?_
          have hE122 := hE119.sub (L' := [(0, .slice apA ap.length apC), (3, .slice b9 (Int.toNat (ap.length : Int)) (Int.toNat (ap.length : Int))), (4, .int .i64 i4), (5, .int .i64 j5L2)]) ⟨rfl, rfl, rfl, rfl, trivial⟩; clear hE119
          refine p_bn ?_
          refine p_tn ?_
          have hE123 := hE122.sub (L' := [(0, .slice apA ap.length apC), (3, .slice b9 (Int.toNat (ap.length : Int)) (Int.toNat (ap.length : Int))), (4, .int .i64 i4), (5, .int .i64 j5L2)]) ⟨rfl, rfl, rfl, rfl, trivial⟩
          have hS124 := (St.pick (Γ' := [.own 2 1 b9 (Int.toNat (ap.length : Int)) (Int.toNat (ap.length : Int)) (sI out3L2 i4 (orI (gI out3L2 i4) (powI j5L2))), .rd 1 apA ap.length apC ap]) hS120 [0, 1] (by decide) rfl)
          exact ⟨hE123, (by rw [ht87]; exact hS124)⟩
         ·
          have hE125 := hE86; rw [ht87] at hE125; clear hE86
          refine wp_skip ?_
          refine p_bn ?_
          refine p_tn ?_
          have hE126 := hE125.sub (L' := [(0, .slice apA ap.length apC), (3, .slice b9 (Int.toNat (ap.length : Int)) (Int.toNat (ap.length : Int))), (4, .int .i64 i4), (5, .int .i64 j5L2)]) ⟨rfl, rfl, rfl, rfl, trivial⟩
          have hS127 := (St.pick (Γ' := [.own 2 1 b9 (Int.toNat (ap.length : Int)) (Int.toNat (ap.length : Int)) out3L2, .rd 1 apA ap.length apC ap]) hS51 [0, 1] (by decide) rfl)
          exact ⟨hE126, (by rw [ht87]; exact hS127)⟩
        ·
         rintro a128 w129 ⟨hE130, hS131⟩; clear hE69 hS51
         refine c_reg ?_
         refine q_step (v := .int .i64 j5L2) hE130 (y_move rfl) rfl rfl rfl ?_; intro a133 hE134; clear hE130
         refine q_step (v := .int .i64 (j5L2 + 1)) hE134 (y_add rfl rfl ⟨(by omega), (by omega)⟩) rfl rfl rfl ?_; intro a135 hE136; clear hE134
         refine q_step (v := .int .i64 (j5L2 + 1)) hE136 (y_assign rfl) rfl rfl rfl ?_; intro a137 hE138; clear hE136
         refine c_nil ?_
         have hE139 := hE138.sub (L' := [(0, .slice apA ap.length apC), (3, .slice b9 (Int.toNat (ap.length : Int)) (Int.toNat (ap.length : Int))), (4, .int .i64 i4), (5, .int .i64 (j5L2 + 1))]) ⟨rfl, rfl, rfl, rfl, trivial⟩; clear hE138
         have hl140 := (St.rdO (i := 0) hS131 rfl).len1
         refine p_tn ⟨r57, Nat.lt_succ_self _, j5L2 + 1, bif (F_l01Bit (gI ap j5L2) i4) then sI out3L2 i4 (orI (gI out3L2 i4) (powI j5L2)) else out3L2, (hT52.symm.trans (show F_l01Inverse_L2b ap i4 (F_l01Inverse_L2 ap i4 r57) j5L2 out3L2 = F_l01Inverse_L2 ap i4 r57 (j5L2 + 1) (bif (F_l01Bit (gI ap j5L2) i4) then sI out3L2 i4 (orI (gI out3L2 i4) (powI j5L2)) else out3L2) by unfold F_l01Inverse_L2b; rw [ht67]; first | done | rfl)).symm, (by omega), (by first | omega | (simp only [sS_len, sL_len]; omega) | (simp only [List.length_replicate, sI_len]; omega) | (simp only [List.length_append, List.length_cons, List.length_nil, sI_len, cond_true, cond_false]; omega) | (simp only [List.length_append, List.length_cons, List.length_nil, sI_len, cond_eq_ite, apply_ite List.length]; split <;> simp only [List.length_append, List.length_cons, List.length_nil, sI_len] <;> omega) | grind), (by first | omega | (simp only [sS_len, sL_len]; omega) | (simp only [List.length_replicate, sI_len]; omega) | (simp only [List.length_append, List.length_cons, List.length_nil, sI_len, cond_true, cond_false]; omega) | (simp only [List.length_append, List.length_cons, List.length_nil, sI_len, cond_eq_ite, apply_ite List.length]; split <;> simp only [List.length_append, List.length_cons, List.length_nil, sI_len] <;> omega) | grind), (by first | omega | (simp only [sS_len, sL_len]; omega) | (simp only [List.length_replicate, sI_len]; omega) | (simp only [List.length_append, List.length_cons, List.length_nil, sI_len, cond_true, cond_false]; omega) | (simp only [List.length_append, List.length_cons, List.length_nil, sI_len, cond_eq_ite, apply_ite List.length]; split <;> simp only [List.length_append, List.length_cons, List.length_nil, sI_len] <;> omega) | grind), (hE139.sub (L' := [(0, .slice apA ap.length apC), (3, .slice b9 (Int.toNat (ap.length : Int)) (Int.toNat (ap.length : Int))), (4, .int .i64 i4), (5, .int .i64 (j5L2 + 1))]) ⟨rfl, rfl, rfl, rfl, trivial⟩), (St.pick (Γ' := [.own 2 1 b9 (Int.toNat (ap.length : Int)) (Int.toNat (ap.length : Int)) (bif (F_l01Bit (gI ap j5L2) i4) then sI out3L2 i4 (orI (gI out3L2 i4) (powI j5L2)) else out3L2), .rd 1 apA ap.length apC ap]) hS131 [0, 1] (by decide) rfl)⟩
       ·
        have hp141 := of_decide_eq_false ht67
        have hE142 := hE66; rw [ht67] at hE142; clear hE66
        refine wp_exit ?_
        refine p_te ?_
        have hX143 : F_l01Inverse_L2 ap i4 (Int.toNat ((ap.length : Int) - 0) + 1) 0 out3 = (j5L2, out3L2) := hT52.symm.trans (show F_l01Inverse_L2b ap i4 (F_l01Inverse_L2 ap i4 r57) j5L2 out3L2 = (j5L2, out3L2) by unfold F_l01Inverse_L2b; rw [ht67]; first | done | rfl)
        refine p_te (p_be (p_tn ?_))
        exact ⟨(by rw [hX143]; exact (show 0 ≤ j5L2 from (by first | omega | (simp only [sS_len, sL_len]; omega) | (simp only [List.length_replicate, sI_len]; omega) | (simp only [List.length_append, List.length_cons, List.length_nil, sI_len, cond_true, cond_false]; omega) | (simp only [List.length_append, List.length_cons, List.length_nil, sI_len, cond_eq_ite, apply_ite List.length]; split <;> simp only [List.length_append, List.length_cons, List.length_nil, sI_len] <;> omega) | grind))), (by rw [hX143]; exact (show (out3L2.length : Int) = (ap.length : Int) from (by first | omega | (simp only [sS_len, sL_len]; omega) | (simp only [List.length_replicate, sI_len]; omega) | (simp only [List.length_append, List.length_cons, List.length_nil, sI_len, cond_true, cond_false]; omega) | (simp only [List.length_append, List.length_cons, List.length_nil, sI_len, cond_eq_ite, apply_ite List.length]; split <;> simp only [List.length_append, List.length_cons, List.length_nil, sI_len] <;> omega) | grind))), (by rw [hX143]; exact (show j5L2 ≤ (ap.length : Int) from (by first | omega | (simp only [sS_len, sL_len]; omega) | (simp only [List.length_replicate, sI_len]; omega) | (simp only [List.length_append, List.length_cons, List.length_nil, sI_len, cond_true, cond_false]; omega) | (simp only [List.length_append, List.length_cons, List.length_nil, sI_len, cond_eq_ite, apply_ite List.length]; split <;> simp only [List.length_append, List.length_cons, List.length_nil, sI_len] <;> omega) | grind))), (by rw [hX143]; exact (hE142.sub (L' := [(0, .slice apA ap.length apC), (3, .slice b9 (Int.toNat (ap.length : Int)) (Int.toNat (ap.length : Int))), (4, .int .i64 i4), (5, .int .i64 j5L2)]) ⟨rfl, rfl, rfl, rfl, trivial⟩)), (by rw [hX143]; exact (St.pick (Γ' := [.own 2 1 b9 (Int.toNat (ap.length : Int)) (Int.toNat (ap.length : Int)) out3L2, .rd 1 apA ap.length apC ap]) hS51 [0, 1] (by decide) rfl))⟩
     ·
      rintro a144 w145 ⟨hi149, hi150, hi151, hE146, hS147⟩; clear hE46 hS25
      refine p_bn ?_
      refine p_tn ?_
      refine c_reg ?_
      refine q_step (v := .int .i64 i4) hE146 (y_move rfl) rfl rfl rfl ?_; intro a152 hE153; clear hE146
      refine q_step (v := .int .i64 (i4 + 1)) hE153 (y_add rfl rfl ⟨(by omega), (by omega)⟩) rfl rfl rfl ?_; intro a154 hE155; clear hE153
      refine q_step (v := .int .i64 (i4 + 1)) hE155 (y_assign rfl) rfl rfl rfl ?_; intro a156 hE157; clear hE155
      refine c_nil ?_
      have hE158 := hE157.sub (L' := [(0, .slice apA ap.length apC), (3, .slice b9 (Int.toNat (ap.length : Int)) (Int.toNat (ap.length : Int))), (4, .int .i64 (i4 + 1))]) ⟨rfl, rfl, rfl, trivial⟩; clear hE157
      refine p_tn ⟨r31, Nat.lt_succ_self _, i4 + 1, (F_l01Inverse_L2 ap i4 (Int.toNat ((ap.length : Int) - 0) + 1) 0 out3).2, (hT26.symm.trans (show F_l01Inverse_L1b ap (F_l01Inverse_L1 ap r31) i4 out3 = F_l01Inverse_L1 ap r31 (i4 + 1) ((F_l01Inverse_L2 ap i4 (Int.toNat ((ap.length : Int) - 0) + 1) 0 out3).2) by unfold F_l01Inverse_L1b; rw [ht41]; first | done | rfl)).symm, (by omega), (by first | omega | (simp only [sS_len, sL_len]; omega) | (simp only [List.length_replicate, sI_len]; omega) | (simp only [List.length_append, List.length_cons, List.length_nil, sI_len, cond_true, cond_false]; omega) | (simp only [List.length_append, List.length_cons, List.length_nil, sI_len, cond_eq_ite, apply_ite List.length]; split <;> simp only [List.length_append, List.length_cons, List.length_nil, sI_len] <;> omega) | grind), (by first | omega | (simp only [sS_len, sL_len]; omega) | (simp only [List.length_replicate, sI_len]; omega) | (simp only [List.length_append, List.length_cons, List.length_nil, sI_len, cond_true, cond_false]; omega) | (simp only [List.length_append, List.length_cons, List.length_nil, sI_len, cond_eq_ite, apply_ite List.length]; split <;> simp only [List.length_append, List.length_cons, List.length_nil, sI_len] <;> omega) | grind), (by first | omega | (simp only [sS_len, sL_len]; omega) | (simp only [List.length_replicate, sI_len]; omega) | (simp only [List.length_append, List.length_cons, List.length_nil, sI_len, cond_true, cond_false]; omega) | (simp only [List.length_append, List.length_cons, List.length_nil, sI_len, cond_eq_ite, apply_ite List.length]; split <;> simp only [List.length_append, List.length_cons, List.length_nil, sI_len] <;> omega) | grind), (hE158.sub (L' := [(0, .slice apA ap.length apC), (3, .slice b9 (Int.toNat (ap.length : Int)) (Int.toNat (ap.length : Int))), (4, .int .i64 (i4 + 1))]) ⟨rfl, rfl, rfl, trivial⟩), (St.pick (Γ' := [.own 2 1 b9 (Int.toNat (ap.length : Int)) (Int.toNat (ap.length : Int)) ((F_l01Inverse_L2 ap i4 (Int.toNat ((ap.length : Int) - 0) + 1) 0 out3).2), .rd 1 apA ap.length apC ap]) hS147 [0, 1] (by decide) rfl)⟩
    ·
     have hp159 := of_decide_eq_false ht41
     have hE160 := hE40; rw [ht41] at hE160; clear hE40
     refine wp_exit ?_
     refine p_te ?_
     have hX161 : F_l01Inverse_L1 ap (Int.toNat ((ap.length : Int) - 0) + 1) 0 (List.replicate (Int.toNat (ap.length : Int)) 0) = (i4, out3) := hT26.symm.trans (show F_l01Inverse_L1b ap (F_l01Inverse_L1 ap r31) i4 out3 = (i4, out3) by unfold F_l01Inverse_L1b; rw [ht41]; first | done | rfl)
     refine p_te (p_be (p_tn ?_))
     exact ⟨(by rw [hX161]; exact (show 0 ≤ i4 from (by first | omega | (simp only [sS_len, sL_len]; omega) | (simp only [List.length_replicate, sI_len]; omega) | (simp only [List.length_append, List.length_cons, List.length_nil, sI_len, cond_true, cond_false]; omega) | (simp only [List.length_append, List.length_cons, List.length_nil, sI_len, cond_eq_ite, apply_ite List.length]; split <;> simp only [List.length_append, List.length_cons, List.length_nil, sI_len] <;> omega) | grind))), (by rw [hX161]; exact (show (out3.length : Int) = (ap.length : Int) from (by first | omega | (simp only [sS_len, sL_len]; omega) | (simp only [List.length_replicate, sI_len]; omega) | (simp only [List.length_append, List.length_cons, List.length_nil, sI_len, cond_true, cond_false]; omega) | (simp only [List.length_append, List.length_cons, List.length_nil, sI_len, cond_eq_ite, apply_ite List.length]; split <;> simp only [List.length_append, List.length_cons, List.length_nil, sI_len] <;> omega) | grind))), (by rw [hX161]; exact (show i4 ≤ (ap.length : Int) from (by first | omega | (simp only [sS_len, sL_len]; omega) | (simp only [List.length_replicate, sI_len]; omega) | (simp only [List.length_append, List.length_cons, List.length_nil, sI_len, cond_true, cond_false]; omega) | (simp only [List.length_append, List.length_cons, List.length_nil, sI_len, cond_eq_ite, apply_ite List.length]; split <;> simp only [List.length_append, List.length_cons, List.length_nil, sI_len] <;> omega) | grind))), (by rw [hX161]; exact (hE160.sub (L' := [(0, .slice apA ap.length apC), (3, .slice b9 (Int.toNat (ap.length : Int)) (Int.toNat (ap.length : Int))), (4, .int .i64 i4)]) ⟨rfl, rfl, rfl, trivial⟩)), (by rw [hX161]; exact (St.pick (Γ' := [.own 2 1 b9 (Int.toNat (ap.length : Int)) (Int.toNat (ap.length : Int)) out3, .rd 1 apA ap.length apC ap]) hS25 [0, 1] (by decide) rfl))⟩
  ·
   rintro a162 w163 ⟨hi167, hi168, hi169, hE164, hS165⟩; clear hE20 hS13
   refine p_tn ?_
   refine c_seq ?_
   refine c_reg ?_
   refine q_step (v := .slice b9 (Int.toNat (ap.length : Int)) (Int.toNat (ap.length : Int))) hE164 (y_move rfl) rfl rfl rfl ?_; intro a170 hE171; clear hE164
   refine q_step (v := .slice b9 (Int.toNat (ap.length : Int)) (Int.toNat (ap.length : Int))) hE171 (y_assign rfl) rfl rfl rfl ?_; intro a172 hE173; clear hE171
   refine c_nil ?_
   have hE174 := hE173.sub (L' := [(2, .slice b9 (Int.toNat (ap.length : Int)) (Int.toNat (ap.length : Int)))]) ⟨rfl, trivial⟩; clear hE173
   refine p_tn ?_
   refine wp_ret ?_
   have hF : F_l01Inverse ap = (F_l01Inverse_L1 ap (Int.toNat ((ap.length : Int) - 0) + 1) 0 (List.replicate (Int.toNat (ap.length : Int)) 0)).2 := by unfold F_l01Inverse; rfl
   refine c_ret1 hE174 rfl rfl ?_
   exact ⟨b9, Int.toNat (ap.length : Int), (by rw [hF]; first | rfl | (rw [(St.rdO (i := 0) hS165 rfl).len1])), (by rw [hF, (St.rdO (i := 0) hS165 rfl).len1]; (try dsimp only); exact hS165.ok 0 _ rfl), hS165.ext⟩
def F_inverse_L2b (ap : List Int) (t13 : Int) (rec : Int → (List Int) → Int × (List Int)) (t21L2 : Int) (out3L2 : List Int) : Int × (List Int) :=
  bif (decide (t21L2 < ((F_membersOf (gI ap t13)).length : Int))) then (rec (t21L2 + 1) (sI out3L2 (gI (F_membersOf (gI ap t13)) t21L2) (orI (gI out3L2 (gI (F_membersOf (gI ap t13)) t21L2)) (shlI 1 t13)))) else (t21L2, out3L2)
def F_inverse_L2 (ap : List Int) (t13 : Int) : Nat → Int → (List Int) → Int × (List Int)
  | 0, t21L2, out3L2 => (t21L2, out3L2)
  | r + 1, t21L2, out3L2 => F_inverse_L2b ap t13 (F_inverse_L2 ap t13 r) t21L2 out3L2
def F_inverse_L1b (ap : List Int) (rec : Int → (List Int) → Int × (List Int)) (t13 : Int) (out3 : List Int) : Int × (List Int) :=
  bif (decide (t13 < (ap.length : Int))) then (rec (t13 + 1) ((F_inverse_L2 ap t13 (Int.toNat (((F_membersOf (gI ap t13)).length : Int) - 0) + 1) 0 out3).2)) else (t13, out3)
def F_inverse_L1 (ap : List Int) : Nat → Int → (List Int) → Int × (List Int)
  | 0, t13, out3 => (t13, out3)
  | r + 1, t13, out3 => F_inverse_L1b ap (F_inverse_L1 ap r) t13 out3
def F_inverse (ap : List Int) : List Int :=
  (F_inverse_L1 ap (Int.toNat ((ap.length : Int) - 0) + 1) 0 (List.replicate (Int.toNat (ap.length : Int)) 0)).2
theorem cf_inverse (args : Array Value) (w : World) : (callFunc 123 args).run Try.prog w = .ok (.enter 123 args) w := by kernel_rfl
set_option maxRecDepth 100000 in
theorem c_inverse (apA : Option Addr) (apN apC : Nat) (ap : List Int) (w : World) (apR : RdS w 1 apA apN apC ap) (hl : ap.length ≤ 30) (hxa : ∀ m : Int, 0 ≤ m → m < (ap.length : Int) → 0 ≤ gI ap m ∧ gI ap m ≤ fullI (ap.length : Int)) :
    Calls Try.prog 123 #[.slice apA apN apC] w (Ret fun v w' => ∃ b1 : Option Addr, ∃ c1 : Nat, v = .slice b1 (F_inverse ap).length c1 ∧ OwnS w' w.heap.size 2 1 b1 (F_inverse ap).length c1 (F_inverse ap) ∧ Ext w w') := by
  obtain rfl : apN = ap.length := apR.len1.symm
  have apLe := apR.le
  have hf8 := fullI_bd (n := (ap.length : Int)) (by omega) (by omega)
  have hS := St.nil w
  have hS1 := St.rd0 hS rfl apR; clear hS
  refine enter (args := [.slice apA ap.length apC]) Try.func123 rfl rfl ?_
  rw [Try.ntmps123]; intro a hE
  have hE := hE.sub (L' := [(0, .slice apA ap.length apC)]) ⟨rfl, trivial⟩
  refine c_seq ?_
  refine c_reg ?_
  refine q_step (v := .slice none 0 0) hE (y_assign rfl) rfl rfl rfl ?_; intro a2 hE3; clear hE
  refine c_nil ?_
  have hE4 := hE3.sub (L' := [(0, .slice apA ap.length apC)]) ⟨rfl, trivial⟩; clear hE3
  refine p_tn ?_
  refine c_seq ?_
  refine c_reg ?_
  refine q_step (v := .slice apA ap.length apC) hE4 (y_move rfl) rfl rfl rfl ?_; intro a5 hE6; clear hE4
  refine q_step (v := .int .i64 (ap.length : Int)) hE6 (y_len (e := 2) (by kernel_rfl) rfl) rfl rfl rfl ?_; intro a7 hE8; clear hE6
  refine l_step hE8 rfl (l_make (e := 2) (m := (ap.length : Int)) hS1 hE8 (by kernel_rfl) (by kernel_rfl) rfl rfl (by omega) (by omega) rfl ?_)
  intro b9 w10 hS13 he14 a11 hE12; clear hS1 hE8
  refine q_step (v := .slice b9 (Int.toNat (ap.length : Int)) (Int.toNat (ap.length : Int))) hE12 (y_assign rfl) rfl rfl rfl ?_; intro a15 hE16; clear hE12
  refine c_nil ?_
  have hE17 := hE16.sub (L' := [(0, .slice apA ap.length apC), (3, .slice b9 (Int.toNat (ap.length : Int)) (Int.toNat (ap.length : Int)))]) ⟨rfl, rfl, trivial⟩; clear hE16
  refine p_tn ?_
  refine c_seq ?_
  refine c_seq ?_
  refine c_reg ?_
  refine q_step (v := .slice apA ap.length apC) hE17 (y_move rfl) rfl rfl rfl ?_; intro a18 hE19; clear hE17
  refine q_step (v := .int .i64 (ap.length : Int)) hE19 (y_len (e := 2) (by kernel_rfl) rfl) rfl rfl rfl ?_; intro a20 hE21; clear hE19
  refine q_step (v := .int .i64 0) hE21 (y_move rfl) rfl rfl rfl ?_; intro a22 hE23; clear hE21
  refine c_nil ?_
  have hE24 := hE23.sub (L' := [(3, .slice b9 (Int.toNat (ap.length : Int)) (Int.toNat (ap.length : Int))), (11, .slice apA ap.length apC), (12, .int .i64 (ap.length : Int)), (13, .int .i64 0)]) ⟨rfl, rfl, rfl, rfl, trivial⟩; clear hE23
  refine p_tn ?_
  refine c_cut1 (fun a' w' => (0 ≤ ((F_inverse_L1 ap (Int.toNat ((ap.length : Int) - 0) + 1) 0 (List.replicate (Int.toNat (ap.length : Int)) 0)).1)) ∧ ((((F_inverse_L1 ap (Int.toNat ((ap.length : Int) - 0) + 1) 0 (List.replicate (Int.toNat (ap.length : Int)) 0)).2).length : Int) = (ap.length : Int)) ∧ (((F_inverse_L1 ap (Int.toNat ((ap.length : Int) - 0) + 1) 0 (List.replicate (Int.toNat (ap.length : Int)) 0)).1) ≤ (ap.length : Int)) ∧ E a' 36 [(3, .slice b9 (Int.toNat (ap.length : Int)) (Int.toNat (ap.length : Int))), (11, .slice apA ap.length apC), (12, .int .i64 (ap.length : Int)), (13, .int .i64 ((F_inverse_L1 ap (Int.toNat ((ap.length : Int) - 0) + 1) 0 (List.replicate (Int.toNat (ap.length : Int)) 0)).1))] ∧ St w w' [.own 2 1 b9 (Int.toNat (ap.length : Int)) (Int.toNat (ap.length : Int)) ((F_inverse_L1 ap (Int.toNat ((ap.length : Int) - 0) + 1) 0 (List.replicate (Int.toNat (ap.length : Int)) 0)).2), .rd 1 apA ap.length apC ap]) ?_ ?_
  ·
   refine wp_block ?_
   refine c_loop (fun r a' w' => ∃ t13 : Int, ∃ out3 : List Int, F_inverse_L1 ap r t13 out3 = F_inverse_L1 ap (Int.toNat ((ap.length : Int) - 0) + 1) 0 (List.replicate (Int.toNat (ap.length : Int)) 0) ∧ Int.toNat ((ap.length : Int) - t13) < r ∧ (0 ≤ t13) ∧ ((out3.length : Int) = (ap.length : Int)) ∧ (t13 ≤ (ap.length : Int)) ∧ E a' 36 [(3, .slice b9 (Int.toNat (ap.length : Int)) (Int.toNat (ap.length : Int))), (11, .slice apA ap.length apC), (12, .int .i64 (ap.length : Int)), (13, .int .i64 t13)] ∧ St w w' [.own 2 1 b9 (Int.toNat (ap.length : Int)) (Int.toNat (ap.length : Int)) out3, .rd 1 apA ap.length apC ap]) (r := (Int.toNat ((ap.length : Int) - 0) + 1)) ?_ ?_
   · exact ⟨0, List.replicate (Int.toNat (ap.length : Int)) 0, rfl, Nat.lt_succ_self _, (by first | omega | (simp only [sS_len, sL_len]; omega) | (simp only [List.length_replicate, sI_len]; omega) | (simp only [List.length_append, List.length_cons, List.length_nil, sI_len, cond_true, cond_false]; omega) | (simp only [List.length_append, List.length_cons, List.length_nil, sI_len, cond_eq_ite, apply_ite List.length]; split <;> simp only [List.length_append, List.length_cons, List.length_nil, sI_len] <;> omega) | grind), (by first | omega | (simp only [sS_len, sL_len]; omega) | (simp only [List.length_replicate, sI_len]; omega) | (simp only [List.length_append, List.length_cons, List.length_nil, sI_len, cond_true, cond_false]; omega) | (simp only [List.length_append, List.length_cons, List.length_nil, sI_len, cond_eq_ite, apply_ite List.length]; split <;> simp only [List.length_append, List.length_cons, List.length_nil, sI_len] <;> omega) | grind), (by first | omega | (simp only [sS_len, sL_len]; omega) | (simp only [List.length_replicate, sI_len]; omega) | (simp only [List.length_append, List.length_cons, List.length_nil, sI_len, cond_true, cond_false]; omega) | (simp only [List.length_append, List.length_cons, List.length_nil, sI_len, cond_eq_ite, apply_ite List.length]; split <;> simp only [List.length_append, List.length_cons, List.length_nil, sI_len] <;> omega) | grind), (hE24.sub (L' := [(3, .slice b9 (Int.toNat (ap.length : Int)) (Int.toNat (ap.length : Int))), (11, .slice apA ap.length apC), (12, .int .i64 (ap.length : Int)), (13, .int .i64 0)]) ⟨rfl, rfl, rfl, rfl, trivial⟩), (St.pick (Γ' := [.own 2 1 b9 (Int.toNat (ap.length : Int)) (Int.toNat (ap.length : Int)) (List.replicate (Int.toNat (ap.length : Int)) 0), .rd 1 apA ap.length apC ap]) hS13 [0, 1] (by decide) rfl)⟩
   ·
    clear hE24 hS13
    rintro r35 a26 w27 ⟨t13, out3, hT30, hr31, hi32, hi33, hi34, hE28, hS29⟩
    obtain ⟨r35, rfl⟩ : ∃ r', r35 = r' + 1 := ⟨r35 - 1, by omega⟩
    refine c_seq ?_
    refine c_reg ?_
    refine q_step (v := .bool (decide (t13 < (ap.length : Int)))) hE28 (y_lss rfl rfl) rfl rfl rfl ?_; intro a36 hE37; clear hE28
    refine c_nil ?_
    have hE38 := hE37.sub (L' := [(3, .slice b9 (Int.toNat (ap.length : Int)) (Int.toNat (ap.length : Int))), (11, .slice apA ap.length apC), (12, .int .i64 (ap.length : Int)), (13, .int .i64 t13), (14, .bool (decide (t13 < (ap.length : Int))))]) ⟨rfl, rfl, rfl, rfl, rfl, trivial⟩; clear hE37
    refine p_tn ?_
    refine c_seq ?_
    refine c_cond hE38 rfl (fun ht39 => ?_) (fun ht39 => ?_)
    ·
     have hp40 := of_decide_eq_true ht39
     have hE41 := hE38; rw [ht39] at hE41; clear hE38
     have hx1 := hxa t13 (by omega) (by omega)
     have hml := members_len (mask := gI ap t13) (n := ap.length) (by omega) hx1.1 hx1.2
     refine wp_skip ?_
     refine p_tn ?_
     refine c_seq ?_
     refine wp_block ?_
     refine c_seq ?_
     refine c_reg ?_
     refine q_step (v := .int .i64 t13) hE41 (y_move rfl) rfl rfl rfl ?_; intro a42 hE43; clear hE41
     refine q_step (v := .pointer (some (adr apA (Int.toNat t13)))) hE43 (y_idx (by kernel_rfl) (fun _ => by kernel_rfl) rfl rfl (RdS.isS (m := t13) (St.rdR (i := 1) hS29 rfl) (by omega) (by omega)) (by omega) (by omega) (Nat.mul_one _).symm) rfl rfl rfl ?_; intro a44 hE45; clear hE43
     refine q_step (v := .int .i64 (gI ap t13)) hE45 (y_load (fun _ => by kernel_rfl) rfl (RdS.elt (St.rdR (i := 1) hS29 rfl) (by omega) (by omega))) rfl rfl rfl ?_; intro a46 hE47; clear hE45
     refine q_step (v := .int .i64 t13) hE47 (y_assign rfl) rfl rfl rfl ?_; intro a48 hE49; clear hE47
     refine q_step (v := .int .i64 (gI ap t13)) hE49 (y_assign rfl) rfl rfl rfl ?_; intro a50 hE51; clear hE49
     refine c_nil ?_
     have hE52 := hE51.sub (L' := [(3, .slice b9 (Int.toNat (ap.length : Int)) (Int.toNat (ap.length : Int))), (4, .int .i64 t13), (5, .int .i64 (gI ap t13)), (11, .slice apA ap.length apC), (12, .int .i64 (ap.length : Int)), (13, .int .i64 t13)]) ⟨rfl, rfl, rfl, rfl, rfl, rfl, trivial⟩; clear hE51
     refine p_tn ?_
     refine c_seq ?_
     refine c_reg ?_
     refine q_step (v := .int .i64 (gI ap t13)) hE52 (y_move rfl) rfl rfl rfl ?_; intro a53 hE54; clear hE52
     refine l_step hE54 rfl (l_call (f := 170) (argv := [.int .i64 (gI ap t13)]) hE54 (fun _ => cf_membersOf _ _) rfl rfl (c_membersOf (gI ap t13) w27 (by omega) (by omega)) ?_)
     rintro _ w56 ⟨b61, c62, rfl, ho63, he60⟩ a57 hE58; clear hE54
     have hS59 := St.own hS29 he60 ho63; clear hS29
     refine q_step (v := .int .i64 ((F_membersOf (gI ap t13)).length : Int)) hE58 (y_len (e := 2) (by kernel_rfl) rfl) rfl rfl rfl ?_; intro a64 hE65; clear hE58
     refine q_step (v := .int .i64 0) hE65 (y_move rfl) rfl rfl rfl ?_; intro a66 hE67; clear hE65
     refine c_nil ?_
     have hE68 := hE67.sub (L' := [(3, .slice b9 (Int.toNat (ap.length : Int)) (Int.toNat (ap.length : Int))), (4, .int .i64 t13), (11, .slice apA ap.length apC), (12, .int .i64 (ap.length : Int)), (13, .int .i64 t13), (19, .slice b61 ((F_membersOf (gI ap t13)).length) c62), (20, .int .i64 ((F_membersOf (gI ap t13)).length : Int)), (21, .int .i64 0)]) ⟨rfl, rfl, rfl, rfl, rfl, rfl, rfl, rfl, trivial⟩; clear hE67
     refine p_tn ?_
     refine c_cut1 (fun a' w' => (0 ≤ ((F_inverse_L2 ap t13 (Int.toNat (((F_membersOf (gI ap t13)).length : Int) - 0) + 1) 0 out3).1)) ∧ ((((F_inverse_L2 ap t13 (Int.toNat (((F_membersOf (gI ap t13)).length : Int) - 0) + 1) 0 out3).2).length : Int) = (ap.length : Int)) ∧ (((F_inverse_L2 ap t13 (Int.toNat (((F_membersOf (gI ap t13)).length : Int) - 0) + 1) 0 out3).1) ≤ ((F_membersOf (gI ap t13)).length : Int)) ∧ E a' 36 [(3, .slice b9 (Int.toNat (ap.length : Int)) (Int.toNat (ap.length : Int))), (4, .int .i64 t13), (11, .slice apA ap.length apC), (12, .int .i64 (ap.length : Int)), (13, .int .i64 t13), (19, .slice b61 ((F_membersOf (gI ap t13)).length) c62), (20, .int .i64 ((F_membersOf (gI ap t13)).length : Int)), (21, .int .i64 ((F_inverse_L2 ap t13 (Int.toNat (((F_membersOf (gI ap t13)).length : Int) - 0) + 1) 0 out3).1))] ∧ St w w' [.own 2 1 b61 ((F_membersOf (gI ap t13)).length) c62 (F_membersOf (gI ap t13)), .own 2 1 b9 (Int.toNat (ap.length : Int)) (Int.toNat (ap.length : Int)) ((F_inverse_L2 ap t13 (Int.toNat (((F_membersOf (gI ap t13)).length : Int) - 0) + 1) 0 out3).2), .rd 1 apA ap.length apC ap]) ?_ ?_
     ·
      refine wp_block ?_
      refine c_loop (fun r a' w' => ∃ t21L2 : Int, ∃ out3L2 : List Int, F_inverse_L2 ap t13 r t21L2 out3L2 = F_inverse_L2 ap t13 (Int.toNat (((F_membersOf (gI ap t13)).length : Int) - 0) + 1) 0 out3 ∧ Int.toNat (((F_membersOf (gI ap t13)).length : Int) - t21L2) < r ∧ (0 ≤ t21L2) ∧ ((out3L2.length : Int) = (ap.length : Int)) ∧ (t21L2 ≤ ((F_membersOf (gI ap t13)).length : Int)) ∧ E a' 36 [(3, .slice b9 (Int.toNat (ap.length : Int)) (Int.toNat (ap.length : Int))), (4, .int .i64 t13), (11, .slice apA ap.length apC), (12, .int .i64 (ap.length : Int)), (13, .int .i64 t13), (19, .slice b61 ((F_membersOf (gI ap t13)).length) c62), (20, .int .i64 ((F_membersOf (gI ap t13)).length : Int)), (21, .int .i64 t21L2)] ∧ St w w' [.own 2 1 b61 ((F_membersOf (gI ap t13)).length) c62 (F_membersOf (gI ap t13)), .own 2 1 b9 (Int.toNat (ap.length : Int)) (Int.toNat (ap.length : Int)) out3L2, .rd 1 apA ap.length apC ap]) (r := (Int.toNat (((F_membersOf (gI ap t13)).length : Int) - 0) + 1)) ?_ ?_
      · exact ⟨0, out3, rfl, Nat.lt_succ_self _, (by first | omega | (simp only [sS_len, sL_len]; omega) | (simp only [List.length_replicate, sI_len]; omega) | (simp only [List.length_append, List.length_cons, List.length_nil, sI_len, cond_true, cond_false]; omega) | (simp only [List.length_append, List.length_cons, List.length_nil, sI_len, cond_eq_ite, apply_ite List.length]; split <;> simp only [List.length_append, List.length_cons, List.length_nil, sI_len] <;> omega) | grind), (by first | omega | (simp only [sS_len, sL_len]; omega) | (simp only [List.length_replicate, sI_len]; omega) | (simp only [List.length_append, List.length_cons, List.length_nil, sI_len, cond_true, cond_false]; omega) | (simp only [List.length_append, List.length_cons, List.length_nil, sI_len, cond_eq_ite, apply_ite List.length]; split <;> simp only [List.length_append, List.length_cons, List.length_nil, sI_len] <;> omega) | grind), (by first | omega | (simp only [sS_len, sL_len]; omega) | (simp only [List.length_replicate, sI_len]; omega) | (simp only [List.length_append, List.length_cons, List.length_nil, sI_len, cond_true, cond_false]; omega) | (simp only [List.length_append, List.length_cons, List.length_nil, sI_len, cond_eq_ite, apply_ite List.length]; split <;> simp only [List.length_append, List.length_cons, List.length_nil, sI_len] <;> omega) | grind), (hE68.sub (L' := [(3, .slice b9 (Int.toNat (ap.length : Int)) (Int.toNat (ap.length : Int))), (4, .int .i64 t13), (11, .slice apA ap.length apC), (12, .int .i64 (ap.length : Int)), (13, .int .i64 t13), (19, .slice b61 ((F_membersOf (gI ap t13)).length) c62), (20, .int .i64 ((F_membersOf (gI ap t13)).length : Int)), (21, .int .i64 0)]) ⟨rfl, rfl, rfl, rfl, rfl, rfl, rfl, rfl, trivial⟩), (St.pick (Γ' := [.own 2 1 b61 ((F_membersOf (gI ap t13)).length) c62 (F_membersOf (gI ap t13)), .own 2 1 b9 (Int.toNat (ap.length : Int)) (Int.toNat (ap.length : Int)) out3, .rd 1 apA ap.length apC ap]) hS59 [0, 1, 2] (by decide) rfl)⟩
      ·
       clear hE68 hS59
       rintro r79 a70 w71 ⟨t21L2, out3L2, hT74, hr75, hi76, hi77, hi78, hE72, hS73⟩
       obtain ⟨r79, rfl⟩ : ∃ r', r79 = r' + 1 := ⟨r79 - 1, by omega⟩
       refine c_seq ?_
       refine c_reg ?_
       refine q_step (v := .bool (decide (t21L2 < ((F_membersOf (gI ap t13)).length : Int)))) hE72 (y_lss rfl rfl) rfl rfl rfl ?_; intro a80 hE81; clear hE72
       refine c_nil ?_
       have hE82 := hE81.sub (L' := [(3, .slice b9 (Int.toNat (ap.length : Int)) (Int.toNat (ap.length : Int))), (4, .int .i64 t13), (11, .slice apA ap.length apC), (12, .int .i64 (ap.length : Int)), (13, .int .i64 t13), (19, .slice b61 ((F_membersOf (gI ap t13)).length) c62), (20, .int .i64 ((F_membersOf (gI ap t13)).length : Int)), (21, .int .i64 t21L2), (22, .bool (decide (t21L2 < ((F_membersOf (gI ap t13)).length : Int))))]) ⟨rfl, rfl, rfl, rfl, rfl, rfl, rfl, rfl, rfl, trivial⟩; clear hE81
       refine p_tn ?_
       refine c_seq ?_
       refine c_cond hE82 rfl (fun ht83 => ?_) (fun ht83 => ?_)
       ·
        have hp84 := of_decide_eq_true ht83
        have hE85 := hE82; rw [ht83] at hE85; clear hE82
        have hx2 := members_lt (mask := gI ap t13) (n := ap.length) (by omega) hx1.1 hx1.2 t21L2 (by omega) (by omega)
        refine wp_skip ?_
        refine p_tn ?_
        refine c_seq ?_
        refine wp_block ?_
        refine c_seq ?_
        refine c_reg ?_
        refine q_step (v := .pointer (some (adr b61 (Int.toNat t21L2)))) hE85 (y_idx (by kernel_rfl) (fun _ => by kernel_rfl) rfl rfl (RdS.isS (m := t21L2) (St.rdO (i := 0) hS73 rfl) (by omega) (by omega)) (by omega) (by omega) (Nat.mul_one _).symm) rfl rfl rfl ?_; intro a86 hE87; clear hE85
        refine q_step (v := .int .i64 (gI (F_membersOf (gI ap t13)) t21L2)) hE87 (y_load (fun _ => by kernel_rfl) rfl (RdS.elt (St.rdO (i := 0) hS73 rfl) (by omega) (by omega))) rfl rfl rfl ?_; intro a88 hE89; clear hE87
        refine q_step (v := .int .i64 (gI (F_membersOf (gI ap t13)) t21L2)) hE89 (y_assign rfl) rfl rfl rfl ?_; intro a90 hE91; clear hE89
        refine c_nil ?_
        have hE92 := hE91.sub (L' := [(3, .slice b9 (Int.toNat (ap.length : Int)) (Int.toNat (ap.length : Int))), (4, .int .i64 t13), (7, .int .i64 (gI (F_membersOf (gI ap t13)) t21L2)), (11, .slice apA ap.length apC), (12, .int .i64 (ap.length : Int)), (13, .int .i64 t13), (19, .slice b61 ((F_membersOf (gI ap t13)).length) c62), (20, .int .i64 ((F_membersOf (gI ap t13)).length : Int)), (21, .int .i64 t21L2)]) ⟨rfl, rfl, rfl, rfl, rfl, rfl, rfl, rfl, rfl, trivial⟩; clear hE91
        refine p_tn ?_
        refine d_start (fun w w' => (fun w' => w'.cell? (adr b9 (Int.toNat (gI (F_membersOf (gI ap t13)) t21L2))) = some (.int .i64 (gI out3L2 (gI (F_membersOf (gI ap t13)) t21L2))) ∧ True) w → (fun w' => w'.cell? (adr b9 (Int.toNat (gI (F_membersOf (gI ap t13)) t21L2))) = some (.int .i64 (gI out3L2 (gI (F_membersOf (gI ap t13)) t21L2))) ∧ True) w') [3] 9 (by kernel_rfl) rfl ?_
        intro w93 he94; have hS95 := St.go hS73 he94; clear hS73
        refine d_pure (fun _ h => h) (v := .slice b9 (Int.toNat (ap.length : Int)) (Int.toNat (ap.length : Int))) 0 rfl hE92 (y_move rfl) rfl (by kernel_rfl) (by kernel_rfl) (by kernel_rfl) rfl rfl (fun _ _ _ h => h) ?_; intro a96 hE97; clear hE92
        refine d_pure (fun _ h => h) (v := .int .i64 (gI (F_membersOf (gI ap t13)) t21L2)) 1 rfl hE97 (y_move rfl) rfl (by kernel_rfl) (by kernel_rfl) (by kernel_rfl) rfl rfl (fun _ _ _ h => h) ?_; intro a98 hE99; clear hE97
        refine d_pure (fun _ h => h) (v := .pointer (some (adr b9 (Int.toNat (gI (F_membersOf (gI ap t13)) t21L2))))) 2 rfl hE99 (y_idx (by kernel_rfl) (fun _ => by kernel_rfl) rfl rfl (RdS.isS (m := gI (F_membersOf (gI ap t13)) t21L2) (St.rdO (i := 1) hS95 rfl) (by omega) (by omega)) (by omega) (by omega) (Nat.mul_one _).symm) rfl (by kernel_rfl) (by kernel_rfl) (by kernel_rfl) rfl rfl (fun _ _ _ h => h) ?_; intro a100 hE101; clear hE99
        refine d_take (fun _ h => h) (fun _ _ h k => h k) (v := .int .i64 (gI out3L2 (gI (F_membersOf (gI ap t13)) t21L2))) 3 rfl hE101 (S := fun w' => w'.cell? (adr b9 (Int.toNat (gI (F_membersOf (gI ap t13)) t21L2))) = some (.int .i64 (gI out3L2 (gI (F_membersOf (gI ap t13)) t21L2))) ∧ True) ⟨(RdS.elt (St.rdO (i := 1) hS95 rfl) (by omega) (by omega) _ (Ext.refl _)), trivial⟩ (y_load (fun _ => by kernel_rfl) rfl (fun _ h => h.1)) rfl rfl (by kernel_rfl) (by kernel_rfl) (by kernel_rfl) (by kernel_rfl) rfl rfl (fun _ _ _ h => h) ?_; intro a102 hE103; clear hE101
        refine d_pure (fun _ h => h) (v := .int .i64 t13) 4 rfl hE103 (y_move rfl) rfl (by kernel_rfl) (by kernel_rfl) (by kernel_rfl) rfl rfl (fun _ _ _ h => h) ?_; intro a104 hE105; clear hE103
        refine d_pure (fun _ h => h) (v := .int .i64 (shlI 1 t13)) 5 rfl hE105 (y_shl rfl rfl (by omega)) rfl (by kernel_rfl) (by kernel_rfl) (by kernel_rfl) rfl rfl (fun _ _ _ h => h) ?_; intro a106 hE107; clear hE105
        refine d_pure (fun _ h => h) (v := .int .i64 (orI (gI out3L2 (gI (F_membersOf (gI ap t13)) t21L2)) (shlI 1 t13))) 6 rfl hE107 (y_or rfl rfl) rfl (by kernel_rfl) (by kernel_rfl) (by kernel_rfl) rfl rfl (fun _ _ _ h => h) ?_; intro a108 hE109; clear hE107
        refine d_pure (fun _ h => h) (v := .pointer (some (adr b9 (Int.toNat (gI (F_membersOf (gI ap t13)) t21L2))))) 7 rfl hE109 (y_idx (by kernel_rfl) (fun _ => by kernel_rfl) rfl rfl (RdS.isS (m := gI (F_membersOf (gI ap t13)) t21L2) (St.rdO (i := 1) hS95 rfl) (by omega) (by omega)) (by omega) (by omega) (Nat.mul_one _).symm) rfl (by kernel_rfl) (by kernel_rfl) (by kernel_rfl) rfl rfl (fun _ _ _ h => h) ?_; intro a110 hE111; clear hE109
        refine d_only 8 (by kernel_rfl) rfl hE111 rfl (l_store (k := 1) hS95 hE111 (fun _ => by kernel_rfl) rfl rfl rfl (by omega) (by omega) ?_)
        intro w113 hS116 a114 hE115; clear hS95 hE111
        refine ⟨fun h => Bool.noConfusion (h.symm.trans (show exm _ _ _ = true by kernel_rfl)), ?_⟩
        refine d_done (by kernel_rfl) ?_
        have hE118 := hE115.sub (L' := [(3, .slice b9 (Int.toNat (ap.length : Int)) (Int.toNat (ap.length : Int))), (4, .int .i64 t13), (11, .slice apA ap.length apC), (12, .int .i64 (ap.length : Int)), (13, .int .i64 t13), (19, .slice b61 ((F_membersOf (gI ap t13)).length) c62), (20, .int .i64 ((F_membersOf (gI ap t13)).length : Int)), (21, .int .i64 t21L2)]) ⟨rfl, rfl, rfl, rfl, rfl, rfl, rfl, rfl, trivial⟩; clear hE115
        refine p_bn ?_
        refine p_tn ?_
        refine c_reg ?_
        refine q_step (v := .int .i64 (t21L2 + 1)) hE118 (y_add rfl rfl ⟨(by omega), (by omega)⟩) rfl rfl rfl ?_; intro a119 hE120; clear hE118
        refine q_step (v := .int .i64 (t21L2 + 1)) hE120 (y_move rfl) rfl rfl rfl ?_; intro a121 hE122; clear hE120
        refine c_nil ?_
        have hE123 := hE122.sub (L' := [(3, .slice b9 (Int.toNat (ap.length : Int)) (Int.toNat (ap.length : Int))), (4, .int .i64 t13), (11, .slice apA ap.length apC), (12, .int .i64 (ap.length : Int)), (13, .int .i64 t13), (19, .slice b61 ((F_membersOf (gI ap t13)).length) c62), (20, .int .i64 ((F_membersOf (gI ap t13)).length : Int)), (21, .int .i64 (t21L2 + 1))]) ⟨rfl, rfl, rfl, rfl, rfl, rfl, rfl, rfl, trivial⟩; clear hE122
        refine p_tn ⟨r79, Nat.lt_succ_self _, t21L2 + 1, sI out3L2 (gI (F_membersOf (gI ap t13)) t21L2) (orI (gI out3L2 (gI (F_membersOf (gI ap t13)) t21L2)) (shlI 1 t13)), (hT74.symm.trans (show F_inverse_L2b ap t13 (F_inverse_L2 ap t13 r79) t21L2 out3L2 = F_inverse_L2 ap t13 r79 (t21L2 + 1) (sI out3L2 (gI (F_membersOf (gI ap t13)) t21L2) (orI (gI out3L2 (gI (F_membersOf (gI ap t13)) t21L2)) (shlI 1 t13))) by unfold F_inverse_L2b; rw [ht83]; first | done | rfl)).symm, (by omega), (by first | omega | (simp only [sS_len, sL_len]; omega) | (simp only [List.length_replicate, sI_len]; omega) | (simp only [List.length_append, List.length_cons, List.length_nil, sI_len, cond_true, cond_false]; omega) | (simp only [List.length_append, List.length_cons, List.length_nil, sI_len, cond_eq_ite, apply_ite List.length]; split <;> simp only [List.length_append, List.length_cons, List.length_nil, sI_len] <;> omega) | grind), (by first | omega | (simp only [sS_len, sL_len]; omega) | (simp only [List.length_replicate, sI_len]; omega) | (simp only [List.length_append, List.length_cons, List.length_nil, sI_len, cond_true, cond_false]; omega) | (simp only [List.length_append, List.length_cons, List.length_nil, sI_len, cond_eq_ite, apply_ite List.length]; split <;> simp only [List.length_append, List.length_cons, List.length_nil, sI_len] <;> omega) | grind), (by first | omega | (simp only [sS_len, sL_len]; omega) | (simp only [List.length_replicate, sI_len]; omega) | (simp only [List.length_append, List.length_cons, List.length_nil, sI_len, cond_true, cond_false]; omega) | (simp only [List.length_append, List.length_cons, List.length_nil, sI_len, cond_eq_ite, apply_ite List.length]; split <;> simp only [List.length_append, List.length_cons, List.length_nil, sI_len] <;> omega) | grind), (hE123.sub (L' := [(3, .slice b9 (Int.toNat (ap.length : Int)) (Int.toNat (ap.length : Int))), (4, .int .i64 t13), (11, .slice apA ap.length apC), (12, .int .i64 (ap.length : Int)), (13, .int .i64 t13), (19, .slice b61 ((F_membersOf (gI ap t13)).length) c62), (20, .int .i64 ((F_membersOf (gI ap t13)).length : Int)), (21, .int .i64 (t21L2 + 1))]) ⟨rfl, rfl, rfl, rfl, rfl, rfl, rfl, rfl, trivial⟩), (St.pick (Γ' := [.own 2 1 b61 ((F_membersOf (gI ap t13)).length) c62 (F_membersOf (gI ap t13)), .own 2 1 b9 (Int.toNat (ap.length : Int)) (Int.toNat (ap.length : Int)) (sI out3L2 (gI (F_membersOf (gI ap t13)) t21L2) (orI (gI out3L2 (gI (F_membersOf (gI ap t13)) t21L2)) (shlI 1 t13))), .rd 1 apA ap.length apC ap]) hS116 [0, 1, 2] (by decide) rfl)⟩
       ·
        have hp124 := of_decide_eq_false ht83
        have hE125 := hE82; rw [ht83] at hE125; clear hE82
        refine wp_exit ?_
        refine p_te ?_
        have hX126 : F_inverse_L2 ap t13 (Int.toNat (((F_membersOf (gI ap t13)).length : Int) - 0) + 1) 0 out3 = (t21L2, out3L2) := hT74.symm.trans (show F_inverse_L2b ap t13 (F_inverse_L2 ap t13 r79) t21L2 out3L2 = (t21L2, out3L2) by unfold F_inverse_L2b; rw [ht83]; first | done | rfl)
        refine p_te (p_be (p_tn ?_))
        exact ⟨(by rw [hX126]; exact (show 0 ≤ t21L2 from (by first | omega | (simp only [sS_len, sL_len]; omega) | (simp only [List.length_replicate, sI_len]; omega) | (simp only [List.length_append, List.length_cons, List.length_nil, sI_len, cond_true, cond_false]; omega) | (simp only [List.length_append, List.length_cons, List.length_nil, sI_len, cond_eq_ite, apply_ite List.length]; split <;> simp only [List.length_append, List.length_cons, List.length_nil, sI_len] <;> omega) | grind))), (by rw [hX126]; exact (show (out3L2.length : Int) = (ap.length : Int) from (by first | omega | (simp only [sS_len, sL_len]; omega) | (simp only [List.length_replicate, sI_len]; omega) | (simp only [List.length_append, List.length_cons, List.length_nil, sI_len, cond_true, cond_false]; omega) | (simp only [List.length_append, List.length_cons, List.length_nil, sI_len, cond_eq_ite, apply_ite List.length]; split <;> simp only [List.length_append, List.length_cons, List.length_nil, sI_len] <;> omega) | grind))), (by rw [hX126]; exact (show t21L2 ≤ ((F_membersOf (gI ap t13)).length : Int) from (by first | omega | (simp only [sS_len, sL_len]; omega) | (simp only [List.length_replicate, sI_len]; omega) | (simp only [List.length_append, List.length_cons, List.length_nil, sI_len, cond_true, cond_false]; omega) | (simp only [List.length_append, List.length_cons, List.length_nil, sI_len, cond_eq_ite, apply_ite List.length]; split <;> simp only [List.length_append, List.length_cons, List.length_nil, sI_len] <;> omega) | grind))), (by rw [hX126]; exact (hE125.sub (L' := [(3, .slice b9 (Int.toNat (ap.length : Int)) (Int.toNat (ap.length : Int))), (4, .int .i64 t13), (11, .slice apA ap.length apC), (12, .int .i64 (ap.length : Int)), (13, .int .i64 t13), (19, .slice b61 ((F_membersOf (gI ap t13)).length) c62), (20, .int .i64 ((F_membersOf (gI ap t13)).length : Int)), (21, .int .i64 t21L2)]) ⟨rfl, rfl, rfl, rfl, rfl, rfl, rfl, rfl, trivial⟩)), (by rw [hX126]; exact (St.pick (Γ' := [.own 2 1 b61 ((F_membersOf (gI ap t13)).length) c62 (F_membersOf (gI ap t13)), .own 2 1 b9 (Int.toNat (ap.length : Int)) (Int.toNat (ap.length : Int)) out3L2, .rd 1 apA ap.length apC ap]) hS73 [0, 1, 2] (by decide) rfl))⟩
     ·
      rintro a127 w128 ⟨hi132, hi133, hi134, hE129, hS130⟩; clear hE68 hS59
      refine p_bn ?_
      refine p_tn ?_
      refine c_reg ?_
      refine q_step (v := .int .i64 (t13 + 1)) hE129 (y_add rfl rfl ⟨(by omega), (by omega)⟩) rfl rfl rfl ?_; intro a135 hE136; clear hE129
      refine q_step (v := .int .i64 (t13 + 1)) hE136 (y_move rfl) rfl rfl rfl ?_; intro a137 hE138; clear hE136
      refine c_nil ?_
      have hE139 := hE138.sub (L' := [(3, .slice b9 (Int.toNat (ap.length : Int)) (Int.toNat (ap.length : Int))), (11, .slice apA ap.length apC), (12, .int .i64 (ap.length : Int)), (13, .int .i64 (t13 + 1))]) ⟨rfl, rfl, rfl, rfl, trivial⟩; clear hE138
      refine p_tn ⟨r35, Nat.lt_succ_self _, t13 + 1, (F_inverse_L2 ap t13 (Int.toNat (((F_membersOf (gI ap t13)).length : Int) - 0) + 1) 0 out3).2, (hT30.symm.trans (show F_inverse_L1b ap (F_inverse_L1 ap r35) t13 out3 = F_inverse_L1 ap r35 (t13 + 1) ((F_inverse_L2 ap t13 (Int.toNat (((F_membersOf (gI ap t13)).length : Int) - 0) + 1) 0 out3).2) by unfold F_inverse_L1b; rw [ht39]; first | done | rfl)).symm, (by omega), (by first | omega | (simp only [sS_len, sL_len]; omega) | (simp only [List.length_replicate, sI_len]; omega) | (simp only [List.length_append, List.length_cons, List.length_nil, sI_len, cond_true, cond_false]; omega) | (simp only [List.length_append, List.length_cons, List.length_nil, sI_len, cond_eq_ite, apply_ite List.length]; split <;> simp only [List.length_append, List.length_cons, List.length_nil, sI_len] <;> omega) | grind), (by first | omega | (simp only [sS_len, sL_len]; omega) | (simp only [List.length_replicate, sI_len]; omega) | (simp only [List.length_append, List.length_cons, List.length_nil, sI_len, cond_true, cond_false]; omega) | (simp only [List.length_append, List.length_cons, List.length_nil, sI_len, cond_eq_ite, apply_ite List.length]; split <;> simp only [List.length_append, List.length_cons, List.length_nil, sI_len] <;> omega) | grind), (by first | omega | (simp only [sS_len, sL_len]; omega) | (simp only [List.length_replicate, sI_len]; omega) | (simp only [List.length_append, List.length_cons, List.length_nil, sI_len, cond_true, cond_false]; omega) | (simp only [List.length_append, List.length_cons, List.length_nil, sI_len, cond_eq_ite, apply_ite List.length]; split <;> simp only [List.length_append, List.length_cons, List.length_nil, sI_len] <;> omega) | grind), (hE139.sub (L' := [(3, .slice b9 (Int.toNat (ap.length : Int)) (Int.toNat (ap.length : Int))), (11, .slice apA ap.length apC), (12, .int .i64 (ap.length : Int)), (13, .int .i64 (t13 + 1))]) ⟨rfl, rfl, rfl, rfl, trivial⟩), (St.pick (Γ' := [.own 2 1 b9 (Int.toNat (ap.length : Int)) (Int.toNat (ap.length : Int)) ((F_inverse_L2 ap t13 (Int.toNat (((F_membersOf (gI ap t13)).length : Int) - 0) + 1) 0 out3).2), .rd 1 apA ap.length apC ap]) hS130 [1, 2] (by decide) rfl)⟩
    ·
     have hp140 := of_decide_eq_false ht39
     have hE141 := hE38; rw [ht39] at hE141; clear hE38
     refine wp_exit ?_
     refine p_te ?_
     have hX142 : F_inverse_L1 ap (Int.toNat ((ap.length : Int) - 0) + 1) 0 (List.replicate (Int.toNat (ap.length : Int)) 0) = (t13, out3) := hT30.symm.trans (show F_inverse_L1b ap (F_inverse_L1 ap r35) t13 out3 = (t13, out3) by unfold F_inverse_L1b; rw [ht39]; first | done | rfl)
     refine p_te (p_be (p_tn ?_))
     exact ⟨(by rw [hX142]; exact (show 0 ≤ t13 from (by first | omega | (simp only [sS_len, sL_len]; omega) | (simp only [List.length_replicate, sI_len]; omega) | (simp only [List.length_append, List.length_cons, List.length_nil, sI_len, cond_true, cond_false]; omega) | (simp only [List.length_append, List.length_cons, List.length_nil, sI_len, cond_eq_ite, apply_ite List.length]; split <;> simp only [List.length_append, List.length_cons, List.length_nil, sI_len] <;> omega) | grind))), (by rw [hX142]; exact (show (out3.length : Int) = (ap.length : Int) from (by first | omega | (simp only [sS_len, sL_len]; omega) | (simp only [List.length_replicate, sI_len]; omega) | (simp only [List.length_append, List.length_cons, List.length_nil, sI_len, cond_true, cond_false]; omega) | (simp only [List.length_append, List.length_cons, List.length_nil, sI_len, cond_eq_ite, apply_ite List.length]; split <;> simp only [List.length_append, List.length_cons, List.length_nil, sI_len] <;> omega) | grind))), (by rw [hX142]; exact (show t13 ≤ (ap.length : Int) from (by first | omega | (simp only [sS_len, sL_len]; omega) | (simp only [List.length_replicate, sI_len]; omega) | (simp only [List.length_append, List.length_cons, List.length_nil, sI_len, cond_true, cond_false]; omega) | (simp only [List.length_append, List.length_cons, List.length_nil, sI_len, cond_eq_ite, apply_ite List.length]; split <;> simp only [List.length_append, List.length_cons, List.length_nil, sI_len] <;> omega) | grind))), (by rw [hX142]; exact (hE141.sub (L' := [(3, .slice b9 (Int.toNat (ap.length : Int)) (Int.toNat (ap.length : Int))), (11, .slice apA ap.length apC), (12, .int .i64 (ap.length : Int)), (13, .int .i64 t13)]) ⟨rfl, rfl, rfl, rfl, trivial⟩)), (by rw [hX142]; exact (St.pick (Γ' := [.own 2 1 b9 (Int.toNat (ap.length : Int)) (Int.toNat (ap.length : Int)) out3, .rd 1 apA ap.length apC ap]) hS29 [0, 1] (by decide) rfl))⟩
  ·
   rintro a143 w144 ⟨hi148, hi149, hi150, hE145, hS146⟩; clear hE24 hS13
   refine p_tn ?_
   refine c_seq ?_
   refine c_reg ?_
   refine q_step (v := .slice b9 (Int.toNat (ap.length : Int)) (Int.toNat (ap.length : Int))) hE145 (y_move rfl) rfl rfl rfl ?_; intro a151 hE152; clear hE145
   refine q_step (v := .slice b9 (Int.toNat (ap.length : Int)) (Int.toNat (ap.length : Int))) hE152 (y_assign rfl) rfl rfl rfl ?_; intro a153 hE154; clear hE152
   refine c_nil ?_
   have hE155 := hE154.sub (L' := [(2, .slice b9 (Int.toNat (ap.length : Int)) (Int.toNat (ap.length : Int)))]) ⟨rfl, trivial⟩; clear hE154
   refine p_tn ?_
   refine wp_ret ?_
   have hF : F_inverse ap = (F_inverse_L1 ap (Int.toNat ((ap.length : Int) - 0) + 1) 0 (List.replicate (Int.toNat (ap.length : Int)) 0)).2 := by unfold F_inverse; rfl
   refine c_ret1 hE155 rfl rfl ?_
   exact ⟨b9, Int.toNat (ap.length : Int), (by rw [hF]; first | rfl | (rw [(St.rdO (i := 0) hS146 rfl).len1])), (by rw [hF, (St.rdO (i := 0) hS146 rfl).len1]; (try dsimp only); exact hS146.ok 0 _ rfl), hS146.ext⟩
theorem listLoopR {α : Type} (xs : List Int) (g : α → Int → α) (L : Nat → Int → α → Int × α) (hL : ∀ r t o, L (r + 1) t o = bif decide (t < (xs.length : Int)) then L r (t + 1) (g o (gI xs t)) else (t, o)) (o : α) :
    (L (Int.toNat ((xs.length : Int) - 0) + 1) 0 o).2 = xs.foldl g o := by
  rw [rangeLoopR0 (xs.length : Int) (by omega) (fun o t => g o (gI xs t)) L hL, Int.toNat_natCast]
  conv => rhs; rw [← map_gI xs]
  rw [List.foldl_map]
theorem l01Inverse_row (ap : List Int) (i : Nat) (out : List Int) (hi : i < out.length) : (F_l01Inverse_L2 ap (i : Int) (Int.toNat ((ap.length : Int) - 0) + 1) 0 out).2 = sI out (i : Int) ((List.range ap.length).foldl (fun o (j : Nat) => bif F_l01Bit (gI ap (j : Int)) (i : Int) then orI o (powI (j : Int)) else o) (gI out (i : Int))) := by
  rw [rangeLoopR0 (ap.length : Int) (by omega) (fun o j => bif F_l01Bit (gI ap j) (i : Int) then sI o (i : Int) (orI (gI o (i : Int)) (powI j)) else o) (F_l01Inverse_L2 ap (i : Int)) (fun _ _ _ => rfl), Int.toNat_natCast]
  have key : ∀ (l : List Nat) (a : Int), l.foldl (fun o (j : Nat) => bif F_l01Bit (gI ap (j : Int)) (i : Int) then sI o (i : Int) (orI (gI o (i : Int)) (powI (j : Int))) else o) (sI out (i : Int) a) = sI out (i : Int) (l.foldl (fun o (j : Nat) => bif F_l01Bit (gI ap (j : Int)) (i : Int) then orI o (powI (j : Int)) else o) a) := by
    intro l
    induction l with
    | nil => intro a; rfl
    | cons y l ih =>
      intro a
      rw [List.foldl_cons, List.foldl_cons]
      cases F_l01Bit (gI ap (y : Int)) (i : Int)
      · rw [cond_false, cond_false]; exact ih a
      · rw [cond_true, cond_true, gI_sI hi, if_pos rfl]
        have e : sI (sI out (i : Int) a) (i : Int) (orI a (powI (y : Int))) = sI out (i : Int) (orI a (powI (y : Int))) := by unfold sI; rw [List.set_set]
        rw [e]; exact ih _
  have := key (List.range ap.length) (gI out (i : Int))
  rw [sI_self (by omega) (by omega)] at this
  exact this
theorem l01Inverse_rows (ap : List Int) : (F_l01Inverse ap).length = ap.length ∧ ∀ i : Nat, i < ap.length → gI (F_l01Inverse ap) (i : Int) = (List.range ap.length).foldl (fun o (j : Nat) => bif F_l01Bit (gI ap (j : Int)) (i : Int) then orI o (powI (j : Int)) else o) 0 := by
  unfold F_l01Inverse
  obtain ⟨h1, h2⟩ := mapLoop (ap.length : Int) (fun t o => (List.range ap.length).foldl (fun o (j : Nat) => bif F_l01Bit (gI ap (j : Int)) t then orI o (powI (j : Int)) else o) o) (F_l01Inverse_L1 ap) (fun r t xs h0 hl => by
    show F_l01Inverse_L1b ap _ t xs = _
    unfold F_l01Inverse_L1b
    by_cases h : t < (ap.length : Int)
    · have e := l01Inverse_row ap t.toNat xs (by omega)
      rw [show ((t.toNat : Nat) : Int) = t by omega] at e
      rw [decide_eq_true h, cond_true, cond_true, e]
    · rw [decide_eq_false h, cond_false, cond_false]) (List.replicate (Int.toNat (ap.length : Int)) 0) (by rw [List.length_replicate]; omega)
  refine ⟨by omega, fun i hi => ?_⟩
  rw [h2 i (by omega), gI_replicate (by omega)]
theorem l01Inverse_len (ap : List Int) : (F_l01Inverse ap).length = ap.length := (l01Inverse_rows ap).1
theorem inverse_len (ap : List Int) : (F_inverse ap).length = ap.length := by
  unfold F_inverse
  have k2 : ∀ (t : Int) (r : Nat) (v : Int) (o : List Int), (F_inverse_L2 ap t r v o).2.length = o.length := by
    intro t r
    induction r with
    | zero => intro v o; rfl
    | succ r ih =>
      intro v o
      show (F_inverse_L2b ap t _ v o).2.length = _
      unfold F_inverse_L2b
      cases decide (v < ((F_membersOf (gI ap t)).length : Int))
      · rfl
      · rw [cond_true, ih, sI_len]
  have k1 : ∀ (r : Nat) (t : Int) (o : List Int), (F_inverse_L1 ap r t o).2.length = o.length := by
    intro r
    induction r with
    | zero => intro t o; rfl
    | succ r ih =>
      intro t o
      show (F_inverse_L1b ap _ t o).2.length = _
      unfold F_inverse_L1b
      cases decide (t < (ap.length : Int))
      · rfl
      · rw [cond_true, ih, k2]
  rw [k1, List.length_replicate, Int.toNat_natCast]
/-- A value goes into all rows of a mask. -/
theorem put_rows {n : Nat} (c : Nat → Bool) (v : Int) : ∀ (k : Nat) (o : List Int), k ≤ o.length → ((List.range k).foldl (fun o (j : Nat) => bif c j then sI o (j : Int) (orI (gI o (j : Int)) v) else o) o).length = o.length ∧ ∀ j : Nat, j < o.length → gI ((List.range k).foldl (fun o (j : Nat) => bif c j then sI o (j : Int) (orI (gI o (j : Int)) v) else o) o) (j : Int) = bif decide (j < k) && c j then orI (gI o (j : Int)) v else gI o (j : Int) := by
  intro k
  induction k with
  | zero => intro o _; exact ⟨rfl, fun j _ => by rw [decide_eq_false (by omega)]; rfl⟩
  | succ k ih =>
    intro o hk
    obtain ⟨h1, h2⟩ := ih o (by omega)
    rw [List.range_succ, List.foldl_append, List.foldl_cons, List.foldl_nil]
    generalize (List.range k).foldl (fun o (j : Nat) => bif c j then sI o (j : Int) (orI (gI o (j : Int)) v) else o) o = q at h1 h2
    cases hc : c k
    · rw [cond_false]
      refine ⟨h1, fun j hj => ?_⟩
      rw [h2 j hj]
      by_cases e : j = k
      · subst e; rw [hc, Bool.and_false, Bool.and_false]
      · rw [show decide (j < k + 1) = decide (j < k) from decide_eq_decide.2 (by omega)]
    · rw [cond_true]
      refine ⟨by rw [sI_len]; exact h1, fun j hj => ?_⟩
      rw [gI_sI (by omega)]
      by_cases e : k = j
      · subst e
        rw [if_pos rfl, h2 k hj, decide_eq_false (by omega), decide_eq_true (by omega), hc]; rfl
      · rw [if_neg e, h2 j hj, show decide (j < k + 1) = decide (j < k) from decide_eq_decide.2 (by omega)]
theorem inverse_eq {ap : List Int} {n : Nat} (hn : n ≤ 30) (h : Rl n ap) : F_inverse ap = F_l01Inverse ap := by
  have hl := h.1
  obtain ⟨r1, r2⟩ := l01Inverse_rows ap
  have row : ∀ (t : Nat) (o : List Int), t < n → o.length = n → (F_inverse_L2 ap (t : Int) (Int.toNat (((F_membersOf (gI ap (t : Int))).length : Int) - 0) + 1) 0 o).2.length = n ∧ ∀ j : Nat, j < n → gI (F_inverse_L2 ap (t : Int) (Int.toNat (((F_membersOf (gI ap (t : Int))).length : Int) - 0) + 1) 0 o).2 (j : Int) = bif F_has (gI ap (t : Int)) (j : Int) then orI (gI o (j : Int)) (powI (t : Int)) else gI o (j : Int) := by
    intro t o ht ho
    have hm := h.2 t ht
    rw [listLoopR (F_membersOf (gI ap (t : Int))) (fun o m => sI o m (orI (gI o m) (shlI 1 (t : Int)))) (F_inverse_L2 ap (t : Int)) (fun _ _ _ => rfl), members_fold (n := n) (by omega) hm.1 hm.2, pow_shl (by omega) (by omega)]
    obtain ⟨p1, p2⟩ := put_rows (n := n) (fun j => F_has (gI ap (t : Int)) (j : Int)) (powI (t : Int)) n o (by omega)
    refine ⟨by omega, fun j hj => ?_⟩
    rw [p2 j (by omega), decide_eq_true hj, Bool.true_and]
  have outer : ∀ (k t : Nat) (o : List Int), t + k = n → o.length = n → (∀ j : Nat, j < n → gI o (j : Int) = (List.range t).foldl (fun o (i : Nat) => bif F_has (gI ap (i : Int)) (j : Int) then orI o (powI (i : Int)) else o) 0) →
      (F_inverse_L1 ap (k + 1) (t : Int) o).2.length = n ∧ ∀ j : Nat, j < n → gI (F_inverse_L1 ap (k + 1) (t : Int) o).2 (j : Int) = (List.range n).foldl (fun o (i : Nat) => bif F_has (gI ap (i : Int)) (j : Int) then orI o (powI (i : Int)) else o) 0 := by
    intro k
    induction k with
    | zero =>
      intro t o ht ho hj
      show (F_inverse_L1b ap _ _ o).2.length = n ∧ ∀ j : Nat, j < n → gI (F_inverse_L1b ap _ _ o).2 (j : Int) = _
      unfold F_inverse_L1b
      rw [decide_eq_false (by omega), cond_false]
      exact ⟨ho, fun j hjn => by rw [hj j hjn, show t = n by omega]⟩
    | succ k ih =>
      intro t o ht ho hj
      show (F_inverse_L1b ap _ _ o).2.length = n ∧ ∀ j : Nat, j < n → gI (F_inverse_L1b ap _ _ o).2 (j : Int) = _
      unfold F_inverse_L1b
      rw [decide_eq_true (by omega), cond_true, show (t : Int) + 1 = ((t + 1 : Nat) : Int) by omega]
      obtain ⟨q1, q2⟩ := row t o (by omega) ho
      refine ih (t + 1) _ (by omega) q1 fun j hjn => ?_
      rw [q2 j hjn, hj j hjn, List.range_succ, List.foldl_append]; rfl
  unfold F_inverse
  rw [show Int.toNat ((ap.length : Int) - 0) = n by omega, Int.toNat_natCast]
  obtain ⟨o1, o2⟩ := outer n 0 (List.replicate ap.length 0) (by omega) (by simp [hl]) (fun j hj => by rw [gI_replicate (by omega)]; rfl)
  have o1' : (F_inverse_L1 ap (n + 1) 0 (List.replicate ap.length 0)).2.length = n := o1
  apply ext_gi (by omega)
  intro j hj
  have a1 := o2 j (by omega)
  have a2 := r2 j (by omega)
  rw [hl] at a2
  unfold gI at a1 a2
  rw [Int.toNat_natCast] at a1 a2
  exact a1.trans a2.symm
def F_s_CloseFrame_L1b (f1 : List Int) (rec : Int → (List Int) → Int × (List Int)) (x8 : Int) (a6 : List Int) : Int × (List Int) :=
  bif (decide (x8 < ((f1).length : Int))) then (rec (x8 + 1) (sI a6 x8 (orI (gI a6 x8) (gI (F_l01Inverse f1) x8)))) else (x8, a6)
def F_s_CloseFrame_L1 (f1 : List Int) : Nat → Int → (List Int) → Int × (List Int)
  | 0, x8, a6 => (x8, a6)
  | r + 1, x8, a6 => F_s_CloseFrame_L1b f1 (F_s_CloseFrame_L1 f1 r) x8 a6
def F_s_CloseFrame_L4b (f1 : List Int) (x10L3 : Int) (rec : Bool → Int → (List Int) → Bool × Int × (List Int)) (more9L4 : Bool) (y11L4 : Int) (a6L4 : List Int) : Bool × Int × (List Int) :=
  bif (decide (y11L4 < ((f1).length : Int))) then (rec (((F_l01Bit (gI a6L4 x10L3) y11L4) && (!decide ((anI (gI a6L4 x10L3) (gI a6L4 y11L4)) = 0))) || more9L4) (y11L4 + 1) (bif ((F_l01Bit (gI a6L4 x10L3) y11L4) && (!decide ((anI (gI a6L4 x10L3) (gI a6L4 y11L4)) = 0))) then sI a6L4 y11L4 (orI (gI a6L4 y11L4) (gI a6L4 x10L3)) else a6L4)) else (more9L4, y11L4, a6L4)
def F_s_CloseFrame_L4 (f1 : List Int) (x10L3 : Int) : Nat → Bool → Int → (List Int) → Bool × Int × (List Int)
  | 0, more9L4, y11L4, a6L4 => (more9L4, y11L4, a6L4)
  | r + 1, more9L4, y11L4, a6L4 => F_s_CloseFrame_L4b f1 x10L3 (F_s_CloseFrame_L4 f1 x10L3 r) more9L4 y11L4 a6L4
def F_s_CloseFrame_L3b (f1 : List Int) (rec : Bool → Int → (List Int) → Bool × Int × (List Int)) (more9L3 : Bool) (x10L3 : Int) (a6L3 : List Int) : Bool × Int × (List Int) :=
  bif (decide (x10L3 < ((f1).length : Int))) then (rec ((F_s_CloseFrame_L4 f1 x10L3 (Int.toNat (((f1).length : Int) - 0) + 1) more9L3 0 a6L3).1) (x10L3 + 1) ((F_s_CloseFrame_L4 f1 x10L3 (Int.toNat (((f1).length : Int) - 0) + 1) more9L3 0 a6L3).2.2)) else (more9L3, x10L3, a6L3)
def F_s_CloseFrame_L3 (f1 : List Int) : Nat → Bool → Int → (List Int) → Bool × Int × (List Int)
  | 0, more9L3, x10L3, a6L3 => (more9L3, x10L3, a6L3)
  | r + 1, more9L3, x10L3, a6L3 => F_s_CloseFrame_L3b f1 (F_s_CloseFrame_L3 f1 r) more9L3 x10L3 a6L3
def F_s_CloseFrame_L2b (f1 : List Int) (rec : Bool → (List Int) → Bool × (List Int)) (more9L2 : Bool) (a6L2 : List Int) : Bool × (List Int) :=
  bif more9L2 then (rec ((F_s_CloseFrame_L3 f1 (Int.toNat (((f1).length : Int) - 0) + 1) false 0 a6L2).1) ((F_s_CloseFrame_L3 f1 (Int.toNat (((f1).length : Int) - 0) + 1) false 0 a6L2).2.2)) else (false, a6L2)
def F_s_CloseFrame_L2 (f1 : List Int) : Nat → Bool → (List Int) → Bool × (List Int)
  | 0, more9L2, a6L2 => (more9L2, a6L2)
  | r + 1, more9L2, a6L2 => F_s_CloseFrame_L2b f1 (F_s_CloseFrame_L2 f1 r) more9L2 a6L2
def F_s_CloseFrame (f0 : Int) (f1 : List Int) (flag : Int) : (Int × List Int) × (Int) :=
  bif (!(F_l05Is f0 f1)) then ((0, []), 1) else (bif (decide (flag = 0)) then ((((F_l01Reflexive f1).length : Int), (F_l01Reflexive f1)), 0) else (bif (decide (flag = 2)) then ((((F_l01Closure f1).length : Int), (F_l01Closure f1)), 0) else (bif (decide (flag = 3)) then (((((F_s_CloseFrame_L1 f1 (Int.toNat (((f1).length : Int) - 0) + 1) 0 f1).2).length : Int), ((F_s_CloseFrame_L1 f1 (Int.toNat (((f1).length : Int) - 0) + 1) 0 f1).2)), 0) else (bif (decide (flag = 4)) then (((((F_s_CloseFrame_L2 f1 (2 * (ecap f0 - sumN f1) + (bif true then 1 else 0) + 1) true f1).2).length : Int), ((F_s_CloseFrame_L2 f1 (2 * (ecap f0 - sumN f1) + (bif true then 1 else 0) + 1) true f1).2)), 0) else ((0, []), 2)))))
theorem cf_s_CloseFrame (args : Array Value) (w : World) : (callFunc 77 args).run Try.prog w = .ok (.enter 77 args) w := by kernel_rfl
set_option maxRecDepth 100000 in
theorem c_s_CloseFrame (f0 : Int) (f1A : Option Addr) (f1N f1C : Nat) (f1 : List Int) (flag : Int) (w : World) (f1R : RdS w 1 f1A f1N f1C f1) :
    Calls Try.prog 77 #[.agg #[.int .i64 f0, .slice f1A f1N f1C], .int .i64 flag] w (Ret fun v w' => ∃ b1 : Option Addr, ∃ c1 : Nat, v = .tuple #[.agg #[.int .i64 (((F_s_CloseFrame f0 f1 flag).1).1), .slice b1 (((F_s_CloseFrame f0 f1 flag).1).2).length c1], .int .i64 ((F_s_CloseFrame f0 f1 flag).2)] ∧ OwnS w' w.heap.size 2 1 b1 (((F_s_CloseFrame f0 f1 flag).1).2).length c1 (((F_s_CloseFrame f0 f1 flag).1).2) ∧ Ext w w') := by
  obtain rfl : f1N = f1.length := f1R.len1.symm
  have f1Le := f1R.le
  have hS := St.nil w
  have hS1 := St.rd0 hS rfl f1R; clear hS
  refine enter (args := [.agg #[.int .i64 f0, .slice f1A f1.length f1C], .int .i64 flag]) Try.func77 rfl rfl ?_
  rw [Try.ntmps77]; intro a hE
  have hE := hE.sub (L' := [(0, .agg #[.int .i64 f0, .slice f1A f1.length f1C]), (1, .int .i64 flag)]) ⟨rfl, rfl, trivial⟩
  refine c_seq ?_
  refine c_reg ?_
  refine l_step hE rfl (l_box (v := .agg #[.int .i64 f0, .slice f1A f1.length f1C]) (cs := #[.int .i64 f0, .slice f1A f1.length f1C]) hS1 hE rfl rfl rfl ?_)
  intro b2 w3 hS6 he7 a4 hE5; clear hS1 hE
  refine l_step hE5 rfl (l_alloc (z := .agg #[.int .i64 0, .slice none 0 0]) (cs := #[.int .i64 0, .slice none 0 0]) hS6 hE5 (fun _ => by kernel_rfl) rfl rfl ?_)
  intro b8 w9 hS12 he13 a10 hE11; clear hS6 hE5
  refine q_step (v := .int .i64 0) hE11 (y_assign rfl) rfl rfl rfl ?_; intro a14 hE15; clear hE11
  refine c_nil ?_
  have hE16 := hE15.sub (L' := [(1, .int .i64 flag), (2, .pointer (some ⟨b2, 0, none⟩)), (4, .pointer (some ⟨b8, 0, none⟩))]) ⟨rfl, rfl, rfl, trivial⟩; clear hE15
  refine p_tn ?_
  refine c_seq ?_
  refine c_seq ?_
  refine c_reg ?_
  refine q_step (v := .agg #[.int .i64 f0, .slice f1A f1.length f1C]) hE16 (y_loadS Try.underlying30 rfl (by kernel_rfl) rfl (St.row (i := 1) hS12 rfl)) rfl rfl rfl ?_; intro a17 hE18; clear hE16
  refine l_step hE18 rfl (l_call (f := 94) (argv := [.agg #[.int .i64 f0, .slice f1A f1.length f1C]]) hE18 (fun _ => cf_l05Is _ _) rfl rfl (c_l05Is f0 f1A f1.length f1C f1 w9 (St.rdR (i := 2) hS12 rfl)) ?_)
  rintro _ w20 ⟨rfl, he24⟩ a21 hE22; clear hE18
  have hS23 := St.go hS12 he24; clear hS12
  refine q_step (v := .bool (!(F_l05Is f0 f1))) hE22 (y_not rfl) rfl rfl rfl ?_; intro a25 hE26; clear hE22
  refine c_nil ?_
  have hE27 := hE26.sub (L' := [(1, .int .i64 flag), (2, .pointer (some ⟨b2, 0, none⟩)), (4, .pointer (some ⟨b8, 0, none⟩)), (14, .bool (!(F_l05Is f0 f1)))]) ⟨rfl, rfl, rfl, rfl, trivial⟩; clear hE26
  refine p_tn ?_
  refine c_cond hE27 rfl (fun ht28 => ?_) (fun ht28 => ?_)
  ·
   have ht29 := bn_t ht28
   have hE30 := hE27; rw [ht28] at hE30; clear hE27
   refine c_seq ?_
   refine c_reg ?_
   refine q_step (v := .agg #[.int .i64 0, .slice none 0 0]) hE30 (y_build (vs := #[]) (fun a n hE => by simp) (fun _ => by kernel_rfl)) rfl rfl rfl ?_; intro a31 hE32; clear hE30
   refine l_step hE32 rfl (l_storeS (k := 0) (cs' := #[.int .i64 0, .slice none 0 0]) hS23 hE32 (by kernel_rfl) rfl rfl (by kernel_rfl) rfl rfl ?_)
   intro w34 hS37 a35 hE36; clear hS23 hE32
   refine q_step (v := .int .i64 1) hE36 (y_assign rfl) rfl rfl rfl ?_; intro a39 hE40; clear hE36
   refine c_nil ?_
   have hE41 := hE40.sub (L' := [(4, .pointer (some ⟨b8, 0, none⟩)), (5, .int .i64 1)]) ⟨rfl, rfl, trivial⟩; clear hE40
   refine p_tn ?_
   refine wp_ret ?_
   refine p_tr ?_
   have hF : F_s_CloseFrame f0 f1 flag = ((0, []), 1) := by unfold F_s_CloseFrame; rw [ht28]; first | done | rfl
   refine c_retC2 hE41 rfl rfl rfl Try.underlying30 rfl (by kernel_rfl) (St.row (i := 0) hS37 rfl _ (Ext.refl _)) ?_
   exact ⟨none, 0, (by rw [hF]; first | done | (dsimp only; done) | rfl), (by rw [hF]; (try dsimp only); exact OwnS.nilS _ _ _ _), hS37.ext⟩
  ·
   have ht42 := bn_f ht28
   have hp43 := l05Is_t ht42
   have hE44 := hE27; rw [ht28] at hE44; clear hE27
   refine wp_skip ?_
   refine p_tn ?_
   refine c_seq ?_
   refine c_reg ?_
   refine q_step (v := .pointer (some ⟨b2, 1, none⟩)) hE44 (y_field rfl (fun _ => by kernel_rfl)) rfl rfl rfl ?_; intro a45 hE46; clear hE44
   refine q_step (v := .slice f1A f1.length f1C) hE46 (y_load (fun _ => by kernel_rfl) rfl (St.cell (i := 1) hS23 rfl rfl)) rfl rfl rfl ?_; intro a47 hE48; clear hE46
   refine l_step hE48 rfl (l_call (f := 140) (argv := [.slice f1A f1.length f1C]) hE48 (fun _ => cf_l01Own _ _) rfl rfl (d_l01Own f1A f1.length f1C f1 w20 (St.rdR (i := 2) hS23 rfl) (by omega)) ?_)
   rintro _ w50 ⟨b55, c56, rfl, ho57, he54⟩ a51 hE52; clear hE48
   have hS53 := St.own hS23 he54 ho57; clear hS23
   refine q_step (v := .slice b55 ((f1).length) c56) hE52 (y_assign rfl) rfl rfl rfl ?_; intro a58 hE59; clear hE52
   refine c_nil ?_
   have hE60 := hE59.sub (L' := [(1, .int .i64 flag), (4, .pointer (some ⟨b8, 0, none⟩)), (6, .slice b55 ((f1).length) c56)]) ⟨rfl, rfl, rfl, trivial⟩; clear hE59
   refine p_tn ?_
   refine c_seq ?_
   refine c_seq ?_
   refine c_reg ?_
   refine q_step (v := .int .i64 flag) hE60 (y_move rfl) rfl rfl rfl ?_; intro a61 hE62; clear hE60
   refine c_nil ?_
   have hE63 := hE62.sub (L' := [(4, .pointer (some ⟨b8, 0, none⟩)), (6, .slice b55 ((f1).length) c56), (19, .int .i64 flag)]) ⟨rfl, rfl, rfl, trivial⟩; clear hE62
   refine p_tn ?_
   refine wp_block ?_
   refine c_seq ?_
   refine c_reg ?_
   refine q_step (v := .bool (decide (flag = 0))) hE63 (y_eql rfl rfl) rfl rfl rfl ?_; intro a64 hE65; clear hE63
   refine q_step (v := .bool (decide (flag = 0))) hE65 (y_assign rfl) rfl rfl rfl ?_; intro a66 hE67; clear hE65
   refine c_nil ?_
   have hE68 := hE67.sub (L' := [(4, .pointer (some ⟨b8, 0, none⟩)), (6, .slice b55 ((f1).length) c56), (19, .int .i64 flag), (21, .bool (decide (flag = 0)))]) ⟨rfl, rfl, rfl, rfl, trivial⟩; clear hE67
   refine p_tn ?_
   refine c_cond hE68 rfl (fun ht69 => ?_) (fun ht69 => ?_)
   ·
    have hp70 := of_decide_eq_true ht69
    have hE71 := hE68; rw [ht69] at hE71; clear hE68
    refine c_reg ?_
    refine q_step (v := .slice b55 ((f1).length) c56) hE71 (y_move rfl) rfl rfl rfl ?_; intro a72 hE73; clear hE71
    refine l_step hE73 rfl (l_call (f := 141) (argv := [.slice b55 ((f1).length) c56]) hE73 (fun _ => cf_l01Reflexive _ _) rfl rfl (c_l01Reflexive b55 ((f1).length) c56 f1 w50 (St.rdO (i := 0) hS53 rfl) (by omega)) ?_)
    rintro _ w75 ⟨b80, c81, rfl, ho82, he79⟩ a76 hE77; clear hE73
    have hf83 := l01Reflexive_len f1
    have hS78 := St.own hS53 he79 ho82; clear hS53
    refine q_step (v := .slice b80 ((F_l01Reflexive f1).length) c81) hE77 (y_assign rfl) rfl rfl rfl ?_; intro a84 hE85; clear hE77
    refine c_nil ?_
    have hE86 := hE85.sub (L' := [(4, .pointer (some ⟨b8, 0, none⟩)), (6, .slice b80 ((F_l01Reflexive f1).length) c81)]) ⟨rfl, rfl, trivial⟩; clear hE85
    refine p_bn ?_
    refine p_tn ?_
    refine c_seq ?_
    refine c_reg ?_
    refine q_step (v := .slice b80 ((F_l01Reflexive f1).length) c81) hE86 (y_move rfl) rfl rfl rfl ?_; intro a87 hE88; clear hE86
    refine l_step hE88 rfl (l_call (f := 104) (argv := [.slice b80 ((F_l01Reflexive f1).length) c81]) hE88 (fun _ => cf_l05Make _ _) rfl rfl (d_l05Make b80 ((F_l01Reflexive f1).length) c81 (F_l01Reflexive f1) w75 (St.rdO (i := 0) hS78 rfl) (by omega)) ?_)
    rintro _ w90 ⟨b95, c96, rfl, ho97, he94⟩ a91 hE92; clear hE88
    have hS93 := St.own hS78 he94 ho97; clear hS78
    refine l_step hE92 rfl (l_storeS (k := 3) (cs' := #[.int .i64 ((F_l01Reflexive f1).length : Int), .slice b95 ((F_l01Reflexive f1).length) c96]) hS93 hE92 (by kernel_rfl) rfl rfl (by kernel_rfl) rfl rfl ?_)
    intro w99 hS102 a100 hE101; clear hS93 hE92
    refine q_step (v := .int .i64 0) hE101 (y_assign rfl) rfl rfl rfl ?_; intro a104 hE105; clear hE101
    refine c_nil ?_
    have hE106 := hE105.sub (L' := [(4, .pointer (some ⟨b8, 0, none⟩)), (5, .int .i64 0)]) ⟨rfl, rfl, trivial⟩; clear hE105
    refine p_tn ?_
    refine wp_ret ?_
    have hF : F_s_CloseFrame f0 f1 flag = ((((F_l01Reflexive f1).length : Int), (F_l01Reflexive f1)), 0) := by unfold F_s_CloseFrame; rw [ht69, ht28]; first | done | rfl
    refine c_retC2 hE106 rfl rfl rfl Try.underlying30 rfl (by kernel_rfl) (St.row (i := 3) hS102 rfl _ (Ext.refl _)) ?_
    exact ⟨b95, c96, (by rw [hF]; first | done | (dsimp only; done) | rfl), (by rw [hF]; (try dsimp only); exact hS102.ok 0 _ rfl), hS102.ext⟩
   ·
    have hp107 := of_decide_eq_false ht69
    have hE108 := hE68; rw [ht69] at hE108; clear hE68
    refine c_seq ?_
    refine c_reg ?_
    refine q_step (v := .bool (decide (flag = 2))) hE108 (y_eql rfl rfl) rfl rfl rfl ?_; intro a109 hE110; clear hE108
    refine q_step (v := .bool (decide (flag = 2))) hE110 (y_assign rfl) rfl rfl rfl ?_; intro a111 hE112; clear hE110
    refine c_nil ?_
    have hE113 := hE112.sub (L' := [(4, .pointer (some ⟨b8, 0, none⟩)), (6, .slice b55 ((f1).length) c56), (19, .int .i64 flag), (25, .bool (decide (flag = 2)))]) ⟨rfl, rfl, rfl, rfl, trivial⟩; clear hE112
    refine p_tn ?_
    refine c_cond hE113 rfl (fun ht114 => ?_) (fun ht114 => ?_)
    ·
     have hp115 := of_decide_eq_true ht114
     have hE116 := hE113; rw [ht114] at hE116; clear hE113
     refine c_reg ?_
     refine q_step (v := .slice b55 ((f1).length) c56) hE116 (y_move rfl) rfl rfl rfl ?_; intro a117 hE118; clear hE116
     refine l_step hE118 rfl (l_call (f := 142) (argv := [.slice b55 ((f1).length) c56]) hE118 (fun _ => cf_l01Closure _ _) rfl rfl (c_l01Closure b55 ((f1).length) c56 f1 w50 (St.rdO (i := 0) hS53 rfl) (by omega)) ?_)
     rintro _ w120 ⟨b125, c126, rfl, ho127, he124⟩ a121 hE122; clear hE118
     have hf128 := l01Closure_len f1
     have hS123 := St.own hS53 he124 ho127; clear hS53
     refine q_step (v := .slice b125 ((F_l01Closure f1).length) c126) hE122 (y_assign rfl) rfl rfl rfl ?_; intro a129 hE130; clear hE122
     refine c_nil ?_
     have hE131 := hE130.sub (L' := [(4, .pointer (some ⟨b8, 0, none⟩)), (6, .slice b125 ((F_l01Closure f1).length) c126)]) ⟨rfl, rfl, trivial⟩; clear hE130
     refine p_bn ?_
     refine p_tn ?_
     refine c_seq ?_
     refine c_reg ?_
     refine q_step (v := .slice b125 ((F_l01Closure f1).length) c126) hE131 (y_move rfl) rfl rfl rfl ?_; intro a132 hE133; clear hE131
     refine l_step hE133 rfl (l_call (f := 104) (argv := [.slice b125 ((F_l01Closure f1).length) c126]) hE133 (fun _ => cf_l05Make _ _) rfl rfl (d_l05Make b125 ((F_l01Closure f1).length) c126 (F_l01Closure f1) w120 (St.rdO (i := 0) hS123 rfl) (by omega)) ?_)
     rintro _ w135 ⟨b140, c141, rfl, ho142, he139⟩ a136 hE137; clear hE133
     have hS138 := St.own hS123 he139 ho142; clear hS123
     refine l_step hE137 rfl (l_storeS (k := 3) (cs' := #[.int .i64 ((F_l01Closure f1).length : Int), .slice b140 ((F_l01Closure f1).length) c141]) hS138 hE137 (by kernel_rfl) rfl rfl (by kernel_rfl) rfl rfl ?_)
     intro w144 hS147 a145 hE146; clear hS138 hE137
     refine q_step (v := .int .i64 0) hE146 (y_assign rfl) rfl rfl rfl ?_; intro a149 hE150; clear hE146
     refine c_nil ?_
     have hE151 := hE150.sub (L' := [(4, .pointer (some ⟨b8, 0, none⟩)), (5, .int .i64 0)]) ⟨rfl, rfl, trivial⟩; clear hE150
     refine p_tn ?_
     refine wp_ret ?_
     have hF : F_s_CloseFrame f0 f1 flag = ((((F_l01Closure f1).length : Int), (F_l01Closure f1)), 0) := by unfold F_s_CloseFrame; rw [ht114, ht69, ht28]; first | done | rfl
     refine c_retC2 hE151 rfl rfl rfl Try.underlying30 rfl (by kernel_rfl) (St.row (i := 3) hS147 rfl _ (Ext.refl _)) ?_
     exact ⟨b140, c141, (by rw [hF]; first | done | (dsimp only; done) | rfl), (by rw [hF]; (try dsimp only); exact hS147.ok 0 _ rfl), hS147.ext⟩
    ·
     have hp152 := of_decide_eq_false ht114
     have hE153 := hE113; rw [ht114] at hE153; clear hE113
     refine c_seq ?_
     refine c_reg ?_
     refine q_step (v := .bool (decide (flag = 3))) hE153 (y_eql rfl rfl) rfl rfl rfl ?_; intro a154 hE155; clear hE153
     refine q_step (v := .bool (decide (flag = 3))) hE155 (y_assign rfl) rfl rfl rfl ?_; intro a156 hE157; clear hE155
     refine c_nil ?_
     have hE158 := hE157.sub (L' := [(4, .pointer (some ⟨b8, 0, none⟩)), (6, .slice b55 ((f1).length) c56), (19, .int .i64 flag), (29, .bool (decide (flag = 3)))]) ⟨rfl, rfl, rfl, rfl, trivial⟩; clear hE157
     refine p_tn ?_
     refine c_cond hE158 rfl (fun ht159 => ?_) (fun ht159 => ?_)
     ·
      have hp160 := of_decide_eq_true ht159
      have hE161 := hE158; rw [ht159] at hE161; clear hE158
      refine c_seq ?_
      refine c_reg ?_
      refine q_step (v := .slice b55 ((f1).length) c56) hE161 (y_move rfl) rfl rfl rfl ?_; intro a162 hE163; clear hE161
      refine l_step hE163 rfl (l_call (f := 143) (argv := [.slice b55 ((f1).length) c56]) hE163 (fun _ => cf_l01Inverse _ _) rfl rfl (c_l01Inverse b55 ((f1).length) c56 f1 w50 (St.rdO (i := 0) hS53 rfl) (by omega)) ?_)
      rintro _ w165 ⟨b170, c171, rfl, ho172, he169⟩ a166 hE167; clear hE163
      have hf173 := l01Inverse_len f1
      have hS168 := St.own hS53 he169 ho172; clear hS53
      refine q_step (v := .slice b170 ((F_l01Inverse f1).length) c171) hE167 (y_assign rfl) rfl rfl rfl ?_; intro a174 hE175; clear hE167
      refine c_nil ?_
      have hE176 := hE175.sub (L' := [(4, .pointer (some ⟨b8, 0, none⟩)), (6, .slice b55 ((f1).length) c56), (7, .slice b170 ((F_l01Inverse f1).length) c171)]) ⟨rfl, rfl, rfl, trivial⟩; clear hE175
      refine p_tn ?_
      refine c_seq ?_
      refine c_reg ?_
      refine q_step (v := .int .i64 0) hE176 (y_assign rfl) rfl rfl rfl ?_; intro a177 hE178; clear hE176
      refine c_nil ?_
      have hE179 := hE178.sub (L' := [(4, .pointer (some ⟨b8, 0, none⟩)), (6, .slice b55 ((f1).length) c56), (7, .slice b170 ((F_l01Inverse f1).length) c171), (8, .int .i64 0)]) ⟨rfl, rfl, rfl, rfl, trivial⟩; clear hE178
      refine p_tn ?_
      refine c_cut1 (fun a' w' => (0 ≤ ((F_s_CloseFrame_L1 f1 (Int.toNat (((f1).length : Int) - 0) + 1) 0 f1).1)) ∧ ((((F_s_CloseFrame_L1 f1 (Int.toNat (((f1).length : Int) - 0) + 1) 0 f1).2).length : Int) = f0) ∧ (((F_s_CloseFrame_L1 f1 (Int.toNat (((f1).length : Int) - 0) + 1) 0 f1).1) ≤ ((f1).length : Int)) ∧ E a' 98 [(4, .pointer (some ⟨b8, 0, none⟩)), (6, .slice b55 ((f1).length) c56), (7, .slice b170 ((F_l01Inverse f1).length) c171), (8, .int .i64 ((F_s_CloseFrame_L1 f1 (Int.toNat (((f1).length : Int) - 0) + 1) 0 f1).1))] ∧ St w w' [.own 2 1 b170 ((F_l01Inverse f1).length) c171 (F_l01Inverse f1), .own 2 1 b55 ((f1).length) c56 ((F_s_CloseFrame_L1 f1 (Int.toNat (((f1).length : Int) - 0) + 1) 0 f1).2), .blk b8 #[.int .i64 0, .slice none 0 0] 30, .blk b2 #[.int .i64 f0, .slice f1A f1.length f1C] 30, .rd 1 f1A f1.length f1C f1]) ?_ ?_
      ·
       refine wp_block ?_
       refine c_loop (fun r a' w' => ∃ x8 : Int, ∃ a6 : List Int, F_s_CloseFrame_L1 f1 r x8 a6 = F_s_CloseFrame_L1 f1 (Int.toNat (((f1).length : Int) - 0) + 1) 0 f1 ∧ Int.toNat (((f1).length : Int) - x8) < r ∧ (0 ≤ x8) ∧ ((a6.length : Int) = f0) ∧ (x8 ≤ ((f1).length : Int)) ∧ E a' 98 [(4, .pointer (some ⟨b8, 0, none⟩)), (6, .slice b55 ((f1).length) c56), (7, .slice b170 ((F_l01Inverse f1).length) c171), (8, .int .i64 x8)] ∧ St w w' [.own 2 1 b170 ((F_l01Inverse f1).length) c171 (F_l01Inverse f1), .own 2 1 b55 ((f1).length) c56 a6, .blk b8 #[.int .i64 0, .slice none 0 0] 30, .blk b2 #[.int .i64 f0, .slice f1A f1.length f1C] 30, .rd 1 f1A f1.length f1C f1]) (r := (Int.toNat (((f1).length : Int) - 0) + 1)) ?_ ?_
       · exact ⟨0, f1, rfl, Nat.lt_succ_self _, (by first | omega | (simp only [sS_len, sL_len]; omega) | (simp only [List.length_replicate, sI_len]; omega) | (simp only [List.length_append, List.length_cons, List.length_nil, sI_len, cond_true, cond_false]; omega) | (simp only [List.length_append, List.length_cons, List.length_nil, sI_len, cond_eq_ite, apply_ite List.length]; split <;> simp only [List.length_append, List.length_cons, List.length_nil, sI_len] <;> omega) | grind), (by first | omega | (simp only [sS_len, sL_len]; omega) | (simp only [List.length_replicate, sI_len]; omega) | (simp only [List.length_append, List.length_cons, List.length_nil, sI_len, cond_true, cond_false]; omega) | (simp only [List.length_append, List.length_cons, List.length_nil, sI_len, cond_eq_ite, apply_ite List.length]; split <;> simp only [List.length_append, List.length_cons, List.length_nil, sI_len] <;> omega) | grind), (by first | omega | (simp only [sS_len, sL_len]; omega) | (simp only [List.length_replicate, sI_len]; omega) | (simp only [List.length_append, List.length_cons, List.length_nil, sI_len, cond_true, cond_false]; omega) | (simp only [List.length_append, List.length_cons, List.length_nil, sI_len, cond_eq_ite, apply_ite List.length]; split <;> simp only [List.length_append, List.length_cons, List.length_nil, sI_len] <;> omega) | grind), (hE179.sub (L' := [(4, .pointer (some ⟨b8, 0, none⟩)), (6, .slice b55 ((f1).length) c56), (7, .slice b170 ((F_l01Inverse f1).length) c171), (8, .int .i64 0)]) ⟨rfl, rfl, rfl, rfl, trivial⟩), (St.pick (Γ' := [.own 2 1 b170 ((F_l01Inverse f1).length) c171 (F_l01Inverse f1), .own 2 1 b55 ((f1).length) c56 f1, .blk b8 #[.int .i64 0, .slice none 0 0] 30, .blk b2 #[.int .i64 f0, .slice f1A f1.length f1C] 30, .rd 1 f1A f1.length f1C f1]) hS168 [0, 1, 2, 3, 4] (by decide) rfl)⟩
       ·
        clear hE179 hS168
        rintro r190 a181 w182 ⟨x8, a6, hT185, hr186, hi187, hi188, hi189, hE183, hS184⟩
        obtain ⟨r190, rfl⟩ : ∃ r', r190 = r' + 1 := ⟨r190 - 1, by omega⟩
        refine c_seq ?_
        refine c_seq ?_
        refine c_reg ?_
        refine q_step (v := .int .i64 x8) hE183 (y_move rfl) rfl rfl rfl ?_; intro a191 hE192; clear hE183
        refine q_step (v := .slice b55 ((f1).length) c56) hE192 (y_move rfl) rfl rfl rfl ?_; intro a193 hE194; clear hE192
        refine q_step (v := .int .i64 ((f1).length : Int)) hE194 (y_len (e := 2) (by kernel_rfl) rfl) rfl rfl rfl ?_; intro a195 hE196; clear hE194
        refine q_step (v := .bool (decide (x8 < ((f1).length : Int)))) hE196 (y_lss rfl rfl) rfl rfl rfl ?_; intro a197 hE198; clear hE196
        refine c_nil ?_
        have hE199 := hE198.sub (L' := [(4, .pointer (some ⟨b8, 0, none⟩)), (6, .slice b55 ((f1).length) c56), (7, .slice b170 ((F_l01Inverse f1).length) c171), (8, .int .i64 x8), (36, .bool (decide (x8 < ((f1).length : Int))))]) ⟨rfl, rfl, rfl, rfl, rfl, trivial⟩; clear hE198
        refine p_tn ?_
        refine c_cond hE199 rfl (fun ht200 => ?_) (fun ht200 => ?_)
        ·
         have hp201 := of_decide_eq_true ht200
         have hE202 := hE199; rw [ht200] at hE202; clear hE199
         refine wp_skip ?_
         refine p_tn ?_
         refine c_seq ?_
         refine wp_block ?_
         refine d_start (fun w w' => (fun w' => w'.cell? (adr b55 (Int.toNat x8)) = some (.int .i64 (gI a6 x8)) ∧ w'.cell? (adr b170 (Int.toNat x8)) = some (.int .i64 (gI (F_l01Inverse f1) x8)) ∧ True) w → (fun w' => w'.cell? (adr b55 (Int.toNat x8)) = some (.int .i64 (gI a6 x8)) ∧ w'.cell? (adr b170 (Int.toNat x8)) = some (.int .i64 (gI (F_l01Inverse f1) x8)) ∧ True) w') [5, 9] 13 (by kernel_rfl) rfl ?_
         intro w203 he204; have hS205 := St.go hS184 he204; clear hS184
         refine d_pure (fun _ h => h) (v := .slice b55 ((f1).length) c56) 0 rfl hE202 (y_move rfl) rfl (by kernel_rfl) (by kernel_rfl) (by kernel_rfl) rfl rfl (fun _ _ _ h => h) ?_; intro a206 hE207; clear hE202
         refine d_pure (fun _ h => h) (v := .int .i64 x8) 1 rfl hE207 (y_move rfl) rfl (by kernel_rfl) (by kernel_rfl) (by kernel_rfl) rfl rfl (fun _ _ _ h => h) ?_; intro a208 hE209; clear hE207
         refine d_pure (fun _ h => h) (v := .slice b55 ((f1).length) c56) 2 rfl hE209 (y_move rfl) rfl (by kernel_rfl) (by kernel_rfl) (by kernel_rfl) rfl rfl (fun _ _ _ h => h) ?_; intro a210 hE211; clear hE209
         refine d_pure (fun _ h => h) (v := .int .i64 x8) 3 rfl hE211 (y_move rfl) rfl (by kernel_rfl) (by kernel_rfl) (by kernel_rfl) rfl rfl (fun _ _ _ h => h) ?_; intro a212 hE213; clear hE211
         refine d_pure (fun _ h => h) (v := .pointer (some (adr b55 (Int.toNat x8)))) 4 rfl hE213 (y_idx (by kernel_rfl) (fun _ => by kernel_rfl) rfl rfl (RdS.isS (m := x8) (St.rdO (i := 1) hS205 rfl) (by omega) (by omega)) (by omega) (by omega) (Nat.mul_one _).symm) rfl (by kernel_rfl) (by kernel_rfl) (by kernel_rfl) rfl rfl (fun _ _ _ h => h) ?_; intro a214 hE215; clear hE213
         refine d_take (fun _ h => h) (fun _ _ h k => h k) (v := .int .i64 (gI a6 x8)) 5 rfl hE215 (S := fun w' => w'.cell? (adr b55 (Int.toNat x8)) = some (.int .i64 (gI a6 x8)) ∧ w'.cell? (adr b170 (Int.toNat x8)) = some (.int .i64 (gI (F_l01Inverse f1) x8)) ∧ True) ⟨(RdS.elt (St.rdO (i := 1) hS205 rfl) (by omega) (by omega) _ (Ext.refl _)), (RdS.elt (St.rdO (i := 0) hS205 rfl) (by omega) (by omega) _ (Ext.refl _)), trivial⟩ (y_load (fun _ => by kernel_rfl) rfl (fun _ h => h.1)) rfl rfl (by kernel_rfl) (by kernel_rfl) (by kernel_rfl) (by kernel_rfl) rfl rfl (fun _ _ _ h => h) ?_; intro a216 hE217; clear hE215
         refine d_pure (fun _ h => h) (v := .slice b170 ((F_l01Inverse f1).length) c171) 6 rfl hE217 (y_move rfl) rfl (by kernel_rfl) (by kernel_rfl) (by kernel_rfl) rfl rfl (fun _ _ _ h => h) ?_; intro a218 hE219; clear hE217
         refine d_pure (fun _ h => h) (v := .int .i64 x8) 7 rfl hE219 (y_move rfl) rfl (by kernel_rfl) (by kernel_rfl) (by kernel_rfl) rfl rfl (fun _ _ _ h => h) ?_; intro a220 hE221; clear hE219
         refine d_pure (fun _ h => h) (v := .pointer (some (adr b170 (Int.toNat x8)))) 8 rfl hE221 (y_idx (by kernel_rfl) (fun _ => by kernel_rfl) rfl rfl (RdS.isS (m := x8) (St.rdO (i := 0) hS205 rfl) (by omega) (by omega)) (by omega) (by omega) (Nat.mul_one _).symm) rfl (by kernel_rfl) (by kernel_rfl) (by kernel_rfl) rfl rfl (fun _ _ _ h => h) ?_; intro a222 hE223; clear hE221
         refine d_take (fun _ h => h) (fun _ _ h k => h k) (v := .int .i64 (gI (F_l01Inverse f1) x8)) 9 rfl hE223 (S := fun w' => w'.cell? (adr b55 (Int.toNat x8)) = some (.int .i64 (gI a6 x8)) ∧ w'.cell? (adr b170 (Int.toNat x8)) = some (.int .i64 (gI (F_l01Inverse f1) x8)) ∧ True) ⟨(RdS.elt (St.rdO (i := 1) hS205 rfl) (by omega) (by omega) _ (Ext.refl _)), (RdS.elt (St.rdO (i := 0) hS205 rfl) (by omega) (by omega) _ (Ext.refl _)), trivial⟩ (y_load (fun _ => by kernel_rfl) rfl (fun _ h => h.2.1)) rfl rfl (by kernel_rfl) (by kernel_rfl) (by kernel_rfl) (by kernel_rfl) rfl rfl (fun _ _ _ h => h) ?_; intro a224 hE225; clear hE223
         refine d_pure (fun _ h => h) (v := .int .i64 (orI (gI a6 x8) (gI (F_l01Inverse f1) x8))) 10 rfl hE225 (y_or rfl rfl) rfl (by kernel_rfl) (by kernel_rfl) (by kernel_rfl) rfl rfl (fun _ _ _ h => h) ?_; intro a226 hE227; clear hE225
         refine d_pure (fun _ h => h) (v := .pointer (some (adr b55 (Int.toNat x8)))) 11 rfl hE227 (y_idx (by kernel_rfl) (fun _ => by kernel_rfl) rfl rfl (RdS.isS (m := x8) (St.rdO (i := 1) hS205 rfl) (by omega) (by omega)) (by omega) (by omega) (Nat.mul_one _).symm) rfl (by kernel_rfl) (by kernel_rfl) (by kernel_rfl) rfl rfl (fun _ _ _ h => h) ?_; intro a228 hE229; clear hE227
         refine d_only 12 (by kernel_rfl) rfl hE229 rfl (l_store (k := 1) hS205 hE229 (fun _ => by kernel_rfl) rfl rfl rfl (by omega) (by omega) ?_)
         intro w231 hS234 a232 hE233; clear hS205 hE229
         refine ⟨fun h => Bool.noConfusion (h.symm.trans (show exm _ _ _ = true by kernel_rfl)), ?_⟩
         refine d_done (by kernel_rfl) ?_
         have hE236 := hE233.sub (L' := [(4, .pointer (some ⟨b8, 0, none⟩)), (6, .slice b55 ((f1).length) c56), (7, .slice b170 ((F_l01Inverse f1).length) c171), (8, .int .i64 x8)]) ⟨rfl, rfl, rfl, rfl, trivial⟩; clear hE233
         refine p_bn ?_
         refine p_tn ?_
         refine c_reg ?_
         refine q_step (v := .int .i64 x8) hE236 (y_move rfl) rfl rfl rfl ?_; intro a237 hE238; clear hE236
         refine q_step (v := .int .i64 (x8 + 1)) hE238 (y_add rfl rfl ⟨(by omega), (by omega)⟩) rfl rfl rfl ?_; intro a239 hE240; clear hE238
         refine q_step (v := .int .i64 (x8 + 1)) hE240 (y_assign rfl) rfl rfl rfl ?_; intro a241 hE242; clear hE240
         refine c_nil ?_
         have hE243 := hE242.sub (L' := [(4, .pointer (some ⟨b8, 0, none⟩)), (6, .slice b55 ((f1).length) c56), (7, .slice b170 ((F_l01Inverse f1).length) c171), (8, .int .i64 (x8 + 1))]) ⟨rfl, rfl, rfl, rfl, trivial⟩; clear hE242
         refine p_tn ⟨r190, Nat.lt_succ_self _, x8 + 1, sI a6 x8 (orI (gI a6 x8) (gI (F_l01Inverse f1) x8)), (hT185.symm.trans (show F_s_CloseFrame_L1b f1 (F_s_CloseFrame_L1 f1 r190) x8 a6 = F_s_CloseFrame_L1 f1 r190 (x8 + 1) (sI a6 x8 (orI (gI a6 x8) (gI (F_l01Inverse f1) x8))) by unfold F_s_CloseFrame_L1b; rw [ht200]; first | done | rfl)).symm, (by omega), (by first | omega | (simp only [sS_len, sL_len]; omega) | (simp only [List.length_replicate, sI_len]; omega) | (simp only [List.length_append, List.length_cons, List.length_nil, sI_len, cond_true, cond_false]; omega) | (simp only [List.length_append, List.length_cons, List.length_nil, sI_len, cond_eq_ite, apply_ite List.length]; split <;> simp only [List.length_append, List.length_cons, List.length_nil, sI_len] <;> omega) | grind), (by first | omega | (simp only [sS_len, sL_len]; omega) | (simp only [List.length_replicate, sI_len]; omega) | (simp only [List.length_append, List.length_cons, List.length_nil, sI_len, cond_true, cond_false]; omega) | (simp only [List.length_append, List.length_cons, List.length_nil, sI_len, cond_eq_ite, apply_ite List.length]; split <;> simp only [List.length_append, List.length_cons, List.length_nil, sI_len] <;> omega) | grind), (by first | omega | (simp only [sS_len, sL_len]; omega) | (simp only [List.length_replicate, sI_len]; omega) | (simp only [List.length_append, List.length_cons, List.length_nil, sI_len, cond_true, cond_false]; omega) | (simp only [List.length_append, List.length_cons, List.length_nil, sI_len, cond_eq_ite, apply_ite List.length]; split <;> simp only [List.length_append, List.length_cons, List.length_nil, sI_len] <;> omega) | grind), (hE243.sub (L' := [(4, .pointer (some ⟨b8, 0, none⟩)), (6, .slice b55 ((f1).length) c56), (7, .slice b170 ((F_l01Inverse f1).length) c171), (8, .int .i64 (x8 + 1))]) ⟨rfl, rfl, rfl, rfl, trivial⟩), (St.pick (Γ' := [.own 2 1 b170 ((F_l01Inverse f1).length) c171 (F_l01Inverse f1), .own 2 1 b55 ((f1).length) c56 (sI a6 x8 (orI (gI a6 x8) (gI (F_l01Inverse f1) x8))), .blk b8 #[.int .i64 0, .slice none 0 0] 30, .blk b2 #[.int .i64 f0, .slice f1A f1.length f1C] 30, .rd 1 f1A f1.length f1C f1]) hS234 [0, 1, 2, 3, 4] (by decide) rfl)⟩
        ·
         have hp244 := of_decide_eq_false ht200
         have hE245 := hE199; rw [ht200] at hE245; clear hE199
         refine wp_exit ?_
         refine p_te ?_
         have hX246 : F_s_CloseFrame_L1 f1 (Int.toNat (((f1).length : Int) - 0) + 1) 0 f1 = (x8, a6) := hT185.symm.trans (show F_s_CloseFrame_L1b f1 (F_s_CloseFrame_L1 f1 r190) x8 a6 = (x8, a6) by unfold F_s_CloseFrame_L1b; rw [ht200]; first | done | rfl)
         refine p_te (p_be (p_tn ?_))
         exact ⟨(by rw [hX246]; exact (show 0 ≤ x8 from (by first | omega | (simp only [sS_len, sL_len]; omega) | (simp only [List.length_replicate, sI_len]; omega) | (simp only [List.length_append, List.length_cons, List.length_nil, sI_len, cond_true, cond_false]; omega) | (simp only [List.length_append, List.length_cons, List.length_nil, sI_len, cond_eq_ite, apply_ite List.length]; split <;> simp only [List.length_append, List.length_cons, List.length_nil, sI_len] <;> omega) | grind))), (by rw [hX246]; exact (show (a6.length : Int) = f0 from (by first | omega | (simp only [sS_len, sL_len]; omega) | (simp only [List.length_replicate, sI_len]; omega) | (simp only [List.length_append, List.length_cons, List.length_nil, sI_len, cond_true, cond_false]; omega) | (simp only [List.length_append, List.length_cons, List.length_nil, sI_len, cond_eq_ite, apply_ite List.length]; split <;> simp only [List.length_append, List.length_cons, List.length_nil, sI_len] <;> omega) | grind))), (by rw [hX246]; exact (show x8 ≤ ((f1).length : Int) from (by first | omega | (simp only [sS_len, sL_len]; omega) | (simp only [List.length_replicate, sI_len]; omega) | (simp only [List.length_append, List.length_cons, List.length_nil, sI_len, cond_true, cond_false]; omega) | (simp only [List.length_append, List.length_cons, List.length_nil, sI_len, cond_eq_ite, apply_ite List.length]; split <;> simp only [List.length_append, List.length_cons, List.length_nil, sI_len] <;> omega) | grind))), (by rw [hX246]; exact (hE245.sub (L' := [(4, .pointer (some ⟨b8, 0, none⟩)), (6, .slice b55 ((f1).length) c56), (7, .slice b170 ((F_l01Inverse f1).length) c171), (8, .int .i64 x8)]) ⟨rfl, rfl, rfl, rfl, trivial⟩)), (by rw [hX246]; exact (St.pick (Γ' := [.own 2 1 b170 ((F_l01Inverse f1).length) c171 (F_l01Inverse f1), .own 2 1 b55 ((f1).length) c56 a6, .blk b8 #[.int .i64 0, .slice none 0 0] 30, .blk b2 #[.int .i64 f0, .slice f1A f1.length f1C] 30, .rd 1 f1A f1.length f1C f1]) hS184 [0, 1, 2, 3, 4] (by decide) rfl))⟩
      ·
       rintro a247 w248 ⟨hi252, hi253, hi254, hE249, hS250⟩; clear hE179 hS168
       refine p_bn ?_
       refine p_tn ?_
       refine c_seq ?_
       refine c_reg ?_
       refine q_step (v := .slice b55 ((f1).length) c56) hE249 (y_move rfl) rfl rfl rfl ?_; intro a255 hE256; clear hE249
       refine l_step hE256 rfl (l_call (f := 104) (argv := [.slice b55 ((f1).length) c56]) hE256 (fun _ => cf_l05Make _ _) rfl rfl (d_l05Make b55 ((f1).length) c56 ((F_s_CloseFrame_L1 f1 (Int.toNat (((f1).length : Int) - 0) + 1) 0 f1).2) w248 (St.rdO (i := 1) hS250 rfl) (by omega)) ?_)
       rintro _ w258 ⟨b263, c264, rfl, ho265, he262⟩ a259 hE260; clear hE256
       have hS261 := St.own hS250 he262 ho265; clear hS250
       refine l_step hE260 rfl (l_storeS (k := 3) (cs' := #[.int .i64 (((F_s_CloseFrame_L1 f1 (Int.toNat (((f1).length : Int) - 0) + 1) 0 f1).2).length : Int), .slice b263 (((F_s_CloseFrame_L1 f1 (Int.toNat (((f1).length : Int) - 0) + 1) 0 f1).2).length) c264]) hS261 hE260 (by kernel_rfl) rfl rfl (by kernel_rfl) rfl rfl ?_)
       intro w267 hS270 a268 hE269; clear hS261 hE260
       refine q_step (v := .int .i64 0) hE269 (y_assign rfl) rfl rfl rfl ?_; intro a272 hE273; clear hE269
       refine c_nil ?_
       have hE274 := hE273.sub (L' := [(4, .pointer (some ⟨b8, 0, none⟩)), (5, .int .i64 0)]) ⟨rfl, rfl, trivial⟩; clear hE273
       refine p_tn ?_
       refine wp_ret ?_
       have hF : F_s_CloseFrame f0 f1 flag = (((((F_s_CloseFrame_L1 f1 (Int.toNat (((f1).length : Int) - 0) + 1) 0 f1).2).length : Int), ((F_s_CloseFrame_L1 f1 (Int.toNat (((f1).length : Int) - 0) + 1) 0 f1).2)), 0) := by unfold F_s_CloseFrame; rw [ht159, ht114, ht69, ht28]; first | done | rfl
       refine c_retC2 hE274 rfl rfl rfl Try.underlying30 rfl (by kernel_rfl) (St.row (i := 3) hS270 rfl _ (Ext.refl _)) ?_
       exact ⟨b263, c264, (by rw [hF]; first | done | (dsimp only; done) | rfl), (by rw [hF]; (try dsimp only); exact hS270.ok 0 _ rfl), hS270.ext⟩
     ·
      have hp275 := of_decide_eq_false ht159
      have hE276 := hE158; rw [ht159] at hE276; clear hE158
      refine c_seq ?_
      refine c_reg ?_
      refine q_step (v := .bool (decide (flag = 4))) hE276 (y_eql rfl rfl) rfl rfl rfl ?_; intro a277 hE278; clear hE276
      refine q_step (v := .bool (decide (flag = 4))) hE278 (y_assign rfl) rfl rfl rfl ?_; intro a279 hE280; clear hE278
      refine c_nil ?_
      have hE281 := hE280.sub (L' := [(4, .pointer (some ⟨b8, 0, none⟩)), (6, .slice b55 ((f1).length) c56), (51, .bool (decide (flag = 4)))]) ⟨rfl, rfl, rfl, trivial⟩; clear hE280
      refine p_tn ?_
      refine c_cond hE281 rfl (fun ht282 => ?_) (fun ht282 => ?_)
      ·
       have hp283 := of_decide_eq_true ht282
       have hE284 := hE281; rw [ht282] at hE284; clear hE281
       refine c_seq ?_
       refine c_reg ?_
       refine q_step (v := .bool true) hE284 (y_assign rfl) rfl rfl rfl ?_; intro a285 hE286; clear hE284
       refine c_nil ?_
       have hE287 := hE286.sub (L' := [(4, .pointer (some ⟨b8, 0, none⟩)), (6, .slice b55 ((f1).length) c56), (9, .bool true)]) ⟨rfl, rfl, rfl, trivial⟩; clear hE286
       refine p_tn ?_
       refine c_cut1 (fun a' w' => ((((F_s_CloseFrame_L2 f1 (2 * (ecap f0 - sumN f1) + (bif true then 1 else 0) + 1) true f1).2).length : Int) = f0) ∧ (Rl f0.toNat ((F_s_CloseFrame_L2 f1 (2 * (ecap f0 - sumN f1) + (bif true then 1 else 0) + 1) true f1).2)) ∧ E a' 98 [(4, .pointer (some ⟨b8, 0, none⟩)), (6, .slice b55 ((f1).length) c56), (9, .bool ((F_s_CloseFrame_L2 f1 (2 * (ecap f0 - sumN f1) + (bif true then 1 else 0) + 1) true f1).1))] ∧ St w w' [.own 2 1 b55 ((f1).length) c56 ((F_s_CloseFrame_L2 f1 (2 * (ecap f0 - sumN f1) + (bif true then 1 else 0) + 1) true f1).2), .blk b8 #[.int .i64 0, .slice none 0 0] 30, .blk b2 #[.int .i64 f0, .slice f1A f1.length f1C] 30, .rd 1 f1A f1.length f1C f1]) ?_ ?_
       ·
        refine wp_block ?_
        refine c_loop (fun r a' w' => ∃ more9L2 : Bool, ∃ a6L2 : List Int, F_s_CloseFrame_L2 f1 r more9L2 a6L2 = F_s_CloseFrame_L2 f1 (2 * (ecap f0 - sumN f1) + (bif true then 1 else 0) + 1) true f1 ∧ 2 * (ecap f0 - sumN a6L2) + (bif more9L2 then 1 else 0) < r ∧ ((a6L2.length : Int) = f0) ∧ (Rl f0.toNat a6L2) ∧ E a' 98 [(4, .pointer (some ⟨b8, 0, none⟩)), (6, .slice b55 ((f1).length) c56), (9, .bool more9L2)] ∧ St w w' [.own 2 1 b55 ((f1).length) c56 a6L2, .blk b8 #[.int .i64 0, .slice none 0 0] 30, .blk b2 #[.int .i64 f0, .slice f1A f1.length f1C] 30, .rd 1 f1A f1.length f1C f1]) (r := (2 * (ecap f0 - sumN f1) + (bif true then 1 else 0) + 1)) ?_ ?_
        · exact ⟨true, f1, rfl, Nat.lt_succ_self _, (by first | omega | (simp only [sS_len, sL_len]; omega) | (simp only [List.length_replicate, sI_len]; omega) | (simp only [List.length_append, List.length_cons, List.length_nil, sI_len, cond_true, cond_false]; omega) | (simp only [List.length_append, List.length_cons, List.length_nil, sI_len, cond_eq_ite, apply_ite List.length]; split <;> simp only [List.length_append, List.length_cons, List.length_nil, sI_len] <;> omega) | grind), (rl_of (by omega) (by omega) (l05Is_m (by assumption))), (hE287.sub (L' := [(4, .pointer (some ⟨b8, 0, none⟩)), (6, .slice b55 ((f1).length) c56), (9, .bool true)]) ⟨rfl, rfl, rfl, trivial⟩), (St.pick (Γ' := [.own 2 1 b55 ((f1).length) c56 f1, .blk b8 #[.int .i64 0, .slice none 0 0] 30, .blk b2 #[.int .i64 f0, .slice f1A f1.length f1C] 30, .rd 1 f1A f1.length f1C f1]) hS53 [0, 1, 2, 3] (by decide) rfl)⟩
        ·
         clear hE287 hS53
         rintro r297 a289 w290 ⟨more9L2, a6L2, hT293, hr294, hi295, hi296, hE291, hS292⟩
         obtain ⟨r297, rfl⟩ : ∃ r', r297 = r' + 1 := ⟨r297 - 1, by omega⟩
         refine c_seq ?_
         refine c_seq ?_
         refine c_reg ?_
         refine q_step (v := .bool more9L2) hE291 (y_move rfl) rfl rfl rfl ?_; intro a298 hE299; clear hE291
         refine c_nil ?_
         have hE300 := hE299.sub (L' := [(4, .pointer (some ⟨b8, 0, none⟩)), (6, .slice b55 ((f1).length) c56), (9, .bool more9L2), (53, .bool more9L2)]) ⟨rfl, rfl, rfl, rfl, trivial⟩; clear hE299
         refine p_tn ?_
         refine c_cond hE300 rfl (fun ht301 => ?_) (fun ht301 => ?_)
         ·
          have hE302 := hE300; rw [ht301] at hE302; clear hE300
          refine wp_skip ?_
          refine p_tn ?_
          refine wp_block ?_
          refine c_seq ?_
          refine c_reg ?_
          refine q_step (v := .bool false) hE302 (y_assign rfl) rfl rfl rfl ?_; intro a303 hE304; clear hE302
          refine c_nil ?_
          have hE305 := hE304.sub (L' := [(4, .pointer (some ⟨b8, 0, none⟩)), (6, .slice b55 ((f1).length) c56), (9, .bool false)]) ⟨rfl, rfl, rfl, trivial⟩; clear hE304
          refine p_tn ?_
          refine c_seq ?_
          refine c_reg ?_
          refine q_step (v := .int .i64 0) hE305 (y_assign rfl) rfl rfl rfl ?_; intro a306 hE307; clear hE305
          refine c_nil ?_
          have hE308 := hE307.sub (L' := [(4, .pointer (some ⟨b8, 0, none⟩)), (6, .slice b55 ((f1).length) c56), (9, .bool false), (10, .int .i64 0)]) ⟨rfl, rfl, rfl, rfl, trivial⟩; clear hE307
          refine p_tn ?_
          refine c_cut1 (fun a' w' => (0 ≤ ((F_s_CloseFrame_L3 f1 (Int.toNat (((f1).length : Int) - 0) + 1) false 0 a6L2).2.1)) ∧ ((((F_s_CloseFrame_L3 f1 (Int.toNat (((f1).length : Int) - 0) + 1) false 0 a6L2).2.2).length : Int) = f0) ∧ (Rl f0.toNat ((F_s_CloseFrame_L3 f1 (Int.toNat (((f1).length : Int) - 0) + 1) false 0 a6L2).2.2)) ∧ (Gr a6L2 ((F_s_CloseFrame_L3 f1 (Int.toNat (((f1).length : Int) - 0) + 1) false 0 a6L2).2.2) ((F_s_CloseFrame_L3 f1 (Int.toNat (((f1).length : Int) - 0) + 1) false 0 a6L2).1)) ∧ (((F_s_CloseFrame_L3 f1 (Int.toNat (((f1).length : Int) - 0) + 1) false 0 a6L2).2.1) ≤ ((f1).length : Int)) ∧ E a' 98 [(4, .pointer (some ⟨b8, 0, none⟩)), (6, .slice b55 ((f1).length) c56), (9, .bool ((F_s_CloseFrame_L3 f1 (Int.toNat (((f1).length : Int) - 0) + 1) false 0 a6L2).1)), (10, .int .i64 ((F_s_CloseFrame_L3 f1 (Int.toNat (((f1).length : Int) - 0) + 1) false 0 a6L2).2.1))] ∧ St w w' [.own 2 1 b55 ((f1).length) c56 ((F_s_CloseFrame_L3 f1 (Int.toNat (((f1).length : Int) - 0) + 1) false 0 a6L2).2.2), .blk b8 #[.int .i64 0, .slice none 0 0] 30, .blk b2 #[.int .i64 f0, .slice f1A f1.length f1C] 30, .rd 1 f1A f1.length f1C f1]) ?_ ?_
          ·
           refine wp_block ?_
           refine c_loop (fun r a' w' => ∃ more9L3 : Bool, ∃ x10L3 : Int, ∃ a6L3 : List Int, F_s_CloseFrame_L3 f1 r more9L3 x10L3 a6L3 = F_s_CloseFrame_L3 f1 (Int.toNat (((f1).length : Int) - 0) + 1) false 0 a6L2 ∧ Int.toNat (((f1).length : Int) - x10L3) < r ∧ (0 ≤ x10L3) ∧ ((a6L3.length : Int) = f0) ∧ (Rl f0.toNat a6L3) ∧ (Gr a6L2 a6L3 more9L3) ∧ (x10L3 ≤ ((f1).length : Int)) ∧ E a' 98 [(4, .pointer (some ⟨b8, 0, none⟩)), (6, .slice b55 ((f1).length) c56), (9, .bool more9L3), (10, .int .i64 x10L3)] ∧ St w w' [.own 2 1 b55 ((f1).length) c56 a6L3, .blk b8 #[.int .i64 0, .slice none 0 0] 30, .blk b2 #[.int .i64 f0, .slice f1A f1.length f1C] 30, .rd 1 f1A f1.length f1C f1]) (r := (Int.toNat (((f1).length : Int) - 0) + 1)) ?_ ?_
           · exact ⟨false, 0, a6L2, rfl, Nat.lt_succ_self _, (by first | omega | (simp only [sS_len, sL_len]; omega) | (simp only [List.length_replicate, sI_len]; omega) | (simp only [List.length_append, List.length_cons, List.length_nil, sI_len, cond_true, cond_false]; omega) | (simp only [List.length_append, List.length_cons, List.length_nil, sI_len, cond_eq_ite, apply_ite List.length]; split <;> simp only [List.length_append, List.length_cons, List.length_nil, sI_len] <;> omega) | grind), (by first | omega | (simp only [sS_len, sL_len]; omega) | (simp only [List.length_replicate, sI_len]; omega) | (simp only [List.length_append, List.length_cons, List.length_nil, sI_len, cond_true, cond_false]; omega) | (simp only [List.length_append, List.length_cons, List.length_nil, sI_len, cond_eq_ite, apply_ite List.length]; split <;> simp only [List.length_append, List.length_cons, List.length_nil, sI_len] <;> omega) | grind), (by assumption), (Gr.refl _), (by first | omega | (simp only [sS_len, sL_len]; omega) | (simp only [List.length_replicate, sI_len]; omega) | (simp only [List.length_append, List.length_cons, List.length_nil, sI_len, cond_true, cond_false]; omega) | (simp only [List.length_append, List.length_cons, List.length_nil, sI_len, cond_eq_ite, apply_ite List.length]; split <;> simp only [List.length_append, List.length_cons, List.length_nil, sI_len] <;> omega) | grind), (hE308.sub (L' := [(4, .pointer (some ⟨b8, 0, none⟩)), (6, .slice b55 ((f1).length) c56), (9, .bool false), (10, .int .i64 0)]) ⟨rfl, rfl, rfl, rfl, trivial⟩), (St.pick (Γ' := [.own 2 1 b55 ((f1).length) c56 a6L2, .blk b8 #[.int .i64 0, .slice none 0 0] 30, .blk b2 #[.int .i64 f0, .slice f1A f1.length f1C] 30, .rd 1 f1A f1.length f1C f1]) hS292 [0, 1, 2, 3] (by decide) rfl)⟩
           ·
            clear hE308 hS292
            rintro r321 a310 w311 ⟨more9L3, x10L3, a6L3, hT314, hr315, hi316, hi317, hi318, hi319, hi320, hE312, hS313⟩
            obtain ⟨r321, rfl⟩ : ∃ r', r321 = r' + 1 := ⟨r321 - 1, by omega⟩
            refine c_seq ?_
            refine c_seq ?_
            refine c_reg ?_
            refine q_step (v := .int .i64 x10L3) hE312 (y_move rfl) rfl rfl rfl ?_; intro a322 hE323; clear hE312
            refine q_step (v := .slice b55 ((f1).length) c56) hE323 (y_move rfl) rfl rfl rfl ?_; intro a324 hE325; clear hE323
            refine q_step (v := .int .i64 ((f1).length : Int)) hE325 (y_len (e := 2) (by kernel_rfl) rfl) rfl rfl rfl ?_; intro a326 hE327; clear hE325
            refine q_step (v := .bool (decide (x10L3 < ((f1).length : Int)))) hE327 (y_lss rfl rfl) rfl rfl rfl ?_; intro a328 hE329; clear hE327
            refine c_nil ?_
            have hE330 := hE329.sub (L' := [(4, .pointer (some ⟨b8, 0, none⟩)), (6, .slice b55 ((f1).length) c56), (9, .bool more9L3), (10, .int .i64 x10L3), (57, .bool (decide (x10L3 < ((f1).length : Int))))]) ⟨rfl, rfl, rfl, rfl, rfl, trivial⟩; clear hE329
            refine p_tn ?_
            refine c_cond hE330 rfl (fun ht331 => ?_) (fun ht331 => ?_)
            ·
             have hp332 := of_decide_eq_true ht331
             have hE333 := hE330; rw [ht331] at hE333; clear hE330
             refine wp_skip ?_
             refine p_tn ?_
             refine c_seq ?_
             refine wp_block ?_
             refine c_seq ?_
             refine c_reg ?_
             refine q_step (v := .int .i64 0) hE333 (y_assign rfl) rfl rfl rfl ?_; intro a334 hE335; clear hE333
             refine c_nil ?_
             have hE336 := hE335.sub (L' := [(4, .pointer (some ⟨b8, 0, none⟩)), (6, .slice b55 ((f1).length) c56), (9, .bool more9L3), (10, .int .i64 x10L3), (11, .int .i64 0)]) ⟨rfl, rfl, rfl, rfl, rfl, trivial⟩; clear hE335
             refine p_tn ?_
             refine c_cut1 (fun a' w' => (0 ≤ ((F_s_CloseFrame_L4 f1 x10L3 (Int.toNat (((f1).length : Int) - 0) + 1) more9L3 0 a6L3).2.1)) ∧ ((((F_s_CloseFrame_L4 f1 x10L3 (Int.toNat (((f1).length : Int) - 0) + 1) more9L3 0 a6L3).2.2).length : Int) = f0) ∧ (Rl f0.toNat ((F_s_CloseFrame_L4 f1 x10L3 (Int.toNat (((f1).length : Int) - 0) + 1) more9L3 0 a6L3).2.2)) ∧ (Gr a6L2 ((F_s_CloseFrame_L4 f1 x10L3 (Int.toNat (((f1).length : Int) - 0) + 1) more9L3 0 a6L3).2.2) ((F_s_CloseFrame_L4 f1 x10L3 (Int.toNat (((f1).length : Int) - 0) + 1) more9L3 0 a6L3).1)) ∧ (((F_s_CloseFrame_L4 f1 x10L3 (Int.toNat (((f1).length : Int) - 0) + 1) more9L3 0 a6L3).2.1) ≤ ((f1).length : Int)) ∧ E a' 98 [(4, .pointer (some ⟨b8, 0, none⟩)), (6, .slice b55 ((f1).length) c56), (9, .bool ((F_s_CloseFrame_L4 f1 x10L3 (Int.toNat (((f1).length : Int) - 0) + 1) more9L3 0 a6L3).1)), (10, .int .i64 x10L3), (11, .int .i64 ((F_s_CloseFrame_L4 f1 x10L3 (Int.toNat (((f1).length : Int) - 0) + 1) more9L3 0 a6L3).2.1))] ∧ St w w' [.own 2 1 b55 ((f1).length) c56 ((F_s_CloseFrame_L4 f1 x10L3 (Int.toNat (((f1).length : Int) - 0) + 1) more9L3 0 a6L3).2.2), .blk b8 #[.int .i64 0, .slice none 0 0] 30, .blk b2 #[.int .i64 f0, .slice f1A f1.length f1C] 30, .rd 1 f1A f1.length f1C f1]) ?_ ?_
             ·
              refine wp_block ?_
              refine c_loop (fun r a' w' => ∃ more9L4 : Bool, ∃ y11L4 : Int, ∃ a6L4 : List Int, F_s_CloseFrame_L4 f1 x10L3 r more9L4 y11L4 a6L4 = F_s_CloseFrame_L4 f1 x10L3 (Int.toNat (((f1).length : Int) - 0) + 1) more9L3 0 a6L3 ∧ Int.toNat (((f1).length : Int) - y11L4) < r ∧ (0 ≤ y11L4) ∧ ((a6L4.length : Int) = f0) ∧ (Rl f0.toNat a6L4) ∧ (Gr a6L2 a6L4 more9L4) ∧ (y11L4 ≤ ((f1).length : Int)) ∧ E a' 98 [(4, .pointer (some ⟨b8, 0, none⟩)), (6, .slice b55 ((f1).length) c56), (9, .bool more9L4), (10, .int .i64 x10L3), (11, .int .i64 y11L4)] ∧ St w w' [.own 2 1 b55 ((f1).length) c56 a6L4, .blk b8 #[.int .i64 0, .slice none 0 0] 30, .blk b2 #[.int .i64 f0, .slice f1A f1.length f1C] 30, .rd 1 f1A f1.length f1C f1]) (r := (Int.toNat (((f1).length : Int) - 0) + 1)) ?_ ?_
              · exact ⟨more9L3, 0, a6L3, rfl, Nat.lt_succ_self _, (by first | omega | (simp only [sS_len, sL_len]; omega) | (simp only [List.length_replicate, sI_len]; omega) | (simp only [List.length_append, List.length_cons, List.length_nil, sI_len, cond_true, cond_false]; omega) | (simp only [List.length_append, List.length_cons, List.length_nil, sI_len, cond_eq_ite, apply_ite List.length]; split <;> simp only [List.length_append, List.length_cons, List.length_nil, sI_len] <;> omega) | grind), (by assumption), (by assumption), (by assumption), (by first | omega | (simp only [sS_len, sL_len]; omega) | (simp only [List.length_replicate, sI_len]; omega) | (simp only [List.length_append, List.length_cons, List.length_nil, sI_len, cond_true, cond_false]; omega) | (simp only [List.length_append, List.length_cons, List.length_nil, sI_len, cond_eq_ite, apply_ite List.length]; split <;> simp only [List.length_append, List.length_cons, List.length_nil, sI_len] <;> omega) | grind), (hE336.sub (L' := [(4, .pointer (some ⟨b8, 0, none⟩)), (6, .slice b55 ((f1).length) c56), (9, .bool more9L3), (10, .int .i64 x10L3), (11, .int .i64 0)]) ⟨rfl, rfl, rfl, rfl, rfl, trivial⟩), (St.pick (Γ' := [.own 2 1 b55 ((f1).length) c56 a6L3, .blk b8 #[.int .i64 0, .slice none 0 0] 30, .blk b2 #[.int .i64 f0, .slice f1A f1.length f1C] 30, .rd 1 f1A f1.length f1C f1]) hS313 [0, 1, 2, 3] (by decide) rfl)⟩
              ·
               clear hE336 hS313
               rintro r349 a338 w339 ⟨more9L4, y11L4, a6L4, hT342, hr343, hi344, hi345, hi346, hi347, hi348, hE340, hS341⟩
               obtain ⟨r349, rfl⟩ : ∃ r', r349 = r' + 1 := ⟨r349 - 1, by omega⟩
               refine c_seq ?_
               refine c_seq ?_
               refine c_reg ?_
               refine q_step (v := .int .i64 y11L4) hE340 (y_move rfl) rfl rfl rfl ?_; intro a350 hE351; clear hE340
               refine q_step (v := .slice b55 ((f1).length) c56) hE351 (y_move rfl) rfl rfl rfl ?_; intro a352 hE353; clear hE351
               refine q_step (v := .int .i64 ((f1).length : Int)) hE353 (y_len (e := 2) (by kernel_rfl) rfl) rfl rfl rfl ?_; intro a354 hE355; clear hE353
               refine q_step (v := .bool (decide (y11L4 < ((f1).length : Int)))) hE355 (y_lss rfl rfl) rfl rfl rfl ?_; intro a356 hE357; clear hE355
               refine c_nil ?_
               have hE358 := hE357.sub (L' := [(4, .pointer (some ⟨b8, 0, none⟩)), (6, .slice b55 ((f1).length) c56), (9, .bool more9L4), (10, .int .i64 x10L3), (11, .int .i64 y11L4), (63, .bool (decide (y11L4 < ((f1).length : Int))))]) ⟨rfl, rfl, rfl, rfl, rfl, rfl, trivial⟩; clear hE357
               refine p_tn ?_
               refine c_cond hE358 rfl (fun ht359 => ?_) (fun ht359 => ?_)
               ·
                have hp360 := of_decide_eq_true ht359
                have hE361 := hE358; rw [ht359] at hE361; clear hE358
                have hb := ec_body (n := f0.toNat) (x := x10L3) (y := y11L4) (a := a6L4) (by omega) (by assumption) (by omega) (by omega) (by omega) (by omega)
                refine wp_skip ?_
                refine p_tn ?_
                refine c_cut (fun a' w' => E a' 98 [(4, .pointer (some ⟨b8, 0, none⟩)), (6, .slice b55 ((f1).length) c56), (9, .bool (((F_l01Bit (gI a6L4 x10L3) y11L4) && (!decide ((anI (gI a6L4 x10L3) (gI a6L4 y11L4)) = 0))) || more9L4)), (10, .int .i64 x10L3), (11, .int .i64 y11L4)] ∧ St w w' [.own 2 1 b55 ((f1).length) c56 (bif ((F_l01Bit (gI a6L4 x10L3) y11L4) && (!decide ((anI (gI a6L4 x10L3) (gI a6L4 y11L4)) = 0))) then sI a6L4 y11L4 (orI (gI a6L4 y11L4) (gI a6L4 x10L3)) else a6L4), .blk b8 #[.int .i64 0, .slice none 0 0] 30, .rd 1 f1A f1.length f1C f1, .blk b2 #[.int .i64 f0, .slice f1A f1.length f1C] 30]) ?_ ?_
                ·
                 refine wp_block ?_
                 refine c_cut (fun a' w' => E a' 98 [(4, .pointer (some ⟨b8, 0, none⟩)), (6, .slice b55 ((f1).length) c56), (9, .bool more9L4), (10, .int .i64 x10L3), (11, .int .i64 y11L4), (83, .bool ((F_l01Bit (gI a6L4 x10L3) y11L4) && (!decide ((anI (gI a6L4 x10L3) (gI a6L4 y11L4)) = 0))))] ∧ St w w' [.own 2 1 b55 ((f1).length) c56 a6L4, .blk b8 #[.int .i64 0, .slice none 0 0] 30, .rd 1 f1A f1.length f1C f1, .blk b2 #[.int .i64 f0, .slice f1A f1.length f1C] 30]) ?_ ?_
                 ·
                  refine d_start (fun w w' => (fun w' => w'.cell? (adr b55 (Int.toNat x10L3)) = some (.int .i64 (gI a6L4 x10L3)) ∧ w'.cell? (adr b55 (Int.toNat x10L3)) = some (.int .i64 (gI a6L4 x10L3)) ∧ w'.cell? (adr b55 (Int.toNat y11L4)) = some (.int .i64 (gI a6L4 y11L4)) ∧ True) w → (fun w' => w'.cell? (adr b55 (Int.toNat x10L3)) = some (.int .i64 (gI a6L4 x10L3)) ∧ w'.cell? (adr b55 (Int.toNat x10L3)) = some (.int .i64 (gI a6L4 x10L3)) ∧ w'.cell? (adr b55 (Int.toNat y11L4)) = some (.int .i64 (gI a6L4 y11L4)) ∧ True) w') [3, 10, 14] 18 (by kernel_rfl) rfl ?_
                  intro w362 he363; have hS364 := St.go hS341 he363; clear hS341
                  refine d_pure (fun _ h => h) (v := .slice b55 ((f1).length) c56) 0 rfl hE361 (y_move rfl) rfl (by kernel_rfl) (by kernel_rfl) (by kernel_rfl) rfl rfl (fun _ _ _ h => h) ?_; intro a365 hE366; clear hE361
                  refine d_pure (fun _ h => h) (v := .int .i64 x10L3) 1 rfl hE366 (y_move rfl) rfl (by kernel_rfl) (by kernel_rfl) (by kernel_rfl) rfl rfl (fun _ _ _ h => h) ?_; intro a367 hE368; clear hE366
                  refine d_pure (fun _ h => h) (v := .pointer (some (adr b55 (Int.toNat x10L3)))) 2 rfl hE368 (y_idx (by kernel_rfl) (fun _ => by kernel_rfl) rfl rfl (RdS.isS (m := x10L3) (St.rdO (i := 0) hS364 rfl) (by omega) (by omega)) (by omega) (by omega) (Nat.mul_one _).symm) rfl (by kernel_rfl) (by kernel_rfl) (by kernel_rfl) rfl rfl (fun _ _ _ h => h) ?_; intro a369 hE370; clear hE368
                  refine d_take (fun _ h => h) (fun _ _ h k => h k) (v := .int .i64 (gI a6L4 x10L3)) 3 rfl hE370 (S := fun w' => w'.cell? (adr b55 (Int.toNat x10L3)) = some (.int .i64 (gI a6L4 x10L3)) ∧ w'.cell? (adr b55 (Int.toNat x10L3)) = some (.int .i64 (gI a6L4 x10L3)) ∧ w'.cell? (adr b55 (Int.toNat y11L4)) = some (.int .i64 (gI a6L4 y11L4)) ∧ True) ⟨(RdS.elt (St.rdO (i := 0) hS364 rfl) (by omega) (by omega) _ (Ext.refl _)), (RdS.elt (St.rdO (i := 0) hS364 rfl) (by omega) (by omega) _ (Ext.refl _)), (RdS.elt (St.rdO (i := 0) hS364 rfl) (by omega) (by omega) _ (Ext.refl _)), trivial⟩ (y_load (fun _ => by kernel_rfl) rfl (fun _ h => h.1)) rfl rfl (by kernel_rfl) (by kernel_rfl) (by kernel_rfl) (by kernel_rfl) rfl rfl (fun _ _ _ h => h) ?_; intro a371 hE372; clear hE370
                  refine d_pure (fun _ h => h) (v := .int .i64 y11L4) 4 rfl hE372 (y_move rfl) rfl (by kernel_rfl) (by kernel_rfl) (by kernel_rfl) rfl rfl (fun _ _ _ h => h) ?_; intro a373 hE374; clear hE372
                  refine d_only 5 (by kernel_rfl) rfl hE374 rfl (l_call (f := 144) (argv := [.int .i64 (gI a6L4 x10L3), .int .i64 y11L4]) hE374 (fun _ => cf_l01Bit _ _) rfl rfl (c_l01Bit (gI a6L4 x10L3) y11L4 w362 (by omega) (by omega)) ?_)
                  rintro _ _ ⟨rfl, rfl⟩ a377 hE378; clear hE374
                  refine ⟨fun _ _ => ⟨(RdS.elt (St.rdO (i := 0) hS364 rfl) (by omega) (by omega) _ (Ext.refl _)), (RdS.elt (St.rdO (i := 0) hS364 rfl) (by omega) (by omega) _ (Ext.refl _)), (RdS.elt (St.rdO (i := 0) hS364 rfl) (by omega) (by omega) _ (Ext.refl _)), trivial⟩, ?_⟩
                  refine d_pure (fun _ h => h) (v := .bool (F_l01Bit (gI a6L4 x10L3) y11L4)) 6 rfl hE378 (y_move rfl) rfl (by kernel_rfl) (by kernel_rfl) (by kernel_rfl) rfl rfl (fun _ _ _ h => h) ?_; intro a381 hE382; clear hE378
                  rcases Bool.eq_false_or_eq_true (F_l01Bit (gI a6L4 x10L3) y11L4) with hb383 | hb383
                  ·
                   have hE384 := hE382; (try rw [hb383] at hE384); clear hE382
                   refine d_pure (fun _ h => h) (v := .slice b55 ((f1).length) c56) 7 rfl hE384 (y_move rfl) rfl (by kernel_rfl) (by kernel_rfl) (by kernel_rfl) rfl rfl (fun _ _ _ h => h) ?_; intro a385 hE386; clear hE384
                   refine d_pure (fun _ h => h) (v := .int .i64 x10L3) 8 rfl hE386 (y_move rfl) rfl (by kernel_rfl) (by kernel_rfl) (by kernel_rfl) rfl rfl (fun _ _ _ h => h) ?_; intro a387 hE388; clear hE386
                   refine d_pure (fun _ h => h) (v := .pointer (some (adr b55 (Int.toNat x10L3)))) 9 rfl hE388 (y_idx (by kernel_rfl) (fun _ => by kernel_rfl) rfl rfl (RdS.isS (m := x10L3) (St.rdO (i := 0) hS364 rfl) (by omega) (by omega)) (by omega) (by omega) (Nat.mul_one _).symm) rfl (by kernel_rfl) (by kernel_rfl) (by kernel_rfl) rfl rfl (fun _ _ _ h => h) ?_; intro a389 hE390; clear hE388
                   refine d_take (fun _ h => h) (fun _ _ h k => h k) (v := .int .i64 (gI a6L4 x10L3)) 10 rfl hE390 (S := fun w' => w'.cell? (adr b55 (Int.toNat x10L3)) = some (.int .i64 (gI a6L4 x10L3)) ∧ w'.cell? (adr b55 (Int.toNat x10L3)) = some (.int .i64 (gI a6L4 x10L3)) ∧ w'.cell? (adr b55 (Int.toNat y11L4)) = some (.int .i64 (gI a6L4 y11L4)) ∧ True) ⟨(RdS.elt (St.rdO (i := 0) hS364 rfl) (by omega) (by omega) _ (Ext.refl _)), (RdS.elt (St.rdO (i := 0) hS364 rfl) (by omega) (by omega) _ (Ext.refl _)), (RdS.elt (St.rdO (i := 0) hS364 rfl) (by omega) (by omega) _ (Ext.refl _)), trivial⟩ (y_load (fun _ => by kernel_rfl) rfl (fun _ h => h.2.1)) rfl rfl (by kernel_rfl) (by kernel_rfl) (by kernel_rfl) (by kernel_rfl) rfl rfl (fun _ _ _ h => h) ?_; intro a391 hE392; clear hE390
                   refine d_pure (fun _ h => h) (v := .slice b55 ((f1).length) c56) 11 rfl hE392 (y_move rfl) rfl (by kernel_rfl) (by kernel_rfl) (by kernel_rfl) rfl rfl (fun _ _ _ h => h) ?_; intro a393 hE394; clear hE392
                   refine d_pure (fun _ h => h) (v := .int .i64 y11L4) 12 rfl hE394 (y_move rfl) rfl (by kernel_rfl) (by kernel_rfl) (by kernel_rfl) rfl rfl (fun _ _ _ h => h) ?_; intro a395 hE396; clear hE394
                   refine d_pure (fun _ h => h) (v := .pointer (some (adr b55 (Int.toNat y11L4)))) 13 rfl hE396 (y_idx (by kernel_rfl) (fun _ => by kernel_rfl) rfl rfl (RdS.isS (m := y11L4) (St.rdO (i := 0) hS364 rfl) (by omega) (by omega)) (by omega) (by omega) (Nat.mul_one _).symm) rfl (by kernel_rfl) (by kernel_rfl) (by kernel_rfl) rfl rfl (fun _ _ _ h => h) ?_; intro a397 hE398; clear hE396
                   refine d_take (fun _ h => h) (fun _ _ h k => h k) (v := .int .i64 (gI a6L4 y11L4)) 14 rfl hE398 (S := fun w' => w'.cell? (adr b55 (Int.toNat x10L3)) = some (.int .i64 (gI a6L4 x10L3)) ∧ w'.cell? (adr b55 (Int.toNat x10L3)) = some (.int .i64 (gI a6L4 x10L3)) ∧ w'.cell? (adr b55 (Int.toNat y11L4)) = some (.int .i64 (gI a6L4 y11L4)) ∧ True) ⟨(RdS.elt (St.rdO (i := 0) hS364 rfl) (by omega) (by omega) _ (Ext.refl _)), (RdS.elt (St.rdO (i := 0) hS364 rfl) (by omega) (by omega) _ (Ext.refl _)), (RdS.elt (St.rdO (i := 0) hS364 rfl) (by omega) (by omega) _ (Ext.refl _)), trivial⟩ (y_load (fun _ => by kernel_rfl) rfl (fun _ h => h.2.2.1)) rfl rfl (by kernel_rfl) (by kernel_rfl) (by kernel_rfl) (by kernel_rfl) rfl rfl (fun _ _ _ h => h) ?_; intro a399 hE400; clear hE398
                   refine d_pure (fun _ h => h) (v := .int .i64 (anI (gI a6L4 x10L3) (gI a6L4 y11L4))) 15 rfl hE400 (y_andNot rfl rfl) rfl (by kernel_rfl) (by kernel_rfl) (by kernel_rfl) rfl rfl (fun _ _ _ h => h) ?_; intro a401 hE402; clear hE400
                   refine d_pure (fun _ h => h) (v := .bool (!decide ((anI (gI a6L4 x10L3) (gI a6L4 y11L4)) = 0))) 16 rfl hE402 (y_neq rfl rfl) rfl (by kernel_rfl) (by kernel_rfl) (by kernel_rfl) rfl rfl (fun _ _ _ h => h) ?_; intro a403 hE404; clear hE402
                   refine d_pure (fun _ h => h) (v := .bool (!decide ((anI (gI a6L4 x10L3) (gI a6L4 y11L4)) = 0))) 17 rfl hE404 (y_pick (b := true) rfl rfl) rfl (by kernel_rfl) (by kernel_rfl) (by kernel_rfl) rfl rfl (fun _ _ _ h => h) ?_; intro a405 hE406; clear hE404
                   refine d_done (by kernel_rfl) ?_
                   have hE407 := hE406.sub (L' := [(4, .pointer (some ⟨b8, 0, none⟩)), (6, .slice b55 ((f1).length) c56), (9, .bool more9L4), (10, .int .i64 x10L3), (11, .int .i64 y11L4), (83, .bool (!decide ((anI (gI a6L4 x10L3) (gI a6L4 y11L4)) = 0)))]) ⟨rfl, rfl, rfl, rfl, rfl, rfl, trivial⟩; clear hE406
                   refine p_tn ?_
                   have hE408 := hE407.sub (L' := [(4, .pointer (some ⟨b8, 0, none⟩)), (6, .slice b55 ((f1).length) c56), (9, .bool more9L4), (10, .int .i64 x10L3), (11, .int .i64 y11L4), (83, .bool (!decide ((anI (gI a6L4 x10L3) (gI a6L4 y11L4)) = 0)))]) ⟨rfl, rfl, rfl, rfl, rfl, rfl, trivial⟩
                   have hS409 := (St.pick (Γ' := [.own 2 1 b55 ((f1).length) c56 a6L4, .blk b8 #[.int .i64 0, .slice none 0 0] 30, .rd 1 f1A f1.length f1C f1, .blk b2 #[.int .i64 f0, .slice f1A f1.length f1C] 30]) hS364 [0, 1, 3, 2] (by decide) rfl)
                   exact ⟨(by rw [hb383]; exact hE408), hS409⟩
                  ·
                   have hE410 := hE382; (try rw [hb383] at hE410); clear hE382
                   refine d_skip (fun _ h => h) 7 rfl hE410 rfl (by kernel_rfl) (by kernel_rfl) (by kernel_rfl) rfl rfl (fun _ _ _ h => h) ?_; intro a411 hE412; clear hE410
                   refine d_skip (fun _ h => h) 8 rfl hE412 rfl (by kernel_rfl) (by kernel_rfl) (by kernel_rfl) rfl rfl (fun _ _ _ h => h) ?_; intro a413 hE414; clear hE412
                   refine d_skip (fun _ h => h) 9 rfl hE414 rfl (by kernel_rfl) (by kernel_rfl) (by kernel_rfl) rfl rfl (fun _ _ _ h => h) ?_; intro a415 hE416; clear hE414
                   refine d_skip (fun _ h => h) 10 rfl hE416 rfl (by kernel_rfl) (by kernel_rfl) (by kernel_rfl) rfl rfl (fun _ _ _ h => h) ?_; intro a417 hE418; clear hE416
                   refine d_skip (fun _ h => h) 11 rfl hE418 rfl (by kernel_rfl) (by kernel_rfl) (by kernel_rfl) rfl rfl (fun _ _ _ h => h) ?_; intro a419 hE420; clear hE418
                   refine d_skip (fun _ h => h) 12 rfl hE420 rfl (by kernel_rfl) (by kernel_rfl) (by kernel_rfl) rfl rfl (fun _ _ _ h => h) ?_; intro a421 hE422; clear hE420
                   refine d_skip (fun _ h => h) 13 rfl hE422 rfl (by kernel_rfl) (by kernel_rfl) (by kernel_rfl) rfl rfl (fun _ _ _ h => h) ?_; intro a423 hE424; clear hE422
                   refine d_skip (fun _ h => h) 14 rfl hE424 rfl (by kernel_rfl) (by kernel_rfl) (by kernel_rfl) rfl rfl (fun _ _ _ h => h) ?_; intro a425 hE426; clear hE424
                   refine d_skip (fun _ h => h) 15 rfl hE426 rfl (by kernel_rfl) (by kernel_rfl) (by kernel_rfl) rfl rfl (fun _ _ _ h => h) ?_; intro a427 hE428; clear hE426
                   refine d_skip (fun _ h => h) 16 rfl hE428 rfl (by kernel_rfl) (by kernel_rfl) (by kernel_rfl) rfl rfl (fun _ _ _ h => h) ?_; intro a429 hE430; clear hE428
                   refine d_pure (fun _ h => h) (v := .bool false) 17 rfl hE430 (y_pick (b := false) rfl rfl) rfl (by kernel_rfl) (by kernel_rfl) (by kernel_rfl) rfl rfl (fun _ _ _ h => h) ?_; intro a431 hE432; clear hE430
                   refine d_done (by kernel_rfl) ?_
                   have hE433 := hE432.sub (L' := [(4, .pointer (some ⟨b8, 0, none⟩)), (6, .slice b55 ((f1).length) c56), (9, .bool more9L4), (10, .int .i64 x10L3), (11, .int .i64 y11L4), (83, .bool false)]) ⟨rfl, rfl, rfl, rfl, rfl, rfl, trivial⟩; clear hE432
                   refine p_tn ?_
                   have hE434 := hE433.sub (L' := [(4, .pointer (some ⟨b8, 0, none⟩)), (6, .slice b55 ((f1).length) c56), (9, .bool more9L4), (10, .int .i64 x10L3), (11, .int .i64 y11L4), (83, .bool false)]) ⟨rfl, rfl, rfl, rfl, rfl, rfl, trivial⟩
                   have hS435 := (St.pick (Γ' := [.own 2 1 b55 ((f1).length) c56 a6L4, .blk b8 #[.int .i64 0, .slice none 0 0] 30, .rd 1 f1A f1.length f1C f1, .blk b2 #[.int .i64 f0, .slice f1A f1.length f1C] 30]) hS364 [0, 1, 3, 2] (by decide) rfl)
                   exact ⟨(by rw [hb383]; exact hE434), hS435⟩
                 ·
                  rintro a436 w437 ⟨hE438, hS439⟩; clear hE361 hS341
                  refine c_cond hE438 rfl (fun ht441 => ?_) (fun ht441 => ?_)
                  ·
                   obtain ⟨ht442, ht443⟩ := band_t ht441
                   have ht444 := bn_t ht443
                   have hp445 := of_decide_eq_false ht444
                   have hE446 := hE438; rw [ht441] at hE446; clear hE438
                   refine c_seq ?_
                   refine d_start (fun w w' => (fun w' => w'.cell? (adr b55 (Int.toNat y11L4)) = some (.int .i64 (gI a6L4 y11L4)) ∧ w'.cell? (adr b55 (Int.toNat x10L3)) = some (.int .i64 (gI a6L4 x10L3)) ∧ True) w → (fun w' => w'.cell? (adr b55 (Int.toNat y11L4)) = some (.int .i64 (gI a6L4 y11L4)) ∧ w'.cell? (adr b55 (Int.toNat x10L3)) = some (.int .i64 (gI a6L4 x10L3)) ∧ True) w') [5, 9] 13 (by kernel_rfl) rfl ?_
                   intro w447 he448; have hS449 := St.go hS439 he448; clear hS439
                   refine d_pure (fun _ h => h) (v := .slice b55 ((f1).length) c56) 0 rfl hE446 (y_move rfl) rfl (by kernel_rfl) (by kernel_rfl) (by kernel_rfl) rfl rfl (fun _ _ _ h => h) ?_; intro a450 hE451; clear hE446
                   refine d_pure (fun _ h => h) (v := .int .i64 y11L4) 1 rfl hE451 (y_move rfl) rfl (by kernel_rfl) (by kernel_rfl) (by kernel_rfl) rfl rfl (fun _ _ _ h => h) ?_; intro a452 hE453; clear hE451
                   refine d_pure (fun _ h => h) (v := .slice b55 ((f1).length) c56) 2 rfl hE453 (y_move rfl) rfl (by kernel_rfl) (by kernel_rfl) (by kernel_rfl) rfl rfl (fun _ _ _ h => h) ?_; intro a454 hE455; clear hE453
                   refine d_pure (fun _ h => h) (v := .int .i64 y11L4) 3 rfl hE455 (y_move rfl) rfl (by kernel_rfl) (by kernel_rfl) (by kernel_rfl) rfl rfl (fun _ _ _ h => h) ?_; intro a456 hE457; clear hE455
                   refine d_pure (fun _ h => h) (v := .pointer (some (adr b55 (Int.toNat y11L4)))) 4 rfl hE457 (y_idx (by kernel_rfl) (fun _ => by kernel_rfl) rfl rfl (RdS.isS (m := y11L4) (St.rdO (i := 0) hS449 rfl) (by omega) (by omega)) (by omega) (by omega) (Nat.mul_one _).symm) rfl (by kernel_rfl) (by kernel_rfl) (by kernel_rfl) rfl rfl (fun _ _ _ h => h) ?_; intro a458 hE459; clear hE457
                   refine d_take (fun _ h => h) (fun _ _ h k => h k) (v := .int .i64 (gI a6L4 y11L4)) 5 rfl hE459 (S := fun w' => w'.cell? (adr b55 (Int.toNat y11L4)) = some (.int .i64 (gI a6L4 y11L4)) ∧ w'.cell? (adr b55 (Int.toNat x10L3)) = some (.int .i64 (gI a6L4 x10L3)) ∧ True) ⟨(RdS.elt (St.rdO (i := 0) hS449 rfl) (by omega) (by omega) _ (Ext.refl _)), (RdS.elt (St.rdO (i := 0) hS449 rfl) (by omega) (by omega) _ (Ext.refl _)), trivial⟩ (y_load (fun _ => by kernel_rfl) rfl (fun _ h => h.1)) rfl rfl (by kernel_rfl) (by kernel_rfl) (by kernel_rfl) (by kernel_rfl) rfl rfl (fun _ _ _ h => h) ?_; intro a460 hE461; clear hE459
                   refine d_pure (fun _ h => h) (v := .slice b55 ((f1).length) c56) 6 rfl hE461 (y_move rfl) rfl (by kernel_rfl) (by kernel_rfl) (by kernel_rfl) rfl rfl (fun _ _ _ h => h) ?_; intro a462 hE463; clear hE461
                   refine d_pure (fun _ h => h) (v := .int .i64 x10L3) 7 rfl hE463 (y_move rfl) rfl (by kernel_rfl) (by kernel_rfl) (by kernel_rfl) rfl rfl (fun _ _ _ h => h) ?_; intro a464 hE465; clear hE463
                   refine d_pure (fun _ h => h) (v := .pointer (some (adr b55 (Int.toNat x10L3)))) 8 rfl hE465 (y_idx (by kernel_rfl) (fun _ => by kernel_rfl) rfl rfl (RdS.isS (m := x10L3) (St.rdO (i := 0) hS449 rfl) (by omega) (by omega)) (by omega) (by omega) (Nat.mul_one _).symm) rfl (by kernel_rfl) (by kernel_rfl) (by kernel_rfl) rfl rfl (fun _ _ _ h => h) ?_; intro a466 hE467; clear hE465
                   refine d_take (fun _ h => h) (fun _ _ h k => h k) (v := .int .i64 (gI a6L4 x10L3)) 9 rfl hE467 (S := fun w' => w'.cell? (adr b55 (Int.toNat y11L4)) = some (.int .i64 (gI a6L4 y11L4)) ∧ w'.cell? (adr b55 (Int.toNat x10L3)) = some (.int .i64 (gI a6L4 x10L3)) ∧ True) ⟨(RdS.elt (St.rdO (i := 0) hS449 rfl) (by omega) (by omega) _ (Ext.refl _)), (RdS.elt (St.rdO (i := 0) hS449 rfl) (by omega) (by omega) _ (Ext.refl _)), trivial⟩ (y_load (fun _ => by kernel_rfl) rfl (fun _ h => h.2.1)) rfl rfl (by kernel_rfl) (by kernel_rfl) (by kernel_rfl) (by kernel_rfl) rfl rfl (fun _ _ _ h => h) ?_; intro a468 hE469; clear hE467
                   refine d_pure (fun _ h => h) (v := .int .i64 (orI (gI a6L4 y11L4) (gI a6L4 x10L3))) 10 rfl hE469 (y_or rfl rfl) rfl (by kernel_rfl) (by kernel_rfl) (by kernel_rfl) rfl rfl (fun _ _ _ h => h) ?_; intro a470 hE471; clear hE469
                   refine d_pure (fun _ h => h) (v := .pointer (some (adr b55 (Int.toNat y11L4)))) 11 rfl hE471 (y_idx (by kernel_rfl) (fun _ => by kernel_rfl) rfl rfl (RdS.isS (m := y11L4) (St.rdO (i := 0) hS449 rfl) (by omega) (by omega)) (by omega) (by omega) (Nat.mul_one _).symm) rfl (by kernel_rfl) (by kernel_rfl) (by kernel_rfl) rfl rfl (fun _ _ _ h => h) ?_; intro a472 hE473; clear hE471
                   refine d_only 12 (by kernel_rfl) rfl hE473 rfl (l_store (k := 0) hS449 hE473 (fun _ => by kernel_rfl) rfl rfl rfl (by omega) (by omega) ?_)
                   intro w475 hS478 a476 hE477; clear hS449 hE473
                   refine ⟨fun h => Bool.noConfusion (h.symm.trans (show exm _ _ _ = true by kernel_rfl)), ?_⟩
                   refine d_done (by kernel_rfl) ?_
                   have hE480 := hE477.sub (L' := [(4, .pointer (some ⟨b8, 0, none⟩)), (6, .slice b55 ((f1).length) c56), (10, .int .i64 x10L3), (11, .int .i64 y11L4)]) ⟨rfl, rfl, rfl, rfl, trivial⟩; clear hE477
                   refine p_tn ?_
                   refine c_reg ?_
                   refine q_step (v := .bool true) hE480 (y_assign rfl) rfl rfl rfl ?_; intro a481 hE482; clear hE480
                   refine c_nil ?_
                   have hE483 := hE482.sub (L' := [(4, .pointer (some ⟨b8, 0, none⟩)), (6, .slice b55 ((f1).length) c56), (9, .bool true), (10, .int .i64 x10L3), (11, .int .i64 y11L4)]) ⟨rfl, rfl, rfl, rfl, rfl, trivial⟩; clear hE482
                   refine p_bn ?_
                   refine p_tn ?_
                   have hE484 := hE483.sub (L' := [(4, .pointer (some ⟨b8, 0, none⟩)), (6, .slice b55 ((f1).length) c56), (9, .bool true), (10, .int .i64 x10L3), (11, .int .i64 y11L4)]) ⟨rfl, rfl, rfl, rfl, rfl, trivial⟩
                   have hS485 := (St.pick (Γ' := [.own 2 1 b55 ((f1).length) c56 (sI a6L4 y11L4 (orI (gI a6L4 y11L4) (gI a6L4 x10L3))), .blk b8 #[.int .i64 0, .slice none 0 0] 30, .rd 1 f1A f1.length f1C f1, .blk b2 #[.int .i64 f0, .slice f1A f1.length f1C] 30]) hS478 [0, 1, 2, 3] (by decide) rfl)
                   exact ⟨(by rw [ht441]; exact hE484), (by rw [ht441]; exact hS485)⟩
                  ·
                   have hE486 := hE438; rw [ht441] at hE486; clear hE438
                   refine wp_skip ?_
                   refine p_bn ?_
                   refine p_tn ?_
                   have hE487 := hE486.sub (L' := [(4, .pointer (some ⟨b8, 0, none⟩)), (6, .slice b55 ((f1).length) c56), (9, .bool more9L4), (10, .int .i64 x10L3), (11, .int .i64 y11L4)]) ⟨rfl, rfl, rfl, rfl, rfl, trivial⟩
                   have hS488 := (St.pick (Γ' := [.own 2 1 b55 ((f1).length) c56 a6L4, .blk b8 #[.int .i64 0, .slice none 0 0] 30, .rd 1 f1A f1.length f1C f1, .blk b2 #[.int .i64 f0, .slice f1A f1.length f1C] 30]) hS439 [0, 1, 2, 3] (by decide) rfl)
                   exact ⟨(by rw [ht441]; exact hE487), (by rw [ht441]; exact hS488)⟩
                ·
                 rintro a489 w490 ⟨hE491, hS492⟩; clear hE361 hS341
                 refine c_reg ?_
                 refine q_step (v := .int .i64 y11L4) hE491 (y_move rfl) rfl rfl rfl ?_; intro a494 hE495; clear hE491
                 refine q_step (v := .int .i64 (y11L4 + 1)) hE495 (y_add rfl rfl ⟨(by omega), (by omega)⟩) rfl rfl rfl ?_; intro a496 hE497; clear hE495
                 refine q_step (v := .int .i64 (y11L4 + 1)) hE497 (y_assign rfl) rfl rfl rfl ?_; intro a498 hE499; clear hE497
                 refine c_nil ?_
                 have hE500 := hE499.sub (L' := [(4, .pointer (some ⟨b8, 0, none⟩)), (6, .slice b55 ((f1).length) c56), (9, .bool (((F_l01Bit (gI a6L4 x10L3) y11L4) && (!decide ((anI (gI a6L4 x10L3) (gI a6L4 y11L4)) = 0))) || more9L4)), (10, .int .i64 x10L3), (11, .int .i64 (y11L4 + 1))]) ⟨rfl, rfl, rfl, rfl, rfl, trivial⟩; clear hE499
                 have hl501 := (St.rdO (i := 0) hS492 rfl).len1
                 refine p_tn ⟨r349, Nat.lt_succ_self _, (((F_l01Bit (gI a6L4 x10L3) y11L4) && (!decide ((anI (gI a6L4 x10L3) (gI a6L4 y11L4)) = 0))) || more9L4), y11L4 + 1, bif ((F_l01Bit (gI a6L4 x10L3) y11L4) && (!decide ((anI (gI a6L4 x10L3) (gI a6L4 y11L4)) = 0))) then sI a6L4 y11L4 (orI (gI a6L4 y11L4) (gI a6L4 x10L3)) else a6L4, (hT342.symm.trans (show F_s_CloseFrame_L4b f1 x10L3 (F_s_CloseFrame_L4 f1 x10L3 r349) more9L4 y11L4 a6L4 = F_s_CloseFrame_L4 f1 x10L3 r349 (((F_l01Bit (gI a6L4 x10L3) y11L4) && (!decide ((anI (gI a6L4 x10L3) (gI a6L4 y11L4)) = 0))) || more9L4) (y11L4 + 1) (bif ((F_l01Bit (gI a6L4 x10L3) y11L4) && (!decide ((anI (gI a6L4 x10L3) (gI a6L4 y11L4)) = 0))) then sI a6L4 y11L4 (orI (gI a6L4 y11L4) (gI a6L4 x10L3)) else a6L4) by unfold F_s_CloseFrame_L4b; rw [ht359]; first | done | rfl)).symm, (by omega), (by first | omega | (simp only [sS_len, sL_len]; omega) | (simp only [List.length_replicate, sI_len]; omega) | (simp only [List.length_append, List.length_cons, List.length_nil, sI_len, cond_true, cond_false]; omega) | (simp only [List.length_append, List.length_cons, List.length_nil, sI_len, cond_eq_ite, apply_ite List.length]; split <;> simp only [List.length_append, List.length_cons, List.length_nil, sI_len] <;> omega) | grind), (by have := hb.2.1; omega), hb.1, (hb.2.2 _ _ (by assumption)), (by first | omega | (simp only [sS_len, sL_len]; omega) | (simp only [List.length_replicate, sI_len]; omega) | (simp only [List.length_append, List.length_cons, List.length_nil, sI_len, cond_true, cond_false]; omega) | (simp only [List.length_append, List.length_cons, List.length_nil, sI_len, cond_eq_ite, apply_ite List.length]; split <;> simp only [List.length_append, List.length_cons, List.length_nil, sI_len] <;> omega) | grind), (hE500.sub (L' := [(4, .pointer (some ⟨b8, 0, none⟩)), (6, .slice b55 ((f1).length) c56), (9, .bool (((F_l01Bit (gI a6L4 x10L3) y11L4) && (!decide ((anI (gI a6L4 x10L3) (gI a6L4 y11L4)) = 0))) || more9L4)), (10, .int .i64 x10L3), (11, .int .i64 (y11L4 + 1))]) ⟨rfl, rfl, rfl, rfl, rfl, trivial⟩), (St.pick (Γ' := [.own 2 1 b55 ((f1).length) c56 (bif ((F_l01Bit (gI a6L4 x10L3) y11L4) && (!decide ((anI (gI a6L4 x10L3) (gI a6L4 y11L4)) = 0))) then sI a6L4 y11L4 (orI (gI a6L4 y11L4) (gI a6L4 x10L3)) else a6L4), .blk b8 #[.int .i64 0, .slice none 0 0] 30, .blk b2 #[.int .i64 f0, .slice f1A f1.length f1C] 30, .rd 1 f1A f1.length f1C f1]) hS492 [0, 1, 3, 2] (by decide) rfl)⟩
               ·
                have hp502 := of_decide_eq_false ht359
                have hE503 := hE358; rw [ht359] at hE503; clear hE358
                refine wp_exit ?_
                refine p_te ?_
                have hX504 : F_s_CloseFrame_L4 f1 x10L3 (Int.toNat (((f1).length : Int) - 0) + 1) more9L3 0 a6L3 = (more9L4, y11L4, a6L4) := hT342.symm.trans (show F_s_CloseFrame_L4b f1 x10L3 (F_s_CloseFrame_L4 f1 x10L3 r349) more9L4 y11L4 a6L4 = (more9L4, y11L4, a6L4) by unfold F_s_CloseFrame_L4b; rw [ht359]; first | done | rfl)
                refine p_te (p_be (p_tn ?_))
                exact ⟨(by rw [hX504]; exact (show 0 ≤ y11L4 from (by first | omega | (simp only [sS_len, sL_len]; omega) | (simp only [List.length_replicate, sI_len]; omega) | (simp only [List.length_append, List.length_cons, List.length_nil, sI_len, cond_true, cond_false]; omega) | (simp only [List.length_append, List.length_cons, List.length_nil, sI_len, cond_eq_ite, apply_ite List.length]; split <;> simp only [List.length_append, List.length_cons, List.length_nil, sI_len] <;> omega) | grind))), (by rw [hX504]; exact (show (a6L4.length : Int) = f0 from (by first | omega | (simp only [sS_len, sL_len]; omega) | (simp only [List.length_replicate, sI_len]; omega) | (simp only [List.length_append, List.length_cons, List.length_nil, sI_len, cond_true, cond_false]; omega) | (simp only [List.length_append, List.length_cons, List.length_nil, sI_len, cond_eq_ite, apply_ite List.length]; split <;> simp only [List.length_append, List.length_cons, List.length_nil, sI_len] <;> omega) | grind))), (by rw [hX504]; exact (show Rl f0.toNat a6L4 from (by first | omega | (simp only [sS_len, sL_len]; omega) | (simp only [List.length_replicate, sI_len]; omega) | (simp only [List.length_append, List.length_cons, List.length_nil, sI_len, cond_true, cond_false]; omega) | (simp only [List.length_append, List.length_cons, List.length_nil, sI_len, cond_eq_ite, apply_ite List.length]; split <;> simp only [List.length_append, List.length_cons, List.length_nil, sI_len] <;> omega) | grind))), (by rw [hX504]; exact (show Gr a6L2 a6L4 more9L4 from (by first | omega | (simp only [sS_len, sL_len]; omega) | (simp only [List.length_replicate, sI_len]; omega) | (simp only [List.length_append, List.length_cons, List.length_nil, sI_len, cond_true, cond_false]; omega) | (simp only [List.length_append, List.length_cons, List.length_nil, sI_len, cond_eq_ite, apply_ite List.length]; split <;> simp only [List.length_append, List.length_cons, List.length_nil, sI_len] <;> omega) | grind))), (by rw [hX504]; exact (show y11L4 ≤ ((f1).length : Int) from (by first | omega | (simp only [sS_len, sL_len]; omega) | (simp only [List.length_replicate, sI_len]; omega) | (simp only [List.length_append, List.length_cons, List.length_nil, sI_len, cond_true, cond_false]; omega) | (simp only [List.length_append, List.length_cons, List.length_nil, sI_len, cond_eq_ite, apply_ite List.length]; split <;> simp only [List.length_append, List.length_cons, List.length_nil, sI_len] <;> omega) | grind))), (by rw [hX504]; exact (hE503.sub (L' := [(4, .pointer (some ⟨b8, 0, none⟩)), (6, .slice b55 ((f1).length) c56), (9, .bool more9L4), (10, .int .i64 x10L3), (11, .int .i64 y11L4)]) ⟨rfl, rfl, rfl, rfl, rfl, trivial⟩)), (by rw [hX504]; exact (St.pick (Γ' := [.own 2 1 b55 ((f1).length) c56 a6L4, .blk b8 #[.int .i64 0, .slice none 0 0] 30, .blk b2 #[.int .i64 f0, .slice f1A f1.length f1C] 30, .rd 1 f1A f1.length f1C f1]) hS341 [0, 1, 2, 3] (by decide) rfl))⟩
             ·
              rintro a505 w506 ⟨hi510, hi511, hi512, hi513, hi514, hE507, hS508⟩; clear hE336 hS313
              refine p_bn ?_
              refine p_tn ?_
              refine c_reg ?_
              refine q_step (v := .int .i64 x10L3) hE507 (y_move rfl) rfl rfl rfl ?_; intro a515 hE516; clear hE507
              refine q_step (v := .int .i64 (x10L3 + 1)) hE516 (y_add rfl rfl ⟨(by omega), (by omega)⟩) rfl rfl rfl ?_; intro a517 hE518; clear hE516
              refine q_step (v := .int .i64 (x10L3 + 1)) hE518 (y_assign rfl) rfl rfl rfl ?_; intro a519 hE520; clear hE518
              refine c_nil ?_
              have hE521 := hE520.sub (L' := [(4, .pointer (some ⟨b8, 0, none⟩)), (6, .slice b55 ((f1).length) c56), (9, .bool ((F_s_CloseFrame_L4 f1 x10L3 (Int.toNat (((f1).length : Int) - 0) + 1) more9L3 0 a6L3).1)), (10, .int .i64 (x10L3 + 1))]) ⟨rfl, rfl, rfl, rfl, trivial⟩; clear hE520
              refine p_tn ⟨r321, Nat.lt_succ_self _, (F_s_CloseFrame_L4 f1 x10L3 (Int.toNat (((f1).length : Int) - 0) + 1) more9L3 0 a6L3).1, x10L3 + 1, (F_s_CloseFrame_L4 f1 x10L3 (Int.toNat (((f1).length : Int) - 0) + 1) more9L3 0 a6L3).2.2, (hT314.symm.trans (show F_s_CloseFrame_L3b f1 (F_s_CloseFrame_L3 f1 r321) more9L3 x10L3 a6L3 = F_s_CloseFrame_L3 f1 r321 ((F_s_CloseFrame_L4 f1 x10L3 (Int.toNat (((f1).length : Int) - 0) + 1) more9L3 0 a6L3).1) (x10L3 + 1) ((F_s_CloseFrame_L4 f1 x10L3 (Int.toNat (((f1).length : Int) - 0) + 1) more9L3 0 a6L3).2.2) by unfold F_s_CloseFrame_L3b; rw [ht331]; first | done | rfl)).symm, (by omega), (by first | omega | (simp only [sS_len, sL_len]; omega) | (simp only [List.length_replicate, sI_len]; omega) | (simp only [List.length_append, List.length_cons, List.length_nil, sI_len, cond_true, cond_false]; omega) | (simp only [List.length_append, List.length_cons, List.length_nil, sI_len, cond_eq_ite, apply_ite List.length]; split <;> simp only [List.length_append, List.length_cons, List.length_nil, sI_len] <;> omega) | grind), (by assumption), (by assumption), (by assumption), (by first | omega | (simp only [sS_len, sL_len]; omega) | (simp only [List.length_replicate, sI_len]; omega) | (simp only [List.length_append, List.length_cons, List.length_nil, sI_len, cond_true, cond_false]; omega) | (simp only [List.length_append, List.length_cons, List.length_nil, sI_len, cond_eq_ite, apply_ite List.length]; split <;> simp only [List.length_append, List.length_cons, List.length_nil, sI_len] <;> omega) | grind), (hE521.sub (L' := [(4, .pointer (some ⟨b8, 0, none⟩)), (6, .slice b55 ((f1).length) c56), (9, .bool ((F_s_CloseFrame_L4 f1 x10L3 (Int.toNat (((f1).length : Int) - 0) + 1) more9L3 0 a6L3).1)), (10, .int .i64 (x10L3 + 1))]) ⟨rfl, rfl, rfl, rfl, trivial⟩), (St.pick (Γ' := [.own 2 1 b55 ((f1).length) c56 ((F_s_CloseFrame_L4 f1 x10L3 (Int.toNat (((f1).length : Int) - 0) + 1) more9L3 0 a6L3).2.2), .blk b8 #[.int .i64 0, .slice none 0 0] 30, .blk b2 #[.int .i64 f0, .slice f1A f1.length f1C] 30, .rd 1 f1A f1.length f1C f1]) hS508 [0, 1, 2, 3] (by decide) rfl)⟩
            ·
             have hp522 := of_decide_eq_false ht331
             have hE523 := hE330; rw [ht331] at hE523; clear hE330
             refine wp_exit ?_
             refine p_te ?_
             have hX524 : F_s_CloseFrame_L3 f1 (Int.toNat (((f1).length : Int) - 0) + 1) false 0 a6L2 = (more9L3, x10L3, a6L3) := hT314.symm.trans (show F_s_CloseFrame_L3b f1 (F_s_CloseFrame_L3 f1 r321) more9L3 x10L3 a6L3 = (more9L3, x10L3, a6L3) by unfold F_s_CloseFrame_L3b; rw [ht331]; first | done | rfl)
             refine p_te (p_be (p_tn ?_))
             exact ⟨(by rw [hX524]; exact (show 0 ≤ x10L3 from (by first | omega | (simp only [sS_len, sL_len]; omega) | (simp only [List.length_replicate, sI_len]; omega) | (simp only [List.length_append, List.length_cons, List.length_nil, sI_len, cond_true, cond_false]; omega) | (simp only [List.length_append, List.length_cons, List.length_nil, sI_len, cond_eq_ite, apply_ite List.length]; split <;> simp only [List.length_append, List.length_cons, List.length_nil, sI_len] <;> omega) | grind))), (by rw [hX524]; exact (show (a6L3.length : Int) = f0 from (by first | omega | (simp only [sS_len, sL_len]; omega) | (simp only [List.length_replicate, sI_len]; omega) | (simp only [List.length_append, List.length_cons, List.length_nil, sI_len, cond_true, cond_false]; omega) | (simp only [List.length_append, List.length_cons, List.length_nil, sI_len, cond_eq_ite, apply_ite List.length]; split <;> simp only [List.length_append, List.length_cons, List.length_nil, sI_len] <;> omega) | grind))), (by rw [hX524]; exact (show Rl f0.toNat a6L3 from (by first | omega | (simp only [sS_len, sL_len]; omega) | (simp only [List.length_replicate, sI_len]; omega) | (simp only [List.length_append, List.length_cons, List.length_nil, sI_len, cond_true, cond_false]; omega) | (simp only [List.length_append, List.length_cons, List.length_nil, sI_len, cond_eq_ite, apply_ite List.length]; split <;> simp only [List.length_append, List.length_cons, List.length_nil, sI_len] <;> omega) | grind))), (by rw [hX524]; exact (show Gr a6L2 a6L3 more9L3 from (by first | omega | (simp only [sS_len, sL_len]; omega) | (simp only [List.length_replicate, sI_len]; omega) | (simp only [List.length_append, List.length_cons, List.length_nil, sI_len, cond_true, cond_false]; omega) | (simp only [List.length_append, List.length_cons, List.length_nil, sI_len, cond_eq_ite, apply_ite List.length]; split <;> simp only [List.length_append, List.length_cons, List.length_nil, sI_len] <;> omega) | grind))), (by rw [hX524]; exact (show x10L3 ≤ ((f1).length : Int) from (by first | omega | (simp only [sS_len, sL_len]; omega) | (simp only [List.length_replicate, sI_len]; omega) | (simp only [List.length_append, List.length_cons, List.length_nil, sI_len, cond_true, cond_false]; omega) | (simp only [List.length_append, List.length_cons, List.length_nil, sI_len, cond_eq_ite, apply_ite List.length]; split <;> simp only [List.length_append, List.length_cons, List.length_nil, sI_len] <;> omega) | grind))), (by rw [hX524]; exact (hE523.sub (L' := [(4, .pointer (some ⟨b8, 0, none⟩)), (6, .slice b55 ((f1).length) c56), (9, .bool more9L3), (10, .int .i64 x10L3)]) ⟨rfl, rfl, rfl, rfl, trivial⟩)), (by rw [hX524]; exact (St.pick (Γ' := [.own 2 1 b55 ((f1).length) c56 a6L3, .blk b8 #[.int .i64 0, .slice none 0 0] 30, .blk b2 #[.int .i64 f0, .slice f1A f1.length f1C] 30, .rd 1 f1A f1.length f1C f1]) hS313 [0, 1, 2, 3] (by decide) rfl))⟩
          ·
           rintro a525 w526 ⟨hi530, hi531, hi532, hi533, hi534, hE527, hS528⟩; clear hE308 hS292
           refine p_bn ?_
           refine p_tn ⟨r297, Nat.lt_succ_self _, (F_s_CloseFrame_L3 f1 (Int.toNat (((f1).length : Int) - 0) + 1) false 0 a6L2).1, (F_s_CloseFrame_L3 f1 (Int.toNat (((f1).length : Int) - 0) + 1) false 0 a6L2).2.2, (hT293.symm.trans (show F_s_CloseFrame_L2b f1 (F_s_CloseFrame_L2 f1 r297) more9L2 a6L2 = F_s_CloseFrame_L2 f1 r297 ((F_s_CloseFrame_L3 f1 (Int.toNat (((f1).length : Int) - 0) + 1) false 0 a6L2).1) ((F_s_CloseFrame_L3 f1 (Int.toNat (((f1).length : Int) - 0) + 1) false 0 a6L2).2.2) by unfold F_s_CloseFrame_L2b; rw [ht301]; first | done | rfl)).symm, (Gr.dec (b0 := a6L2) (m := more9L2) (by assumption) (rl_cap (f0 := f0) (by omega) (by omega) (by assumption)) (by assumption) (by assumption)), (by assumption), (by assumption), (hE527.sub (L' := [(4, .pointer (some ⟨b8, 0, none⟩)), (6, .slice b55 ((f1).length) c56), (9, .bool ((F_s_CloseFrame_L3 f1 (Int.toNat (((f1).length : Int) - 0) + 1) false 0 a6L2).1))]) ⟨rfl, rfl, rfl, trivial⟩), (St.pick (Γ' := [.own 2 1 b55 ((f1).length) c56 ((F_s_CloseFrame_L3 f1 (Int.toNat (((f1).length : Int) - 0) + 1) false 0 a6L2).2.2), .blk b8 #[.int .i64 0, .slice none 0 0] 30, .blk b2 #[.int .i64 f0, .slice f1A f1.length f1C] 30, .rd 1 f1A f1.length f1C f1]) hS528 [0, 1, 2, 3] (by decide) rfl)⟩
         ·
          have hE535 := hE300; rw [ht301] at hE535; clear hE300
          refine wp_exit ?_
          refine p_te ?_
          have hX536 : F_s_CloseFrame_L2 f1 (2 * (ecap f0 - sumN f1) + (bif true then 1 else 0) + 1) true f1 = (false, a6L2) := hT293.symm.trans (show F_s_CloseFrame_L2b f1 (F_s_CloseFrame_L2 f1 r297) more9L2 a6L2 = (false, a6L2) by unfold F_s_CloseFrame_L2b; rw [ht301]; first | done | rfl)
          refine p_te (p_be (p_tn ?_))
          exact ⟨(by rw [hX536]; exact (show (a6L2.length : Int) = f0 from (by first | omega | (simp only [sS_len, sL_len]; omega) | (simp only [List.length_replicate, sI_len]; omega) | (simp only [List.length_append, List.length_cons, List.length_nil, sI_len, cond_true, cond_false]; omega) | (simp only [List.length_append, List.length_cons, List.length_nil, sI_len, cond_eq_ite, apply_ite List.length]; split <;> simp only [List.length_append, List.length_cons, List.length_nil, sI_len] <;> omega) | grind))), (by rw [hX536]; exact (show Rl f0.toNat a6L2 from (by first | omega | (simp only [sS_len, sL_len]; omega) | (simp only [List.length_replicate, sI_len]; omega) | (simp only [List.length_append, List.length_cons, List.length_nil, sI_len, cond_true, cond_false]; omega) | (simp only [List.length_append, List.length_cons, List.length_nil, sI_len, cond_eq_ite, apply_ite List.length]; split <;> simp only [List.length_append, List.length_cons, List.length_nil, sI_len] <;> omega) | grind))), (by rw [hX536]; exact (hE535.sub (L' := [(4, .pointer (some ⟨b8, 0, none⟩)), (6, .slice b55 ((f1).length) c56), (9, .bool false)]) ⟨rfl, rfl, rfl, trivial⟩)), (by rw [hX536]; exact (St.pick (Γ' := [.own 2 1 b55 ((f1).length) c56 a6L2, .blk b8 #[.int .i64 0, .slice none 0 0] 30, .blk b2 #[.int .i64 f0, .slice f1A f1.length f1C] 30, .rd 1 f1A f1.length f1C f1]) hS292 [0, 1, 2, 3] (by decide) rfl))⟩
       ·
        rintro a537 w538 ⟨hi542, hi543, hE539, hS540⟩; clear hE287 hS53
        refine p_bn ?_
        refine p_tn ?_
        refine c_seq ?_
        refine c_reg ?_
        refine q_step (v := .slice b55 ((f1).length) c56) hE539 (y_move rfl) rfl rfl rfl ?_; intro a544 hE545; clear hE539
        refine l_step hE545 rfl (l_call (f := 104) (argv := [.slice b55 ((f1).length) c56]) hE545 (fun _ => cf_l05Make _ _) rfl rfl (d_l05Make b55 ((f1).length) c56 ((F_s_CloseFrame_L2 f1 (2 * (ecap f0 - sumN f1) + (bif true then 1 else 0) + 1) true f1).2) w538 (St.rdO (i := 0) hS540 rfl) (by omega)) ?_)
        rintro _ w547 ⟨b552, c553, rfl, ho554, he551⟩ a548 hE549; clear hE545
        have hS550 := St.own hS540 he551 ho554; clear hS540
        refine l_step hE549 rfl (l_storeS (k := 2) (cs' := #[.int .i64 (((F_s_CloseFrame_L2 f1 (2 * (ecap f0 - sumN f1) + (bif true then 1 else 0) + 1) true f1).2).length : Int), .slice b552 (((F_s_CloseFrame_L2 f1 (2 * (ecap f0 - sumN f1) + (bif true then 1 else 0) + 1) true f1).2).length) c553]) hS550 hE549 (by kernel_rfl) rfl rfl (by kernel_rfl) rfl rfl ?_)
        intro w556 hS559 a557 hE558; clear hS550 hE549
        refine q_step (v := .int .i64 0) hE558 (y_assign rfl) rfl rfl rfl ?_; intro a561 hE562; clear hE558
        refine c_nil ?_
        have hE563 := hE562.sub (L' := [(4, .pointer (some ⟨b8, 0, none⟩)), (5, .int .i64 0)]) ⟨rfl, rfl, trivial⟩; clear hE562
        refine p_tn ?_
        refine wp_ret ?_
        have hF : F_s_CloseFrame f0 f1 flag = (((((F_s_CloseFrame_L2 f1 (2 * (ecap f0 - sumN f1) + (bif true then 1 else 0) + 1) true f1).2).length : Int), ((F_s_CloseFrame_L2 f1 (2 * (ecap f0 - sumN f1) + (bif true then 1 else 0) + 1) true f1).2)), 0) := by unfold F_s_CloseFrame; rw [ht282, ht159, ht114, ht69, ht28]; first | done | rfl
        refine c_retC2 hE563 rfl rfl rfl Try.underlying30 rfl (by kernel_rfl) (St.row (i := 2) hS559 rfl _ (Ext.refl _)) ?_
        exact ⟨b552, c553, (by rw [hF]; first | done | (dsimp only; done) | rfl), (by rw [hF]; (try dsimp only); exact hS559.ok 0 _ rfl), hS559.ext⟩
      ·
       have hp564 := of_decide_eq_false ht282
       have hE565 := hE281; rw [ht282] at hE565; clear hE281
       refine c_seq ?_
       refine c_reg ?_
       refine q_step (v := .agg #[.int .i64 0, .slice none 0 0]) hE565 (y_build (vs := #[]) (fun a n hE => by simp) (fun _ => by kernel_rfl)) rfl rfl rfl ?_; intro a566 hE567; clear hE565
       refine l_step hE567 rfl (l_storeS (k := 1) (cs' := #[.int .i64 0, .slice none 0 0]) hS53 hE567 (by kernel_rfl) rfl rfl (by kernel_rfl) rfl rfl ?_)
       intro w569 hS572 a570 hE571; clear hS53 hE567
       refine q_step (v := .int .i64 2) hE571 (y_assign rfl) rfl rfl rfl ?_; intro a574 hE575; clear hE571
       refine c_nil ?_
       have hE576 := hE575.sub (L' := [(4, .pointer (some ⟨b8, 0, none⟩)), (5, .int .i64 2)]) ⟨rfl, rfl, trivial⟩; clear hE575
       refine p_tn ?_
       refine wp_ret ?_
       refine p_br ?_
       refine p_tr ?_
       have hF : F_s_CloseFrame f0 f1 flag = ((0, []), 2) := by unfold F_s_CloseFrame; rw [ht282, ht159, ht114, ht69, ht28]; first | done | rfl
       refine c_retC2 hE576 rfl rfl rfl Try.underlying30 rfl (by kernel_rfl) (St.row (i := 1) hS572 rfl _ (Ext.refl _)) ?_
       exact ⟨none, 0, (by rw [hF]; first | done | (dsimp only; done) | rfl), (by rw [hF]; (try dsimp only); exact OwnS.nilS _ _ _ _), hS572.ext⟩
end Go.Proofs.Ytlbonhloeefnmaa
