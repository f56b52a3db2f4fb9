/- GBB: models and contracts, printed by wip/gen/gen.py -/
import Derived.Test.YtlbonhloeefnmaaGSIB
import Derived.Test.YtlbonhloeefnmaaGSS
import Derived.Test.YtlbonhloeefnmaaNest
set_option linter.unusedVariables false
set_option linter.unusedSimpArgs false
namespace Go.Proofs.Ytlbonhloeefnmaa
open Go.RowKit

theorem sI_self {xs : List Int} {t : Int} (h0 : 0 ≤ t) (h : t < (xs.length : Int)) : sI xs t (gI xs t) = xs := by
  apply ext_gi (by rw [sI_len])
  intro j hj
  unfold sI gI
  rw [gi_set (by omega)]
  by_cases e : t.toNat = j
  · rw [if_pos e, e]
  · rw [if_neg e]
theorem mapLoop_key (n : Int) (h : Int → Int → Int) (L : Nat → Int → List Int → Int × List Int) (hL : ∀ r t xs, 0 ≤ t → (xs.length : Int) = n → L (r + 1) t xs = bif decide (t < n) then L r (t + 1) (sI xs t (h t (gI xs t))) else (t, xs)) (xs : List Int) :
    ∀ (k : Nat) (t : Int) (ys : List Int), 0 ≤ t → n - t = (k : Int) → (ys.length : Int) = n → (∀ j : Nat, (j : Int) < t → gI ys j = h j (gI xs j)) → (∀ j : Nat, t ≤ (j : Int) → gI ys j = gI xs j) →
    ((L (k + 1) t ys).2.length : Int) = n ∧ ∀ j : Nat, (j : Int) < n → gI (L (k + 1) t ys).2 j = h j (gI xs j) := by
  intro k
  induction k with
  | zero =>
    intro t ys h0 hk hl h1 h2
    rw [hL _ _ _ h0 hl, decide_eq_false (by omega), cond_false]
    exact ⟨hl, fun j hj => h1 j (by omega)⟩
  | succ k ih =>
    intro t ys h0 hk hl h1 h2
    rw [hL _ _ _ h0 hl, decide_eq_true (by omega), cond_true]
    have hs : ∀ j : Nat, gI (sI ys t (h t (gI ys t))) j = if t.toNat = j then h t (gI ys t) else gI ys j := fun j => by
      unfold sI
      show gi _ _ = _
      rw [gi_set (by omega), Int.toNat_natCast]; rfl
    refine ih (t + 1) _ (by omega) (by omega) (by rw [sI_len]; exact hl) (fun j hj => ?_) (fun j hj => ?_)
    · rw [hs]
      by_cases e : t.toNat = j
      · rw [if_pos e]
        have e2 : t = (j : Int) := by omega
        rw [e2, h2 j (by omega)]
      · rw [if_neg e]; exact h1 j (by omega)
    · rw [hs, if_neg (by omega)]; exact h2 j (by omega)
theorem mapLoop (n : Int) (h : Int → Int → Int) (L : Nat → Int → List Int → Int × List Int) (hL : ∀ r t xs, 0 ≤ t → (xs.length : Int) = n → L (r + 1) t xs = bif decide (t < n) then L r (t + 1) (sI xs t (h t (gI xs t))) else (t, xs)) (xs : List Int) (hl : (xs.length : Int) = n) :
    ((L (Int.toNat (n - 0) + 1) 0 xs).2.length : Int) = n ∧ ∀ j : Nat, (j : Int) < n → gI (L (Int.toNat (n - 0) + 1) 0 xs).2 j = h j (gI xs j) :=
  mapLoop_key n h L hL xs (Int.toNat (n - 0)) 0 xs (by omega) (by omega) hl (fun j hj => by omega) (fun _ _ => rfl)
theorem list_map_ext {xs : List Int} {n : Nat} {f : Nat → Int} (hl : xs.length = n) (h : ∀ j, j < n → gI xs (j : Int) = f j) : xs = (List.range n).map f := by
  rw [← map_gI xs, hl]
  exact List.map_congr_left fun j hj => h j (List.mem_range.1 hj)

def sumN (xs : List Int) : Nat := (xs.map Int.toNat).sum
theorem gI_cons (a : Int) (xs : List Int) (j : Nat) : gI (a :: xs) ((j + 1 : Nat) : Int) = gI xs (j : Int) := by
  unfold gI gi; rw [Int.toNat_natCast, Int.toNat_natCast]; rfl
theorem sumN_le : ∀ {xs ys : List Int}, ys.length = xs.length → (∀ j : Nat, j < xs.length → gI ys (j : Int) ≤ gI xs (j : Int)) → sumN ys ≤ sumN xs
  | [], [], _, _ => Nat.le_refl _
  | [], _ :: _, hl, _ => by simp at hl
  | _ :: _, [], hl, _ => by simp at hl
  | a :: xs, b :: ys, hl, h => by
    have h0 : b ≤ a := h 0 (by simp)
    have := sumN_le (xs := xs) (ys := ys) (by simpa using hl) fun j hj => by
      have := h (j + 1) (by simp; omega)
      rwa [gI_cons, gI_cons] at this
    unfold sumN at this ⊢
    rw [List.map_cons, List.map_cons, List.sum_cons, List.sum_cons]
    omega
theorem sumN_lt : ∀ {xs ys : List Int}, ys.length = xs.length → (∀ j : Nat, j < xs.length → 0 ≤ gI ys (j : Int) ∧ gI ys (j : Int) ≤ gI xs (j : Int)) → ys ≠ xs → sumN ys < sumN xs
  | [], [], _, _, hne => absurd rfl hne
  | [], _ :: _, hl, _, _ => by simp at hl
  | _ :: _, [], hl, _, _ => by simp at hl
  | a :: xs, b :: ys, hl, h, hne => by
    have h0 : 0 ≤ b ∧ b ≤ a := h 0 (by simp)
    have hr : ∀ j : Nat, j < xs.length → 0 ≤ gI ys (j : Int) ∧ gI ys (j : Int) ≤ gI xs (j : Int) := fun j hj => by
      have := h (j + 1) (by simp; omega)
      rwa [gI_cons, gI_cons] at this
    have hl' : ys.length = xs.length := by simpa using hl
    have hle := sumN_le hl' fun j hj => (hr j hj).2
    by_cases hb : b = a
    · have := sumN_lt hl' hr fun e => hne (by rw [hb, e])
      unfold sumN at this ⊢
      rw [List.map_cons, List.map_cons, List.sum_cons, List.sum_cons]
      omega
    · unfold sumN at hle ⊢
      rw [List.map_cons, List.map_cons, List.sum_cons, List.sum_cons]
      omega
theorem Mk.and {n : Nat} (hn : n ≤ 62) {a b : Int} (ha : Mk n a) (hb : Mk n b) : Mk n (andI a b) ∧ (∀ j, tb (andI a b) j = (tb a j && tb b j)) ∧ andI a b ≤ b := by
  have h1 := ha.sm hn
  have h2 := hb.sm hn
  obtain ⟨h3, h4, h5⟩ := andI_testBit ha.1 (by omega) hb.1 (by omega)
  refine ⟨Mk.ofBits h3 fun j hj => ?_, h5, (andI_le ha.1 (by omega) hb.1 (by omega)).2.2⟩
  have e : tb (andI a b) j = (tb a j && tb b j) := h5 j
  rw [e, Bool.and_eq_true] at hj
  exact tb_lt ha hj.1
theorem Mk.andz {n : Nat} (hn : n ≤ 62) {a b : Int} (ha : Mk n a) (hb : Mk n b) : andI a b = 0 ↔ ∀ j, tb a j = true → tb b j = false := by
  obtain ⟨h1, h2, _⟩ := Mk.and hn ha hb
  constructor
  · intro h j hj
    have := h2 j
    rw [h, tb_zero, hj, Bool.true_and] at this
    exact this.symm
  · intro h
    apply tb_ext h1.1 (by omega)
    intro j
    rw [tb_zero, h2 j]
    cases e : tb a j
    · rfl
    · rw [h j e]; rfl

def F_linkOf_L2b (np0 : Int) (holds : Int → Int → Bool) (t17 : Int) (rec : Int → (List Int) → Int × (List Int)) (t23L2 : Int) (out7L2 : List Int) : Int × (List Int) :=
  bif (decide (t23L2 < np0)) then (rec (t23L2 + 1) (bif (holds t17 t23L2) then sI out7L2 t17 (orI (gI out7L2 t17) (shlI 1 t23L2)) else out7L2)) else (t23L2, out7L2)
def F_linkOf_L2 (np0 : Int) (holds : Int → Int → Bool) (t17 : Int) : Nat → Int → (List Int) → Int × (List Int)
  | 0, t23L2, out7L2 => (t23L2, out7L2)
  | r + 1, t23L2, out7L2 => F_linkOf_L2b np0 holds t17 (F_linkOf_L2 np0 holds t17 r) t23L2 out7L2
def F_linkOf_L1b (mp0 : Int) (np0 : Int) (holds : Int → Int → Bool) (rec : Int → (List Int) → Int × (List Int)) (t17 : Int) (out7 : List Int) : Int × (List Int) :=
  bif (decide (t17 < mp0)) then (rec (t17 + 1) ((F_linkOf_L2 np0 holds t17 (Int.toNat (np0 - 0) + 1) 0 out7).2)) else (t17, out7)
def F_linkOf_L1 (mp0 : Int) (np0 : Int) (holds : Int → Int → Bool) : Nat → Int → (List Int) → Int × (List Int)
  | 0, t17, out7 => (t17, out7)
  | r + 1, t17, out7 => F_linkOf_L1b mp0 np0 holds (F_linkOf_L1 mp0 np0 holds r) t17 out7
def F_linkOf (mp0 : Int) (mp1 : List Int) (mp2 : List Int) (np0 : Int) (np1 : List Int) (np2 : List Int) (holds : Int → Int → Bool) : List Int :=
  (F_linkOf_L1 mp0 np0 holds (Int.toNat (mp0 - 0) + 1) 0 (List.replicate (Int.toNat mp0) 0)).2
theorem cf_linkOf (args : Array Value) (w : World) : (callFunc 151 args).run Try.prog w = .ok (.enter 151 args) w := by kernel_rfl
set_option maxRecDepth 100000 in
theorem c_linkOf (mp0 : Int) (mp1A : Option Addr) (mp1N mp1C : Nat) (mp1 : List Int) (mp2A : Option Addr) (mp2N mp2C : Nat) (mp2 : List Int) (np0 : Int) (np1A : Option Addr) (np1N np1C : Nat) (np1 : List Int) (np2A : Option Addr) (np2N np2C : Nat) (np2 : List Int) (holdsF : FuncId) (holdsC : List Value) (holds : Int → Int → Bool) (holdsD : Int → Int → Prop) (w : World) (mp1R : RdS w 1 mp1A mp1N mp1C mp1) (mp2R : RdS w 1 mp2A mp2N mp2C mp2) (np1R : RdS w 1 np1A np1N np1C np1) (np2R : RdS w 1 np2A np2N np2C np2) (holdsE : ∀ args w, (callFunc holdsF args).run Try.prog w = .ok (.enter holdsF args) w) (holdsH : ∀ (x0 : Int) (x1 : Int) (w' : World), holdsD x0 x1 → Ext w w' → Calls Try.prog holdsF (([.int .i64 x0, .int .i64 x1] ++ holdsC : List Value).toArray) w' (Ret fun v w'' => v = .bool (holds x0 x1) ∧ Ext w' w'')) (hm : 0 ≤ mp0 ∧ mp0 ≤ 8) (hn : 0 ≤ np0 ∧ np0 ≤ 8) (holdsDom : ∀ x y : Int, 0 ≤ x → x < mp0 → 0 ≤ y → y < np0 → holdsD x y) :
    Calls Try.prog 151 #[.agg #[.int .i64 mp0, .slice mp1A mp1N mp1C, .slice mp2A mp2N mp2C], .agg #[.int .i64 np0, .slice np1A np1N np1C, .slice np2A np2N np2C], .func (.func holdsF) #[] holdsC.toArray] w (Ret fun v w' => ∃ b1 : Option Addr, ∃ c1 : Nat, v = .slice b1 (F_linkOf mp0 mp1 mp2 np0 np1 np2 holds).length c1 ∧ OwnS w' w.heap.size 2 1 b1 (F_linkOf mp0 mp1 mp2 np0 np1 np2 holds).length c1 (F_linkOf mp0 mp1 mp2 np0 np1 np2 holds) ∧ Ext w w') := by
  obtain rfl : mp1N = mp1.length := mp1R.len1.symm
  have mp1Le := mp1R.le
  obtain rfl : mp2N = mp2.length := mp2R.len1.symm
  have mp2Le := mp2R.le
  obtain rfl : np1N = np1.length := np1R.len1.symm
  have np1Le := np1R.le
  obtain rfl : np2N = np2.length := np2R.len1.symm
  have np2Le := np2R.le
  have hS := St.nil w
  have hS1 := St.rd0 hS rfl mp1R; clear hS
  have hS2 := St.rd0 hS1 rfl mp2R; clear hS1
  have hS3 := St.rd0 hS2 rfl np1R; clear hS2
  have hS4 := St.rd0 hS3 rfl np2R; clear hS3
  refine enter (args := [.agg #[.int .i64 mp0, .slice mp1A mp1.length mp1C, .slice mp2A mp2.length mp2C], .agg #[.int .i64 np0, .slice np1A np1.length np1C, .slice np2A np2.length np2C], .func (.func holdsF) #[] holdsC.toArray]) Try.func151 rfl rfl ?_
  rw [Try.ntmps151]; intro a hE
  have hE := hE.sub (L' := [(0, .agg #[.int .i64 mp0, .slice mp1A mp1.length mp1C, .slice mp2A mp2.length mp2C]), (1, .agg #[.int .i64 np0, .slice np1A np1.length np1C, .slice np2A np2.length np2C]), (2, .func (.func holdsF) #[] holdsC.toArray)]) ⟨rfl, rfl, rfl, trivial⟩
  refine c_seq ?_
  refine c_reg ?_
  refine l_step hE rfl (l_box (v := .agg #[.int .i64 mp0, .slice mp1A mp1.length mp1C, .slice mp2A mp2.length mp2C]) (cs := #[.int .i64 mp0, .slice mp1A mp1.length mp1C, .slice mp2A mp2.length mp2C]) hS4 hE rfl rfl rfl ?_)
  intro b5 w6 hS9 he10 a7 hE8; clear hS4 hE
  refine l_step hE8 rfl (l_box (v := .agg #[.int .i64 np0, .slice np1A np1.length np1C, .slice np2A np2.length np2C]) (cs := #[.int .i64 np0, .slice np1A np1.length np1C, .slice np2A np2.length np2C]) hS9 hE8 rfl rfl rfl ?_)
  intro b11 w12 hS15 he16 a13 hE14; clear hS9 hE8
  refine q_step (v := .slice none 0 0) hE14 (y_assign rfl) rfl rfl rfl ?_; intro a17 hE18; clear hE14
  refine c_nil ?_
  have hE19 := hE18.sub (L' := [(2, .func (.func holdsF) #[] holdsC.toArray), (3, .pointer (some ⟨b5, 0, none⟩)), (4, .pointer (some ⟨b11, 0, none⟩))]) ⟨rfl, rfl, rfl, trivial⟩; clear hE18
  refine p_tn ?_
  refine c_seq ?_
  refine c_reg ?_
  refine q_step (v := .pointer (some ⟨b5, 0, none⟩)) hE19 (y_field rfl (fun _ => by kernel_rfl)) rfl rfl rfl ?_; intro a20 hE21; clear hE19
  refine q_step (v := .pointer (some ⟨b5, 0, none⟩)) hE21 (y_field rfl (fun _ => by kernel_rfl)) rfl rfl rfl ?_; intro a22 hE23; clear hE21
  refine q_step (v := .int .i64 mp0) hE23 (y_load (fun _ => by kernel_rfl) rfl (St.cell (i := 1) hS15 rfl rfl)) rfl rfl rfl ?_; intro a24 hE25; clear hE23
  refine l_step hE25 rfl (l_make (e := 2) (m := mp0) hS15 hE25 (by kernel_rfl) (by kernel_rfl) rfl rfl (by omega) (by omega) rfl ?_)
  intro b26 w27 hS30 he31 a28 hE29; clear hS15 hE25
  refine q_step (v := .slice b26 (Int.toNat mp0) (Int.toNat mp0)) hE29 (y_assign rfl) rfl rfl rfl ?_; intro a32 hE33; clear hE29
  refine c_nil ?_
  have hE34 := hE33.sub (L' := [(2, .func (.func holdsF) #[] holdsC.toArray), (3, .pointer (some ⟨b5, 0, none⟩)), (4, .pointer (some ⟨b11, 0, none⟩)), (7, .slice b26 (Int.toNat mp0) (Int.toNat mp0))]) ⟨rfl, rfl, rfl, rfl, trivial⟩; clear hE33
  refine p_tn ?_
  refine c_seq ?_
  refine c_seq ?_
  refine c_reg ?_
  refine q_step (v := .pointer (some ⟨b5, 0, none⟩)) hE34 (y_field rfl (fun _ => by kernel_rfl)) rfl rfl rfl ?_; intro a35 hE36; clear hE34
  refine q_step (v := .pointer (some ⟨b5, 0, none⟩)) hE36 (y_field rfl (fun _ => by kernel_rfl)) rfl rfl rfl ?_; intro a37 hE38; clear hE36
  refine q_step (v := .int .i64 mp0) hE38 (y_load (fun _ => by kernel_rfl) rfl (St.cell (i := 2) hS30 rfl rfl)) rfl rfl rfl ?_; intro a39 hE40; clear hE38
  refine q_step (v := .int .i64 0) hE40 (y_move rfl) rfl rfl rfl ?_; intro a41 hE42; clear hE40
  refine c_nil ?_
  have hE43 := hE42.sub (L' := [(2, .func (.func holdsF) #[] holdsC.toArray), (4, .pointer (some ⟨b11, 0, none⟩)), (7, .slice b26 (Int.toNat mp0) (Int.toNat mp0)), (16, .int .i64 mp0), (17, .int .i64 0)]) ⟨rfl, rfl, rfl, rfl, rfl, trivial⟩; clear hE42
  refine p_tn ?_
  refine c_cut1 (fun a' w' => (0 ≤ ((F_linkOf_L1 mp0 np0 holds (Int.toNat (mp0 - 0) + 1) 0 (List.replicate (Int.toNat mp0) 0)).1)) ∧ ((((F_linkOf_L1 mp0 np0 holds (Int.toNat (mp0 - 0) + 1) 0 (List.replicate (Int.toNat mp0) 0)).2).length : Int) = mp0) ∧ E a' 41 [(2, .func (.func holdsF) #[] holdsC.toArray), (4, .pointer (some ⟨b11, 0, none⟩)), (7, .slice b26 (Int.toNat mp0) (Int.toNat mp0)), (16, .int .i64 mp0), (17, .int .i64 ((F_linkOf_L1 mp0 np0 holds (Int.toNat (mp0 - 0) + 1) 0 (List.replicate (Int.toNat mp0) 0)).1))] ∧ St w w' [.own 2 1 b26 (Int.toNat mp0) (Int.toNat mp0) ((F_linkOf_L1 mp0 np0 holds (Int.toNat (mp0 - 0) + 1) 0 (List.replicate (Int.toNat mp0) 0)).2), .blk b11 #[.int .i64 np0, .slice np1A np1.length np1C, .slice np2A np2.length np2C] 32, .blk b5 #[.int .i64 mp0, .slice mp1A mp1.length mp1C, .slice mp2A mp2.length mp2C] 32, .rd 1 np2A np2.length np2C np2, .rd 1 np1A np1.length np1C np1, .rd 1 mp2A mp2.length mp2C mp2, .rd 1 mp1A mp1.length mp1C mp1]) ?_ ?_
  ·
    refine wp_block ?_
    refine c_loop (fun r a' w' => ∃ t17 : Int, ∃ out7 : List Int, F_linkOf_L1 mp0 np0 holds r t17 out7 = F_linkOf_L1 mp0 np0 holds (Int.toNat (mp0 - 0) + 1) 0 (List.replicate (Int.toNat mp0) 0) ∧ Int.toNat (mp0 - t17) < r ∧ (0 ≤ t17) ∧ ((out7.length : Int) = mp0) ∧ E a' 41 [(2, .func (.func holdsF) #[] holdsC.toArray), (4, .pointer (some ⟨b11, 0, none⟩)), (7, .slice b26 (Int.toNat mp0) (Int.toNat mp0)), (16, .int .i64 mp0), (17, .int .i64 t17)] ∧ St w w' [.own 2 1 b26 (Int.toNat mp0) (Int.toNat mp0) out7, .blk b11 #[.int .i64 np0, .slice np1A np1.length np1C, .slice np2A np2.length np2C] 32, .blk b5 #[.int .i64 mp0, .slice mp1A mp1.length mp1C, .slice mp2A mp2.length mp2C] 32, .rd 1 np2A np2.length np2C np2, .rd 1 np1A np1.length np1C np1, .rd 1 mp2A mp2.length mp2C mp2, .rd 1 mp1A mp1.length mp1C mp1]) (r := (Int.toNat (mp0 - 0) + 1)) ?_ ?_
    · exact ⟨0, List.replicate (Int.toNat mp0) 0, rfl, Nat.lt_succ_self _, (by first | omega | (simp only [sS_len, sL_len]; omega) | (simp only [List.length_replicate, sI_len]; omega) | (simp only [List.length_append, List.length_cons, List.length_nil, sI_len, cond_true, cond_false]; omega) | (simp only [List.length_append, List.length_cons, List.length_nil, sI_len, cond_eq_ite, apply_ite List.length]; split <;> simp only [List.length_append, List.length_cons, List.length_nil, sI_len] <;> omega) | grind), (by first | omega | (simp only [sS_len, sL_len]; omega) | (simp only [List.length_replicate, sI_len]; omega) | (simp only [List.length_append, List.length_cons, List.length_nil, sI_len, cond_true, cond_false]; omega) | (simp only [List.length_append, List.length_cons, List.length_nil, sI_len, cond_eq_ite, apply_ite List.length]; split <;> simp only [List.length_append, List.length_cons, List.length_nil, sI_len] <;> omega) | grind), (hE43.sub (L' := [(2, .func (.func holdsF) #[] holdsC.toArray), (4, .pointer (some ⟨b11, 0, none⟩)), (7, .slice b26 (Int.toNat mp0) (Int.toNat mp0)), (16, .int .i64 mp0), (17, .int .i64 0)]) ⟨rfl, rfl, rfl, rfl, rfl, trivial⟩), (St.pick (Γ' := [.own 2 1 b26 (Int.toNat mp0) (Int.toNat mp0) (List.replicate (Int.toNat mp0) 0), .blk b11 #[.int .i64 np0, .slice np1A np1.length np1C, .slice np2A np2.length np2C] 32, .blk b5 #[.int .i64 mp0, .slice mp1A mp1.length mp1C, .slice mp2A mp2.length mp2C] 32, .rd 1 np2A np2.length np2C np2, .rd 1 np1A np1.length np1C np1, .rd 1 mp2A mp2.length mp2C mp2, .rd 1 mp1A mp1.length mp1C mp1]) hS30 [0, 1, 2, 3, 4, 5, 6] (by decide) rfl)⟩
    ·
      clear hE43 hS30
      rintro r53 a45 w46 ⟨t17, out7, hT49, hr50, hi51, hi52, hE47, hS48⟩
      obtain ⟨r53, rfl⟩ : ∃ r', r53 = r' + 1 := ⟨r53 - 1, by omega⟩
      refine c_seq ?_
      refine c_reg ?_
      refine q_step (v := .bool (decide (t17 < mp0))) hE47 (y_lss rfl rfl) rfl rfl rfl ?_; intro a54 hE55; clear hE47
      refine c_nil ?_
      have hE56 := hE55.sub (L' := [(2, .func (.func holdsF) #[] holdsC.toArray), (4, .pointer (some ⟨b11, 0, none⟩)), (7, .slice b26 (Int.toNat mp0) (Int.toNat mp0)), (16, .int .i64 mp0), (17, .int .i64 t17), (18, .bool (decide (t17 < mp0)))]) ⟨rfl, rfl, rfl, rfl, rfl, rfl, trivial⟩; clear hE55
      refine p_tn ?_
      refine c_seq ?_
      refine c_cond hE56 rfl (fun ht57 => ?_) (fun ht57 => ?_)
      ·
        have hp58 := of_decide_eq_true ht57
        have hE59 := hE56; rw [ht57] at hE59; clear hE56
        refine wp_skip ?_
        refine p_tn ?_
        refine c_seq ?_
        refine wp_block ?_
        refine c_seq ?_
        refine c_reg ?_
        refine q_step (v := .int .i64 t17) hE59 (y_move rfl) rfl rfl rfl ?_; intro a60 hE61; clear hE59
        refine q_step (v := .int .i64 t17) hE61 (y_assign rfl) rfl rfl rfl ?_; intro a62 hE63; clear hE61
        refine c_nil ?_
        have hE64 := hE63.sub (L' := [(2, .func (.func holdsF) #[] holdsC.toArray), (4, .pointer (some ⟨b11, 0, none⟩)), (7, .slice b26 (Int.toNat mp0) (Int.toNat mp0)), (8, .int .i64 t17), (16, .int .i64 mp0), (17, .int .i64 t17)]) ⟨rfl, rfl, rfl, rfl, rfl, rfl, trivial⟩; clear hE63
        refine p_tn ?_
        refine c_seq ?_
        refine c_reg ?_
        refine q_step (v := .pointer (some ⟨b11, 0, none⟩)) hE64 (y_field rfl (fun _ => by kernel_rfl)) rfl rfl rfl ?_; intro a65 hE66; clear hE64
        refine q_step (v := .pointer (some ⟨b11, 0, none⟩)) hE66 (y_field rfl (fun _ => by kernel_rfl)) rfl rfl rfl ?_; intro a67 hE68; clear hE66
        refine q_step (v := .int .i64 np0) hE68 (y_load (fun _ => by kernel_rfl) rfl (St.cell (i := 1) hS48 rfl rfl)) rfl rfl rfl ?_; intro a69 hE70; clear hE68
        refine q_step (v := .int .i64 0) hE70 (y_move rfl) rfl rfl rfl ?_; intro a71 hE72; clear hE70
        refine c_nil ?_
        have hE73 := hE72.sub (L' := [(2, .func (.func holdsF) #[] holdsC.toArray), (4, .pointer (some ⟨b11, 0, none⟩)), (7, .slice b26 (Int.toNat mp0) (Int.toNat mp0)), (8, .int .i64 t17), (16, .int .i64 mp0), (17, .int .i64 t17), (22, .int .i64 np0), (23, .int .i64 0)]) ⟨rfl, rfl, rfl, rfl, rfl, rfl, rfl, rfl, trivial⟩; clear hE72
        refine p_tn ?_
        refine c_cut1 (fun a' w' => (0 ≤ ((F_linkOf_L2 np0 holds t17 (Int.toNat (np0 - 0) + 1) 0 out7).1)) ∧ ((((F_linkOf_L2 np0 holds t17 (Int.toNat (np0 - 0) + 1) 0 out7).2).length : Int) = mp0) ∧ E a' 41 [(2, .func (.func holdsF) #[] holdsC.toArray), (4, .pointer (some ⟨b11, 0, none⟩)), (7, .slice b26 (Int.toNat mp0) (Int.toNat mp0)), (8, .int .i64 t17), (16, .int .i64 mp0), (17, .int .i64 t17), (22, .int .i64 np0), (23, .int .i64 ((F_linkOf_L2 np0 holds t17 (Int.toNat (np0 - 0) + 1) 0 out7).1))] ∧ St w w' [.own 2 1 b26 (Int.toNat mp0) (Int.toNat mp0) ((F_linkOf_L2 np0 holds t17 (Int.toNat (np0 - 0) + 1) 0 out7).2), .blk b11 #[.int .i64 np0, .slice np1A np1.length np1C, .slice np2A np2.length np2C] 32, .blk b5 #[.int .i64 mp0, .slice mp1A mp1.length mp1C, .slice mp2A mp2.length mp2C] 32, .rd 1 np2A np2.length np2C np2, .rd 1 np1A np1.length np1C np1, .rd 1 mp2A mp2.length mp2C mp2, .rd 1 mp1A mp1.length mp1C mp1]) ?_ ?_
        ·
          refine wp_block ?_
          refine c_loop (fun r a' w' => ∃ t23L2 : Int, ∃ out7L2 : List Int, F_linkOf_L2 np0 holds t17 r t23L2 out7L2 = F_linkOf_L2 np0 holds t17 (Int.toNat (np0 - 0) + 1) 0 out7 ∧ Int.toNat (np0 - t23L2) < r ∧ (0 ≤ t23L2) ∧ ((out7L2.length : Int) = mp0) ∧ E a' 41 [(2, .func (.func holdsF) #[] holdsC.toArray), (4, .pointer (some ⟨b11, 0, none⟩)), (7, .slice b26 (Int.toNat mp0) (Int.toNat mp0)), (8, .int .i64 t17), (16, .int .i64 mp0), (17, .int .i64 t17), (22, .int .i64 np0), (23, .int .i64 t23L2)] ∧ St w w' [.own 2 1 b26 (Int.toNat mp0) (Int.toNat mp0) out7L2, .blk b11 #[.int .i64 np0, .slice np1A np1.length np1C, .slice np2A np2.length np2C] 32, .blk b5 #[.int .i64 mp0, .slice mp1A mp1.length mp1C, .slice mp2A mp2.length mp2C] 32, .rd 1 np2A np2.length np2C np2, .rd 1 np1A np1.length np1C np1, .rd 1 mp2A mp2.length mp2C mp2, .rd 1 mp1A mp1.length mp1C mp1]) (r := (Int.toNat (np0 - 0) + 1)) ?_ ?_
          · exact ⟨0, out7, rfl, Nat.lt_succ_self _, (by first | omega | (simp only [sS_len, sL_len]; omega) | (simp only [List.length_replicate, sI_len]; omega) | (simp only [List.length_append, List.length_cons, List.length_nil, sI_len, cond_true, cond_false]; omega) | (simp only [List.length_append, List.length_cons, List.length_nil, sI_len, cond_eq_ite, apply_ite List.length]; split <;> simp only [List.length_append, List.length_cons, List.length_nil, sI_len] <;> omega) | grind), (by first | omega | (simp only [sS_len, sL_len]; omega) | (simp only [List.length_replicate, sI_len]; omega) | (simp only [List.length_append, List.length_cons, List.length_nil, sI_len, cond_true, cond_false]; omega) | (simp only [List.length_append, List.length_cons, List.length_nil, sI_len, cond_eq_ite, apply_ite List.length]; split <;> simp only [List.length_append, List.length_cons, List.length_nil, sI_len] <;> omega) | grind), (hE73.sub (L' := [(2, .func (.func holdsF) #[] holdsC.toArray), (4, .pointer (some ⟨b11, 0, none⟩)), (7, .slice b26 (Int.toNat mp0) (Int.toNat mp0)), (8, .int .i64 t17), (16, .int .i64 mp0), (17, .int .i64 t17), (22, .int .i64 np0), (23, .int .i64 0)]) ⟨rfl, rfl, rfl, rfl, rfl, rfl, rfl, rfl, trivial⟩), (St.pick (Γ' := [.own 2 1 b26 (Int.toNat mp0) (Int.toNat mp0) out7, .blk b11 #[.int .i64 np0, .slice np1A np1.length np1C, .slice np2A np2.length np2C] 32, .blk b5 #[.int .i64 mp0, .slice mp1A mp1.length mp1C, .slice mp2A mp2.length mp2C] 32, .rd 1 np2A np2.length np2C np2, .rd 1 np1A np1.length np1C np1, .rd 1 mp2A mp2.length mp2C mp2, .rd 1 mp1A mp1.length mp1C mp1]) hS48 [0, 1, 2, 3, 4, 5, 6] (by decide) rfl)⟩
          ·
            clear hE73 hS48
            rintro r83 a75 w76 ⟨t23L2, out7L2, hT79, hr80, hi81, hi82, hE77, hS78⟩
            obtain ⟨r83, rfl⟩ : ∃ r', r83 = r' + 1 := ⟨r83 - 1, by omega⟩
            refine c_seq ?_
            refine c_reg ?_
            refine q_step (v := .bool (decide (t23L2 < np0))) hE77 (y_lss rfl rfl) rfl rfl rfl ?_; intro a84 hE85; clear hE77
            refine c_nil ?_
            have hE86 := hE85.sub (L' := [(2, .func (.func holdsF) #[] holdsC.toArray), (4, .pointer (some ⟨b11, 0, none⟩)), (7, .slice b26 (Int.toNat mp0) (Int.toNat mp0)), (8, .int .i64 t17), (16, .int .i64 mp0), (17, .int .i64 t17), (22, .int .i64 np0), (23, .int .i64 t23L2), (24, .bool (decide (t23L2 < np0)))]) ⟨rfl, rfl, rfl, rfl, rfl, rfl, rfl, rfl, rfl, trivial⟩; clear hE85
            refine p_tn ?_
            refine c_seq ?_
            refine c_cond hE86 rfl (fun ht87 => ?_) (fun ht87 => ?_)
            ·
              have hp88 := of_decide_eq_true ht87
              have hE89 := hE86; rw [ht87] at hE89; clear hE86
              refine wp_skip ?_
              refine p_tn ?_
              refine c_cut (fun a' w' => E a' 41 [(2, .func (.func holdsF) #[] holdsC.toArray), (4, .pointer (some ⟨b11, 0, none⟩)), (7, .slice b26 (Int.toNat mp0) (Int.toNat mp0)), (8, .int .i64 t17), (16, .int .i64 mp0), (17, .int .i64 t17), (22, .int .i64 np0), (23, .int .i64 t23L2)] ∧ St w w' [.own 2 1 b26 (Int.toNat mp0) (Int.toNat mp0) (bif (holds t17 t23L2) then sI out7L2 t17 (orI (gI out7L2 t17) (shlI 1 t23L2)) else out7L2), .rd 1 np1A np1.length np1C np1, .rd 1 np2A np2.length np2C np2, .blk b11 #[.int .i64 np0, .slice np1A np1.length np1C, .slice np2A np2.length np2C] 32, .rd 1 mp1A mp1.length mp1C mp1, .rd 1 mp2A mp2.length mp2C mp2, .blk b5 #[.int .i64 mp0, .slice mp1A mp1.length mp1C, .slice mp2A mp2.length mp2C] 32]) ?_ ?_
              ·
                refine wp_block ?_
                refine c_seq ?_
                refine c_reg ?_
                refine q_step (v := .int .i64 t23L2) hE89 (y_move rfl) rfl rfl rfl ?_; intro a90 hE91; clear hE89
                refine q_step (v := .int .i64 t23L2) hE91 (y_assign rfl) rfl rfl rfl ?_; intro a92 hE93; clear hE91
                refine c_nil ?_
                have hE94 := hE93.sub (L' := [(2, .func (.func holdsF) #[] holdsC.toArray), (4, .pointer (some ⟨b11, 0, none⟩)), (7, .slice b26 (Int.toNat mp0) (Int.toNat mp0)), (8, .int .i64 t17), (9, .int .i64 t23L2), (16, .int .i64 mp0), (17, .int .i64 t17), (22, .int .i64 np0), (23, .int .i64 t23L2)]) ⟨rfl, rfl, rfl, rfl, rfl, rfl, rfl, rfl, rfl, trivial⟩; clear hE93
                refine p_tn ?_
                refine c_seq ?_
                refine c_reg ?_
                refine q_step (v := .func (.func holdsF) #[] holdsC.toArray) hE94 (y_move rfl) rfl rfl rfl ?_; intro a95 hE96; clear hE94
                refine q_step (v := .int .i64 t17) hE96 (y_move rfl) rfl rfl rfl ?_; intro a97 hE98; clear hE96
                refine q_step (v := .int .i64 t23L2) hE98 (y_move rfl) rfl rfl rfl ?_; intro a99 hE100; clear hE98
                refine l_step hE100 rfl (l_callv (f := holdsF) (caps := holdsC) (argv := [.int .i64 t17, .int .i64 t23L2]) hE100 rfl (fun _ => holdsE _ _) rfl rfl (holdsH t17 t23L2 w76 (holdsDom t17 t23L2 (by omega) (by omega) (by omega) (by omega)) hS78.ext) ?_)
                rintro _ w102 ⟨rfl, he106⟩ a103 hE104; clear hE100
                have hS105 := St.go hS78 he106; clear hS78
                refine c_nil ?_
                have hE107 := hE104.sub (L' := [(2, .func (.func holdsF) #[] holdsC.toArray), (4, .pointer (some ⟨b11, 0, none⟩)), (7, .slice b26 (Int.toNat mp0) (Int.toNat mp0)), (8, .int .i64 t17), (9, .int .i64 t23L2), (16, .int .i64 mp0), (17, .int .i64 t17), (22, .int .i64 np0), (23, .int .i64 t23L2), (29, .bool (holds t17 t23L2))]) ⟨rfl, rfl, rfl, rfl, rfl, rfl, rfl, rfl, rfl, rfl, trivial⟩; clear hE104
                refine p_tn ?_
                refine c_cond hE107 rfl (fun ht108 => ?_) (fun ht108 => ?_)
                ·
                  have hE109 := hE107; rw [ht108] at hE109; clear hE107
                  refine d_start (fun w w' => (fun w' => w'.cell? (adr b26 (Int.toNat t17)) = some (.int .i64 (gI out7L2 t17)) ∧ True) w → (fun w' => w'.cell? (adr b26 (Int.toNat t17)) = some (.int .i64 (gI out7L2 t17)) ∧ True) w') [3] 9 (by kernel_rfl) rfl ?_
                  intro w110 he111; have hS112 := St.go hS105 he111; clear hS105
                  refine d_pure (fun _ h => h) (v := .slice b26 (Int.toNat mp0) (Int.toNat mp0)) 0 rfl hE109 (y_move rfl) rfl (by kernel_rfl) (by kernel_rfl) (by kernel_rfl) rfl rfl (fun _ _ _ h => h) ?_; intro a113 hE114; clear hE109
                  refine d_pure (fun _ h => h) (v := .int .i64 t17) 1 rfl hE114 (y_move rfl) rfl (by kernel_rfl) (by kernel_rfl) (by kernel_rfl) rfl rfl (fun _ _ _ h => h) ?_; intro a115 hE116; clear hE114
                  refine d_pure (fun _ h => h) (v := .pointer (some (adr b26 (Int.toNat t17)))) 2 rfl hE116 (y_idx (by kernel_rfl) (fun _ => by kernel_rfl) rfl rfl (RdS.isS (m := t17) (St.rdO (i := 0) hS112 rfl) (by omega) (by omega)) (by omega) (by omega) (Nat.mul_one _).symm) rfl (by kernel_rfl) (by kernel_rfl) (by kernel_rfl) rfl rfl (fun _ _ _ h => h) ?_; intro a117 hE118; clear hE116
                  refine d_take (fun _ h => h) (fun _ _ h k => h k) (v := .int .i64 (gI out7L2 t17)) 3 rfl hE118 (S := fun w' => w'.cell? (adr b26 (Int.toNat t17)) = some (.int .i64 (gI out7L2 t17)) ∧ True) ⟨(RdS.elt (St.rdO (i := 0) hS112 rfl) (by omega) (by omega) _ (Ext.refl _)), trivial⟩ (y_load (fun _ => by kernel_rfl) rfl (fun _ h => h.1)) rfl rfl (by kernel_rfl) (by kernel_rfl) (by kernel_rfl) (by kernel_rfl) rfl rfl (fun _ _ _ h => h) ?_; intro a119 hE120; clear hE118
                  refine d_pure (fun _ h => h) (v := .int .i64 t23L2) 4 rfl hE120 (y_move rfl) rfl (by kernel_rfl) (by kernel_rfl) (by kernel_rfl) rfl rfl (fun _ _ _ h => h) ?_; intro a121 hE122; clear hE120
                  refine d_pure (fun _ h => h) (v := .int .i64 (shlI 1 t23L2)) 5 rfl hE122 (y_shl rfl rfl (by omega)) rfl (by kernel_rfl) (by kernel_rfl) (by kernel_rfl) rfl rfl (fun _ _ _ h => h) ?_; intro a123 hE124; clear hE122
                  refine d_pure (fun _ h => h) (v := .int .i64 (orI (gI out7L2 t17) (shlI 1 t23L2))) 6 rfl hE124 (y_or rfl rfl) rfl (by kernel_rfl) (by kernel_rfl) (by kernel_rfl) rfl rfl (fun _ _ _ h => h) ?_; intro a125 hE126; clear hE124
                  refine d_pure (fun _ h => h) (v := .pointer (some (adr b26 (Int.toNat t17)))) 7 rfl hE126 (y_idx (by kernel_rfl) (fun _ => by kernel_rfl) rfl rfl (RdS.isS (m := t17) (St.rdO (i := 0) hS112 rfl) (by omega) (by omega)) (by omega) (by omega) (Nat.mul_one _).symm) rfl (by kernel_rfl) (by kernel_rfl) (by kernel_rfl) rfl rfl (fun _ _ _ h => h) ?_; intro a127 hE128; clear hE126
                  refine d_only 8 (by kernel_rfl) rfl hE128 rfl (l_store (k := 0) hS112 hE128 (fun _ => by kernel_rfl) rfl rfl rfl (by omega) (by omega) ?_)
                  intro w130 hS133 a131 hE132; clear hS112 hE128
                  refine ⟨fun h => Bool.noConfusion (h.symm.trans (show exm _ _ _ = true by kernel_rfl)), ?_⟩
                  refine d_done (by kernel_rfl) ?_
                  have hE135 := hE132.sub (L' := [(2, .func (.func holdsF) #[] holdsC.toArray), (4, .pointer (some ⟨b11, 0, none⟩)), (7, .slice b26 (Int.toNat mp0) (Int.toNat mp0)), (8, .int .i64 t17), (16, .int .i64 mp0), (17, .int .i64 t17), (22, .int .i64 np0), (23, .int .i64 t23L2)]) ⟨rfl, rfl, rfl, rfl, rfl, rfl, rfl, rfl, trivial⟩; clear hE132
                  refine p_bn ?_
                  refine p_tn ?_
                  have hE136 := hE135.sub (L' := [(2, .func (.func holdsF) #[] holdsC.toArray), (4, .pointer (some ⟨b11, 0, none⟩)), (7, .slice b26 (Int.toNat mp0) (Int.toNat mp0)), (8, .int .i64 t17), (16, .int .i64 mp0), (17, .int .i64 t17), (22, .int .i64 np0), (23, .int .i64 t23L2)]) ⟨rfl, rfl, rfl, rfl, rfl, rfl, rfl, rfl, trivial⟩
                  have hS137 := (St.pick (Γ' := [.own 2 1 b26 (Int.toNat mp0) (Int.toNat mp0) (sI out7L2 t17 (orI (gI out7L2 t17) (shlI 1 t23L2))), .rd 1 np1A np1.length np1C np1, .rd 1 np2A np2.length np2C np2, .blk b11 #[.int .i64 np0, .slice np1A np1.length np1C, .slice np2A np2.length np2C] 32, .rd 1 mp1A mp1.length mp1C mp1, .rd 1 mp2A mp2.length mp2C mp2, .blk b5 #[.int .i64 mp0, .slice mp1A mp1.length mp1C, .slice mp2A mp2.length mp2C] 32]) hS133 [0, 4, 3, 1, 6, 5, 2] (by decide) rfl)
                  exact ⟨hE136, (by rw [ht108]; exact hS137)⟩
                ·
                  have hE138 := hE107; rw [ht108] at hE138; clear hE107
                  refine wp_skip ?_
                  refine p_bn ?_
                  refine p_tn ?_
                  have hE139 := hE138.sub (L' := [(2, .func (.func holdsF) #[] holdsC.toArray), (4, .pointer (some ⟨b11, 0, none⟩)), (7, .slice b26 (Int.toNat mp0) (Int.toNat mp0)), (8, .int .i64 t17), (16, .int .i64 mp0), (17, .int .i64 t17), (22, .int .i64 np0), (23, .int .i64 t23L2)]) ⟨rfl, rfl, rfl, rfl, rfl, rfl, rfl, rfl, trivial⟩
                  have hS140 := (St.pick (Γ' := [.own 2 1 b26 (Int.toNat mp0) (Int.toNat mp0) out7L2, .rd 1 np1A np1.length np1C np1, .rd 1 np2A np2.length np2C np2, .blk b11 #[.int .i64 np0, .slice np1A np1.length np1C, .slice np2A np2.length np2C] 32, .rd 1 mp1A mp1.length mp1C mp1, .rd 1 mp2A mp2.length mp2C mp2, .blk b5 #[.int .i64 mp0, .slice mp1A mp1.length mp1C, .slice mp2A mp2.length mp2C] 32]) hS105 [0, 4, 3, 1, 6, 5, 2] (by decide) rfl)
                  exact ⟨hE139, (by rw [ht108]; exact hS140)⟩
              ·
                rintro a141 w142 ⟨hE143, hS144⟩; clear hE89 hS78
                refine c_reg ?_
                refine q_step (v := .int .i64 (t23L2 + 1)) hE143 (y_add rfl rfl ⟨(by omega), (by omega)⟩) rfl rfl rfl ?_; intro a146 hE147; clear hE143
                refine q_step (v := .int .i64 (t23L2 + 1)) hE147 (y_move rfl) rfl rfl rfl ?_; intro a148 hE149; clear hE147
                refine c_nil ?_
                have hE150 := hE149.sub (L' := [(2, .func (.func holdsF) #[] holdsC.toArray), (4, .pointer (some ⟨b11, 0, none⟩)), (7, .slice b26 (Int.toNat mp0) (Int.toNat mp0)), (8, .int .i64 t17), (16, .int .i64 mp0), (17, .int .i64 t17), (22, .int .i64 np0), (23, .int .i64 (t23L2 + 1))]) ⟨rfl, rfl, rfl, rfl, rfl, rfl, rfl, rfl, trivial⟩; clear hE149
                have hl151 := (St.rdO (i := 0) hS144 rfl).len1
                refine p_tn ⟨r83, Nat.lt_succ_self _, t23L2 + 1, bif (holds t17 t23L2) then sI out7L2 t17 (orI (gI out7L2 t17) (shlI 1 t23L2)) else out7L2, (hT79.symm.trans (show F_linkOf_L2b np0 holds t17 (F_linkOf_L2 np0 holds t17 r83) t23L2 out7L2 = F_linkOf_L2 np0 holds t17 r83 (t23L2 + 1) (bif (holds t17 t23L2) then sI out7L2 t17 (orI (gI out7L2 t17) (shlI 1 t23L2)) else out7L2) by unfold F_linkOf_L2b; rw [ht87]; first | done | rfl)).symm, (by omega), (by first | omega | (simp only [sS_len, sL_len]; omega) | (simp only [List.length_replicate, sI_len]; omega) | (simp only [List.length_append, List.length_cons, List.length_nil, sI_len, cond_true, cond_false]; omega) | (simp only [List.length_append, List.length_cons, List.length_nil, sI_len, cond_eq_ite, apply_ite List.length]; split <;> simp only [List.length_append, List.length_cons, List.length_nil, sI_len] <;> omega) | grind), (by first | omega | (simp only [sS_len, sL_len]; omega) | (simp only [List.length_replicate, sI_len]; omega) | (simp only [List.length_append, List.length_cons, List.length_nil, sI_len, cond_true, cond_false]; omega) | (simp only [List.length_append, List.length_cons, List.length_nil, sI_len, cond_eq_ite, apply_ite List.length]; split <;> simp only [List.length_append, List.length_cons, List.length_nil, sI_len] <;> omega) | grind), (hE150.sub (L' := [(2, .func (.func holdsF) #[] holdsC.toArray), (4, .pointer (some ⟨b11, 0, none⟩)), (7, .slice b26 (Int.toNat mp0) (Int.toNat mp0)), (8, .int .i64 t17), (16, .int .i64 mp0), (17, .int .i64 t17), (22, .int .i64 np0), (23, .int .i64 (t23L2 + 1))]) ⟨rfl, rfl, rfl, rfl, rfl, rfl, rfl, rfl, trivial⟩), (St.pick (Γ' := [.own 2 1 b26 (Int.toNat mp0) (Int.toNat mp0) (bif (holds t17 t23L2) then sI out7L2 t17 (orI (gI out7L2 t17) (shlI 1 t23L2)) else out7L2), .blk b11 #[.int .i64 np0, .slice np1A np1.length np1C, .slice np2A np2.length np2C] 32, .blk b5 #[.int .i64 mp0, .slice mp1A mp1.length mp1C, .slice mp2A mp2.length mp2C] 32, .rd 1 np2A np2.length np2C np2, .rd 1 np1A np1.length np1C np1, .rd 1 mp2A mp2.length mp2C mp2, .rd 1 mp1A mp1.length mp1C mp1]) hS144 [0, 3, 6, 2, 1, 5, 4] (by decide) rfl)⟩
            ·
              have hp152 := of_decide_eq_false ht87
              have hE153 := hE86; rw [ht87] at hE153; clear hE86
              refine wp_exit ?_
              refine p_te ?_
              have hX154 : F_linkOf_L2 np0 holds t17 (Int.toNat (np0 - 0) + 1) 0 out7 = (t23L2, out7L2) := hT79.symm.trans (show F_linkOf_L2b np0 holds t17 (F_linkOf_L2 np0 holds t17 r83) t23L2 out7L2 = (t23L2, out7L2) by unfold F_linkOf_L2b; rw [ht87]; first | done | rfl)
              refine p_te (p_be (p_tn ?_))
              exact ⟨(by rw [hX154]; exact (show 0 ≤ t23L2 from (by first | omega | (simp only [sS_len, sL_len]; omega) | (simp only [List.length_replicate, sI_len]; omega) | (simp only [List.length_append, List.length_cons, List.length_nil, sI_len, cond_true, cond_false]; omega) | (simp only [List.length_append, List.length_cons, List.length_nil, sI_len, cond_eq_ite, apply_ite List.length]; split <;> simp only [List.length_append, List.length_cons, List.length_nil, sI_len] <;> omega) | grind))), (by rw [hX154]; exact (show (out7L2.length : Int) = mp0 from (by first | omega | (simp only [sS_len, sL_len]; omega) | (simp only [List.length_replicate, sI_len]; omega) | (simp only [List.length_append, List.length_cons, List.length_nil, sI_len, cond_true, cond_false]; omega) | (simp only [List.length_append, List.length_cons, List.length_nil, sI_len, cond_eq_ite, apply_ite List.length]; split <;> simp only [List.length_append, List.length_cons, List.length_nil, sI_len] <;> omega) | grind))), (by rw [hX154]; exact (hE153.sub (L' := [(2, .func (.func holdsF) #[] holdsC.toArray), (4, .pointer (some ⟨b11, 0, none⟩)), (7, .slice b26 (Int.toNat mp0) (Int.toNat mp0)), (8, .int .i64 t17), (16, .int .i64 mp0), (17, .int .i64 t17), (22, .int .i64 np0), (23, .int .i64 t23L2)]) ⟨rfl, rfl, rfl, rfl, rfl, rfl, rfl, rfl, trivial⟩)), (by rw [hX154]; exact (St.pick (Γ' := [.own 2 1 b26 (Int.toNat mp0) (Int.toNat mp0) out7L2, .blk b11 #[.int .i64 np0, .slice np1A np1.length np1C, .slice np2A np2.length np2C] 32, .blk b5 #[.int .i64 mp0, .slice mp1A mp1.length mp1C, .slice mp2A mp2.length mp2C] 32, .rd 1 np2A np2.length np2C np2, .rd 1 np1A np1.length np1C np1, .rd 1 mp2A mp2.length mp2C mp2, .rd 1 mp1A mp1.length mp1C mp1]) hS78 [0, 1, 2, 3, 4, 5, 6] (by decide) rfl))⟩
        ·
          rintro a155 w156 ⟨hi160, hi161, hE157, hS158⟩; clear hE73 hS48
          refine p_bn ?_
          refine p_tn ?_
          refine c_reg ?_
          refine q_step (v := .int .i64 (t17 + 1)) hE157 (y_add rfl rfl ⟨(by omega), (by omega)⟩) rfl rfl rfl ?_; intro a162 hE163; clear hE157
          refine q_step (v := .int .i64 (t17 + 1)) hE163 (y_move rfl) rfl rfl rfl ?_; intro a164 hE165; clear hE163
          refine c_nil ?_
          have hE166 := hE165.sub (L' := [(2, .func (.func holdsF) #[] holdsC.toArray), (4, .pointer (some ⟨b11, 0, none⟩)), (7, .slice b26 (Int.toNat mp0) (Int.toNat mp0)), (16, .int .i64 mp0), (17, .int .i64 (t17 + 1))]) ⟨rfl, rfl, rfl, rfl, rfl, trivial⟩; clear hE165
          refine p_tn ⟨r53, Nat.lt_succ_self _, t17 + 1, (F_linkOf_L2 np0 holds t17 (Int.toNat (np0 - 0) + 1) 0 out7).2, (hT49.symm.trans (show F_linkOf_L1b mp0 np0 holds (F_linkOf_L1 mp0 np0 holds r53) t17 out7 = F_linkOf_L1 mp0 np0 holds r53 (t17 + 1) ((F_linkOf_L2 np0 holds t17 (Int.toNat (np0 - 0) + 1) 0 out7).2) by unfold F_linkOf_L1b; rw [ht57]; first | done | rfl)).symm, (by omega), (by first | omega | (simp only [sS_len, sL_len]; omega) | (simp only [List.length_replicate, sI_len]; omega) | (simp only [List.length_append, List.length_cons, List.length_nil, sI_len, cond_true, cond_false]; omega) | (simp only [List.length_append, List.length_cons, List.length_nil, sI_len, cond_eq_ite, apply_ite List.length]; split <;> simp only [List.length_append, List.length_cons, List.length_nil, sI_len] <;> omega) | grind), (by first | omega | (simp only [sS_len, sL_len]; omega) | (simp only [List.length_replicate, sI_len]; omega) | (simp only [List.length_append, List.length_cons, List.length_nil, sI_len, cond_true, cond_false]; omega) | (simp only [List.length_append, List.length_cons, List.length_nil, sI_len, cond_eq_ite, apply_ite List.length]; split <;> simp only [List.length_append, List.length_cons, List.length_nil, sI_len] <;> omega) | grind), (hE166.sub (L' := [(2, .func (.func holdsF) #[] holdsC.toArray), (4, .pointer (some ⟨b11, 0, none⟩)), (7, .slice b26 (Int.toNat mp0) (Int.toNat mp0)), (16, .int .i64 mp0), (17, .int .i64 (t17 + 1))]) ⟨rfl, rfl, rfl, rfl, rfl, trivial⟩), (St.pick (Γ' := [.own 2 1 b26 (Int.toNat mp0) (Int.toNat mp0) ((F_linkOf_L2 np0 holds t17 (Int.toNat (np0 - 0) + 1) 0 out7).2), .blk b11 #[.int .i64 np0, .slice np1A np1.length np1C, .slice np2A np2.length np2C] 32, .blk b5 #[.int .i64 mp0, .slice mp1A mp1.length mp1C, .slice mp2A mp2.length mp2C] 32, .rd 1 np2A np2.length np2C np2, .rd 1 np1A np1.length np1C np1, .rd 1 mp2A mp2.length mp2C mp2, .rd 1 mp1A mp1.length mp1C mp1]) hS158 [0, 1, 2, 3, 4, 5, 6] (by decide) rfl)⟩
      ·
        have hp167 := of_decide_eq_false ht57
        have hE168 := hE56; rw [ht57] at hE168; clear hE56
        refine wp_exit ?_
        refine p_te ?_
        have hX169 : F_linkOf_L1 mp0 np0 holds (Int.toNat (mp0 - 0) + 1) 0 (List.replicate (Int.toNat mp0) 0) = (t17, out7) := hT49.symm.trans (show F_linkOf_L1b mp0 np0 holds (F_linkOf_L1 mp0 np0 holds r53) t17 out7 = (t17, out7) by unfold F_linkOf_L1b; rw [ht57]; first | done | rfl)
        refine p_te (p_be (p_tn ?_))
        exact ⟨(by rw [hX169]; exact (show 0 ≤ t17 from (by first | omega | (simp only [sS_len, sL_len]; omega) | (simp only [List.length_replicate, sI_len]; omega) | (simp only [List.length_append, List.length_cons, List.length_nil, sI_len, cond_true, cond_false]; omega) | (simp only [List.length_append, List.length_cons, List.length_nil, sI_len, cond_eq_ite, apply_ite List.length]; split <;> simp only [List.length_append, List.length_cons, List.length_nil, sI_len] <;> omega) | grind))), (by rw [hX169]; exact (show (out7.length : Int) = mp0 from (by first | omega | (simp only [sS_len, sL_len]; omega) | (simp only [List.length_replicate, sI_len]; omega) | (simp only [List.length_append, List.length_cons, List.length_nil, sI_len, cond_true, cond_false]; omega) | (simp only [List.length_append, List.length_cons, List.length_nil, sI_len, cond_eq_ite, apply_ite List.length]; split <;> simp only [List.length_append, List.length_cons, List.length_nil, sI_len] <;> omega) | grind))), (by rw [hX169]; exact (hE168.sub (L' := [(2, .func (.func holdsF) #[] holdsC.toArray), (4, .pointer (some ⟨b11, 0, none⟩)), (7, .slice b26 (Int.toNat mp0) (Int.toNat mp0)), (16, .int .i64 mp0), (17, .int .i64 t17)]) ⟨rfl, rfl, rfl, rfl, rfl, trivial⟩)), (by rw [hX169]; exact (St.pick (Γ' := [.own 2 1 b26 (Int.toNat mp0) (Int.toNat mp0) out7, .blk b11 #[.int .i64 np0, .slice np1A np1.length np1C, .slice np2A np2.length np2C] 32, .blk b5 #[.int .i64 mp0, .slice mp1A mp1.length mp1C, .slice mp2A mp2.length mp2C] 32, .rd 1 np2A np2.length np2C np2, .rd 1 np1A np1.length np1C np1, .rd 1 mp2A mp2.length mp2C mp2, .rd 1 mp1A mp1.length mp1C mp1]) hS48 [0, 1, 2, 3, 4, 5, 6] (by decide) rfl))⟩
  ·
    rintro a170 w171 ⟨hi175, hi176, hE172, hS173⟩; clear hE43 hS30
    refine p_tn ?_
    refine c_seq ?_
    refine c_reg ?_
    refine q_step (v := .slice b26 (Int.toNat mp0) (Int.toNat mp0)) hE172 (y_move rfl) rfl rfl rfl ?_; intro a177 hE178; clear hE172
    refine q_step (v := .slice b26 (Int.toNat mp0) (Int.toNat mp0)) hE178 (y_assign rfl) rfl rfl rfl ?_; intro a179 hE180; clear hE178
    refine c_nil ?_
    have hE181 := hE180.sub (L' := [(6, .slice b26 (Int.toNat mp0) (Int.toNat mp0))]) ⟨rfl, trivial⟩; clear hE180
    refine p_tn ?_
    refine wp_ret ?_
    have hF : F_linkOf mp0 mp1 mp2 np0 np1 np2 holds = (F_linkOf_L1 mp0 np0 holds (Int.toNat (mp0 - 0) + 1) 0 (List.replicate (Int.toNat mp0) 0)).2 := by unfold F_linkOf; rfl
    refine c_ret1 hE181 rfl rfl ?_
    exact ⟨b26, Int.toNat mp0, (by rw [hF]; first | rfl | (rw [(St.rdO (i := 0) hS173 rfl).len1])), (by rw [hF, (St.rdO (i := 0) hS173 rfl).len1]; (try dsimp only); exact hS173.ok 0 _ rfl), hS173.ext⟩

/-- A link: each row a mask. -/
def LkI (m n : Int) (xs : List Int) : Prop := ∀ i : Nat, (i : Int) < m → Mk n.toNat (gI xs (i : Int))
theorem sI_sI (xs : List Int) (t a b : Int) : sI (sI xs t a) t b = sI xs t b := by unfold sI; rw [List.set_set]
theorem linkOf_row (np0 : Int) (h0 : 0 ≤ np0) (h1 : np0 ≤ 8) (holds : Int → Int → Bool) (t : Int) (ht : 0 ≤ t) (out : List Int) (hl : t < (out.length : Int)) : (F_linkOf_L2 np0 holds t (Int.toNat (np0 - 0) + 1) 0 out).2 = sI out t ((List.range np0.toNat).foldl (fun o (y : Nat) => bif holds t (y : Int) then orI o (powI (y : Int)) else o) (gI out t)) := by
  have hg : ∀ a : Int, gI (sI out t a) t = a := fun a => by
    unfold sI; show gi _ _ = _; rw [gi_set (by omega), if_pos rfl]
  rw [rangeLoopR0 np0 h0 (fun o y => bif holds t y then sI o t (orI (gI o t) (shlI 1 y)) else o) (F_linkOf_L2 np0 holds t) (fun _ _ _ => rfl)]
  have key : ∀ (l : List Nat) (a : Int), (∀ y ∈ l, y ≤ 62) → l.foldl (fun o (y : Nat) => bif holds t (y : Int) then sI o t (orI (gI o t) (shlI 1 (y : Int))) else o) (sI out t a) = sI out t (l.foldl (fun o (y : Nat) => bif holds t (y : Int) then orI o (powI (y : Int)) else o) a) := by
    intro l
    induction l with
    | nil => intro a _; rfl
    | cons y l ih =>
      intro a hy
      rw [List.foldl_cons, List.foldl_cons]
      have hyy := hy y (List.mem_cons_self ..)
      cases holds t (y : Int)
      · rw [cond_false, cond_false]; exact ih a fun z hz => hy z (List.mem_cons_of_mem _ hz)
      · rw [cond_true, cond_true, hg, sI_sI, pow_shl (by omega) (by omega)]; exact ih _ fun z hz => hy z (List.mem_cons_of_mem _ hz)
  have e : sI out t (gI out t) = out := by
    apply ext_gi (by rw [sI_len])
    intro j hj
    unfold sI gI
    rw [gi_set (by omega)]
    by_cases e : t.toNat = j
    · rw [if_pos e, e]
    · rw [if_neg e]
  have := key (List.range np0.toNat) (gI out t) fun y hy => by have := List.mem_range.1 hy; omega
  rw [e] at this
  exact this
theorem linkOf_rows {mp0 np0 : Int} (mp1 mp2 np1 np2 : List Int) (hm : 0 ≤ mp0 ∧ mp0 ≤ 8) (hn : 0 ≤ np0 ∧ np0 ≤ 8) (holds : Int → Int → Bool) : ((F_linkOf mp0 mp1 mp2 np0 np1 np2 holds).length : Int) = mp0 ∧ ∀ x : Nat, (x : Int) < mp0 → gI (F_linkOf mp0 mp1 mp2 np0 np1 np2 holds) (x : Int) = (List.range np0.toNat).foldl (fun o (y : Nat) => bif holds (x : Int) (y : Int) then orI o (powI (y : Int)) else o) 0 := by
  unfold F_linkOf
  have := mapLoop mp0 (fun t o => (List.range np0.toNat).foldl (fun o (y : Nat) => bif holds t (y : Int) then orI o (powI (y : Int)) else o) o) (F_linkOf_L1 mp0 np0 holds) (fun r t xs h0 hl => by
    show F_linkOf_L1b mp0 np0 holds _ t xs = _
    unfold F_linkOf_L1b
    by_cases h : t < mp0
    · rw [decide_eq_true h, cond_true, cond_true, linkOf_row np0 hn.1 hn.2 holds t h0 xs (by omega)]
    · rw [decide_eq_false h, cond_false, cond_false]) (List.replicate (Int.toNat mp0) 0) (by rw [List.length_replicate]; omega)
  refine ⟨this.1, fun x hx => ?_⟩
  rw [this.2 x hx, gI_replicate (by omega)]
theorem linkOf_bits {mp0 np0 : Int} (mp1 mp2 np1 np2 : List Int) (hm : 0 ≤ mp0 ∧ mp0 ≤ 8) (hn : 0 ≤ np0 ∧ np0 ≤ 8) (holds : Int → Int → Bool) : LkI mp0 np0 (F_linkOf mp0 mp1 mp2 np0 np1 np2 holds) ∧ ∀ x y : Nat, (x : Int) < mp0 → rb (F_linkOf mp0 mp1 mp2 np0 np1 np2 holds) x y = (decide (y < np0.toNat) && holds (x : Int) (y : Int)) := by
  have h := (linkOf_rows mp1 mp2 np1 np2 hm hn holds).2
  refine ⟨fun x hx => ?_, fun x y hx => ?_⟩
  · rw [h x hx]; exact (pow_fold (n := np0.toNat) (by omega) (fun y => holds (x : Int) (y : Int))).1
  · unfold rb; rw [h x hx]; exact (pow_fold (n := np0.toNat) (by omega) (fun y => holds (x : Int) (y : Int))).2 y
theorem linkOf_len {mp0 np0 : Int} (mp1 mp2 np1 np2 : List Int) (hm : 0 ≤ mp0 ∧ mp0 ≤ 8) (hn : 0 ≤ np0 ∧ np0 ≤ 8) (holds : Int → Int → Bool) : ((F_linkOf mp0 mp1 mp2 np0 np1 np2 holds).length : Int) = mp0 := (linkOf_rows mp1 mp2 np1 np2 hm hn holds).1

def F_bounded_k1 (xp : Int) (yp : Int) (cap00 : Int) (cap01 : List Int) (cap02 : List Int) (cap10 : Int) (cap11 : List Int) (cap12 : List Int) : Bool :=
  decide ((F_Model_truths cap00 cap01 cap02 xp) = (F_Model_truths cap10 cap11 cap12 yp))
theorem cf_bounded_k1 (args : Array Value) (w : World) : (callFunc 152 args).run Try.prog w = .ok (.enter 152 args) w := by kernel_rfl
set_option maxRecDepth 100000 in
theorem c_bounded_k1 (xp : Int) (yp : Int) (cap0B : Nat) (cap00 : Int) (cap01A : Option Addr) (cap01N cap01C : Nat) (cap01 : List Int) (cap02A : Option Addr) (cap02N cap02C : Nat) (cap02 : List Int) (cap1B : Nat) (cap10 : Int) (cap11A : Option Addr) (cap11N cap11C : Nat) (cap11 : List Int) (cap12A : Option Addr) (cap12N cap12C : Nat) (cap12 : List Int) (w : World) (cap01R : RdS w 1 cap01A cap01N cap01C cap01) (cap02R : RdS w 1 cap02A cap02N cap02C cap02) (cap0H : w.heap[cap0B]? = some (.cells #[.int .i64 cap00, .slice cap01A cap01N cap01C, .slice cap02A cap02N cap02C] 32 (0, 0))) (cap11R : RdS w 1 cap11A cap11N cap11C cap11) (cap12R : RdS w 1 cap12A cap12N cap12C cap12) (cap1H : w.heap[cap1B]? = some (.cells #[.int .i64 cap10, .slice cap11A cap11N cap11C, .slice cap12A cap12N cap12C] 32 (0, 0))) (h6m : (cap02.length : Int) = 6) (h6n : (cap12.length : Int) = 6) (hx : 0 ≤ xp) (hy : 0 ≤ yp) :
    Calls Try.prog 152 #[.int .i64 xp, .int .i64 yp, .pointer (some ⟨cap0B, 0, none⟩), .pointer (some ⟨cap1B, 0, none⟩)] w (Ret fun v w' => v = .bool (F_bounded_k1 xp yp cap00 cap01 cap02 cap10 cap11 cap12) ∧ Ext w w') := by
  obtain rfl : cap01N = cap01.length := cap01R.len1.symm
  have cap01Le := cap01R.le
  obtain rfl : cap02N = cap02.length := cap02R.len1.symm
  have cap02Le := cap02R.le
  obtain rfl : cap11N = cap11.length := cap11R.len1.symm
  have cap11Le := cap11R.le
  obtain rfl : cap12N = cap12.length := cap12R.len1.symm
  have cap12Le := cap12R.le
  have hS := St.nil w
  have hS1 := St.rd0 hS rfl cap01R; clear hS
  have hS2 := St.rd0 hS1 rfl cap02R; clear hS1
  have hS3 := St.rb0 hS2 rfl cap0H; clear hS2
  have hS4 := St.rd0 hS3 rfl cap11R; clear hS3
  have hS5 := St.rd0 hS4 rfl cap12R; clear hS4
  have hS6 := St.rb0 hS5 rfl cap1H; clear hS5
  refine enter (args := [.int .i64 xp, .int .i64 yp, .pointer (some ⟨cap0B, 0, none⟩), .pointer (some ⟨cap1B, 0, none⟩)]) Try.func152 rfl rfl ?_
  rw [Try.ntmps152]; intro a hE
  have hE := hE.sub (L' := [(0, .int .i64 xp), (1, .int .i64 yp), (2, .pointer (some ⟨cap0B, 0, none⟩)), (3, .pointer (some ⟨cap1B, 0, none⟩))]) ⟨rfl, rfl, rfl, rfl, trivial⟩
  refine c_seq ?_
  refine c_reg ?_
  refine q_step (v := .bool false) hE (y_assign rfl) rfl rfl rfl ?_; intro a7 hE8; clear hE
  refine c_nil ?_
  have hE9 := hE8.sub (L' := [(0, .int .i64 xp), (1, .int .i64 yp), (2, .pointer (some ⟨cap0B, 0, none⟩)), (3, .pointer (some ⟨cap1B, 0, none⟩))]) ⟨rfl, rfl, rfl, rfl, trivial⟩; clear hE8
  refine p_tn ?_
  refine c_seq ?_
  refine d_start (fun w w' => (fun w' => w'.heap[cap0B]? = some (.cells #[.int .i64 cap00, .slice cap01A cap01.length cap01C, .slice cap02A cap02.length cap02C] 32 (0, 0)) ∧ w'.heap[cap1B]? = some (.cells #[.int .i64 cap10, .slice cap11A cap11.length cap11C, .slice cap12A cap12.length cap12C] 32 (0, 0)) ∧ True) w → (fun w' => w'.heap[cap0B]? = some (.cells #[.int .i64 cap00, .slice cap01A cap01.length cap01C, .slice cap02A cap02.length cap02C] 32 (0, 0)) ∧ w'.heap[cap1B]? = some (.cells #[.int .i64 cap10, .slice cap11A cap11.length cap11C, .slice cap12A cap12.length cap12C] 32 (0, 0)) ∧ True) w') [0, 3] 8 (by kernel_rfl) rfl ?_
  intro w10 he11; have hS12 := St.go hS6 he11; clear hS6
  refine d_take (fun _ h => h) (fun _ _ h k => h k) (v := .agg #[.int .i64 cap00, .slice cap01A cap01.length cap01C, .slice cap02A cap02.length cap02C]) 0 rfl hE9 (S := fun w' => w'.heap[cap0B]? = some (.cells #[.int .i64 cap00, .slice cap01A cap01.length cap01C, .slice cap02A cap02.length cap02C] 32 (0, 0)) ∧ w'.heap[cap1B]? = some (.cells #[.int .i64 cap10, .slice cap11A cap11.length cap11C, .slice cap12A cap12.length cap12C] 32 (0, 0)) ∧ True) ⟨(St.rowR (i := 3) hS12 rfl _ (Ext.refl _)), (St.rowR (i := 0) hS12 rfl _ (Ext.refl _)), trivial⟩ (y_loadS Try.underlying32 rfl (by kernel_rfl) rfl (fun _ h => h.1)) rfl rfl (by kernel_rfl) (by kernel_rfl) (by kernel_rfl) (by kernel_rfl) rfl rfl (fun _ _ _ h => h) ?_; intro a13 hE14; clear hE9
  refine d_pure (fun _ h => h) (v := .int .i64 xp) 1 rfl hE14 (y_move rfl) rfl (by kernel_rfl) (by kernel_rfl) (by kernel_rfl) rfl rfl (fun _ _ _ h => h) ?_; intro a15 hE16; clear hE14
  refine d_take (fun _ h => h) (fun _ _ h k => h k) (v := .agg #[.int .i64 cap10, .slice cap11A cap11.length cap11C, .slice cap12A cap12.length cap12C]) 3 rfl hE16 (S := fun w' => w'.heap[cap0B]? = some (.cells #[.int .i64 cap00, .slice cap01A cap01.length cap01C, .slice cap02A cap02.length cap02C] 32 (0, 0)) ∧ w'.heap[cap1B]? = some (.cells #[.int .i64 cap10, .slice cap11A cap11.length cap11C, .slice cap12A cap12.length cap12C] 32 (0, 0)) ∧ True) ⟨(St.rowR (i := 3) hS12 rfl _ (Ext.refl _)), (St.rowR (i := 0) hS12 rfl _ (Ext.refl _)), trivial⟩ (y_loadS Try.underlying32 rfl (by kernel_rfl) rfl (fun _ h => h.2.1)) rfl rfl (by kernel_rfl) (by kernel_rfl) (by kernel_rfl) (by kernel_rfl) rfl rfl (fun _ _ _ h => h) ?_; intro a17 hE18; clear hE16
  refine d_pure (fun _ h => h) (v := .int .i64 yp) 4 rfl hE18 (y_move rfl) rfl (by kernel_rfl) (by kernel_rfl) (by kernel_rfl) rfl rfl (fun _ _ _ h => h) ?_; intro a19 hE20; clear hE18
  refine d_only 2 (by kernel_rfl) rfl hE20 rfl (l_call (f := 153) (argv := [.agg #[.int .i64 cap00, .slice cap01A cap01.length cap01C, .slice cap02A cap02.length cap02C], .int .i64 xp]) hE20 (fun _ => cf_Model_truths _ _) rfl rfl (c_Model_truths cap00 cap01A cap01.length cap01C cap01 cap02A cap02.length cap02C cap02 xp w10 (St.rdR (i := 5) hS12 rfl) (St.rdR (i := 4) hS12 rfl) (by omega) (by omega)) ?_)
  rintro _ w22 ⟨rfl, he26⟩ a23 hE24; clear hE20
  have hS25 := St.go hS12 he26; clear hS12
  refine ⟨fun _ _ => ⟨(St.rowR (i := 3) hS25 rfl _ (Ext.refl _)), (St.rowR (i := 0) hS25 rfl _ (Ext.refl _)), trivial⟩, ?_⟩
  refine d_only 5 (by kernel_rfl) rfl hE24 rfl (l_call (f := 153) (argv := [.agg #[.int .i64 cap10, .slice cap11A cap11.length cap11C, .slice cap12A cap12.length cap12C], .int .i64 yp]) hE24 (fun _ => cf_Model_truths _ _) rfl rfl (c_Model_truths cap10 cap11A cap11.length cap11C cap11 cap12A cap12.length cap12C cap12 yp w22 (St.rdR (i := 2) hS25 rfl) (St.rdR (i := 1) hS25 rfl) (by omega) (by omega)) ?_)
  rintro _ w28 ⟨rfl, he32⟩ a29 hE30; clear hE24
  have hS31 := St.go hS25 he32; clear hS25
  refine ⟨fun h => Bool.noConfusion (h.symm.trans (show exm _ _ _ = true by kernel_rfl)), ?_⟩
  refine d_pure (fun _ h => h) (v := .bool (decide ((F_Model_truths cap00 cap01 cap02 xp) = (F_Model_truths cap10 cap11 cap12 yp)))) 6 rfl hE30 (y_eql rfl rfl) rfl (by kernel_rfl) (by kernel_rfl) (by kernel_rfl) rfl rfl (fun _ _ _ h => h) ?_; intro a33 hE34; clear hE30
  refine d_pure (fun _ h => h) (v := .bool (decide ((F_Model_truths cap00 cap01 cap02 xp) = (F_Model_truths cap10 cap11 cap12 yp)))) 7 rfl hE34 (y_assign rfl) rfl (by kernel_rfl) (by kernel_rfl) (by kernel_rfl) rfl rfl (fun _ _ _ h => h) ?_; intro a35 hE36; clear hE34
  refine d_done (by kernel_rfl) ?_
  have hE37 := hE36.sub (L' := [(6, .bool (decide ((F_Model_truths cap00 cap01 cap02 xp) = (F_Model_truths cap10 cap11 cap12 yp))))]) ⟨rfl, trivial⟩; clear hE36
  refine p_tn ?_
  refine wp_ret ?_
  have hF : F_bounded_k1 xp yp cap00 cap01 cap02 cap10 cap11 cap12 = decide ((F_Model_truths cap00 cap01 cap02 xp) = (F_Model_truths cap10 cap11 cap12 yp)) := by unfold F_bounded_k1; rfl
  refine c_ret1 hE37 rfl rfl ?_
  exact ⟨(by rw [hF]; first | done | (dsimp only; done) | rfl), hS31.ext⟩

def F_bounded_k2 (xp : Int) (yp : Int) (cap0 : List (List Int)) (cap10 : Int) (cap11 : List Int) (cap12 : List Int) (cap20 : Int) (cap21 : List Int) (cap22 : List Int) (cap3 : List Int) : Bool :=
  ((F_has (gI (gL cap0 0) xp) yp) && ((F_forth cap10 cap11 cap12 cap20 cap21 cap22 cap3 xp yp) && (F_back cap10 cap11 cap12 cap20 cap21 cap22 cap3 xp yp)))
theorem cf_bounded_k2 (args : Array Value) (w : World) : (callFunc 154 args).run Try.prog w = .ok (.enter 154 args) w := by kernel_rfl
set_option maxRecDepth 100000 in
theorem c_bounded_k2 (xp : Int) (yp : Int) (cap0B : Nat) (cap0A : Option Addr) (cap0N cap0C : Nat) (cap0Q : List Hd) (cap0 : List (List Int)) (cap1B : Nat) (cap10 : Int) (cap11A : Option Addr) (cap11N cap11C : Nat) (cap11 : List Int) (cap12A : Option Addr) (cap12N cap12C : Nat) (cap12 : List Int) (cap2B : Nat) (cap20 : Int) (cap21A : Option Addr) (cap21N cap21C : Nat) (cap21 : List Int) (cap22A : Option Addr) (cap22N cap22C : Nat) (cap22 : List Int) (cap3B : Nat) (cap3A : Option Addr) (cap3N cap3C : Nat) (cap3 : List Int) (w : World) (cap0R : RdN w 1 cap0A cap0N cap0C cap0Q cap0) (cap0H : w.heap[cap0B]? = some (.cells #[.slice cap0A cap0N cap0C] 60 (0, 0))) (cap11R : RdS w 1 cap11A cap11N cap11C cap11) (cap12R : RdS w 1 cap12A cap12N cap12C cap12) (cap1H : w.heap[cap1B]? = some (.cells #[.int .i64 cap10, .slice cap11A cap11N cap11C, .slice cap12A cap12N cap12C] 32 (0, 0))) (cap21R : RdS w 1 cap21A cap21N cap21C cap21) (cap22R : RdS w 1 cap22A cap22N cap22C cap22) (cap2H : w.heap[cap2B]? = some (.cells #[.int .i64 cap20, .slice cap21A cap21N cap21C, .slice cap22A cap22N cap22C] 32 (0, 0))) (cap3R : RdS w 1 cap3A cap3N cap3C cap3) (cap3H : w.heap[cap3B]? = some (.cells #[.slice cap3A cap3N cap3C] 22 (0, 0))) (hx : 0 ≤ xp ∧ xp < cap10) (hy : 0 ≤ yp ∧ yp < cap20) (hwm : 0 ≤ cap10 ∧ cap10 ≤ 8) (hwn : 0 ≤ cap20 ∧ cap20 ≤ 8) (hlm : (cap11.length : Int) = cap10) (hln : (cap21.length : Int) = cap20) (hll : (cap3.length : Int) = cap10) (hfm : ∀ m : Int, 0 ≤ m → m < (cap11.length : Int) → 0 ≤ gI cap11 m ∧ gI cap11 m ≤ fullI cap10) (h0len : 1 ≤ cap0.length) (hr0 : ((gL cap0 0).length : Int) = cap10) :
    Calls Try.prog 154 #[.int .i64 xp, .int .i64 yp, .pointer (some ⟨cap0B, 0, none⟩), .pointer (some ⟨cap1B, 0, none⟩), .pointer (some ⟨cap2B, 0, none⟩), .pointer (some ⟨cap3B, 0, none⟩)] w (Ret fun v w' => v = .bool (F_bounded_k2 xp yp cap0 cap10 cap11 cap12 cap20 cap21 cap22 cap3) ∧ Ext w w') := by
  obtain rfl : cap0N = cap0.length := cap0R.len
  have cap0Le := cap0R.le
  obtain rfl : cap11N = cap11.length := cap11R.len1.symm
  have cap11Le := cap11R.le
  obtain rfl : cap12N = cap12.length := cap12R.len1.symm
  have cap12Le := cap12R.le
  obtain rfl : cap21N = cap21.length := cap21R.len1.symm
  have cap21Le := cap21R.le
  obtain rfl : cap22N = cap22.length := cap22R.len1.symm
  have cap22Le := cap22R.le
  obtain rfl : cap3N = cap3.length := cap3R.len1.symm
  have cap3Le := cap3R.le
  have hS := St.nil w
  have hS1 := St.rdn0 hS rfl cap0R; clear hS
  have hS2 := St.rb0 hS1 rfl cap0H; clear hS1
  have hS3 := St.rd0 hS2 rfl cap11R; clear hS2
  have hS4 := St.rd0 hS3 rfl cap12R; clear hS3
  have hS5 := St.rb0 hS4 rfl cap1H; clear hS4
  have hS6 := St.rd0 hS5 rfl cap21R; clear hS5
  have hS7 := St.rd0 hS6 rfl cap22R; clear hS6
  have hS8 := St.rb0 hS7 rfl cap2H; clear hS7
  have hS9 := St.rd0 hS8 rfl cap3R; clear hS8
  have hS10 := St.rb0 hS9 rfl cap3H; clear hS9
  refine enter (args := [.int .i64 xp, .int .i64 yp, .pointer (some ⟨cap0B, 0, none⟩), .pointer (some ⟨cap1B, 0, none⟩), .pointer (some ⟨cap2B, 0, none⟩), .pointer (some ⟨cap3B, 0, none⟩)]) Try.func154 rfl rfl ?_
  rw [Try.ntmps154]; intro a hE
  have hE := hE.sub (L' := [(0, .int .i64 xp), (1, .int .i64 yp), (2, .pointer (some ⟨cap0B, 0, none⟩)), (3, .pointer (some ⟨cap1B, 0, none⟩)), (4, .pointer (some ⟨cap2B, 0, none⟩)), (5, .pointer (some ⟨cap3B, 0, none⟩))]) ⟨rfl, rfl, rfl, rfl, rfl, rfl, trivial⟩
  refine c_seq ?_
  refine c_reg ?_
  refine q_step (v := .bool false) hE (y_assign rfl) rfl rfl rfl ?_; intro a11 hE12; clear hE
  refine c_nil ?_
  have hE13 := hE12.sub (L' := [(0, .int .i64 xp), (1, .int .i64 yp), (2, .pointer (some ⟨cap0B, 0, none⟩)), (3, .pointer (some ⟨cap1B, 0, none⟩)), (4, .pointer (some ⟨cap2B, 0, none⟩)), (5, .pointer (some ⟨cap3B, 0, none⟩))]) ⟨rfl, rfl, rfl, rfl, rfl, rfl, trivial⟩; clear hE12
  refine p_tn ?_
  refine c_cut (fun a' w' => E a' 33 [(8, .bool ((F_has (gI (gL cap0 0) xp) yp) && ((F_forth cap10 cap11 cap12 cap20 cap21 cap22 cap3 xp yp) && (F_back cap10 cap11 cap12 cap20 cap21 cap22 cap3 xp yp))))] ∧ St w w' [.rd 1 cap3A cap3.length cap3C cap3, .rb cap3B #[.slice cap3A cap3.length cap3C] 22, .rd 1 cap21A cap21.length cap21C cap21, .rd 1 cap22A cap22.length cap22C cap22, .rb cap2B #[.int .i64 cap20, .slice cap21A cap21.length cap21C, .slice cap22A cap22.length cap22C] 32, .rd 1 cap11A cap11.length cap11C cap11, .rd 1 cap12A cap12.length cap12C cap12, .rb cap1B #[.int .i64 cap10, .slice cap11A cap11.length cap11C, .slice cap12A cap12.length cap12C] 32, .rdn 1 cap0A ((cap0).length) cap0C cap0Q cap0, .rb cap0B #[.slice cap0A ((cap0).length) cap0C] 60]) ?_ ?_
  ·
    refine c_reg ?_
    refine q_step (v := .slice cap0A ((cap0).length) cap0C) hE13 (y_load (fun _ => by kernel_rfl) rfl (St.cellR (i := 8) hS10 rfl rfl)) rfl rfl rfl ?_; intro a14 hE15; clear hE13
    refine q_step (v := .pointer (some (adr cap0A (Int.toNat 0)))) hE15 (y_idx (by kernel_rfl) (fun _ => by kernel_rfl) rfl rfl (RdN.isS (m := 0) (St.rdNr (i := 9) hS10 rfl) (by omega) (by omega)) (by omega) (by omega) (Nat.mul_one _).symm) rfl rfl rfl ?_; intro a16 hE17; clear hE15
    have hv18 : (0 : Int) ≤ 0 ∧ 0 < (((cap0).length) : Int) := ⟨(by omega), (by omega)⟩
    refine q_step (v := .slice (hdA cap0Q 0) ((gL cap0 0).length) (hdC cap0Q 0)) hE17 (y_load (fun _ => by kernel_rfl) rfl (RdN.elt1 (St.rdNr (i := 9) hS10 rfl) (by omega) (by omega))) rfl rfl rfl ?_; intro a20 hE21; clear hE17
    refine q_step (v := .int .i64 xp) hE21 (y_move rfl) rfl rfl rfl ?_; intro a22 hE23; clear hE21
    refine q_step (v := .pointer (some (adr (hdA cap0Q 0) (Int.toNat xp)))) hE23 (y_idx (by kernel_rfl) (fun _ => by kernel_rfl) rfl rfl (RdS.isS (m := xp) (RdN.row1 (St.rdNr (i := 9) hS10 rfl) hv18.1 hv18.2) (by omega) (by omega)) (by omega) (by omega) (Nat.mul_one _).symm) rfl rfl rfl ?_; intro a24 hE25; clear hE23
    refine q_step (v := .int .i64 (gI (gL cap0 0) xp)) hE25 (y_load (fun _ => by kernel_rfl) rfl (RdS.elt (RdN.row1 (St.rdNr (i := 9) hS10 rfl) hv18.1 hv18.2) (by omega) (by omega))) rfl rfl rfl ?_; intro a26 hE27; clear hE25
    refine q_step (v := .int .i64 yp) hE27 (y_move rfl) rfl rfl rfl ?_; intro a28 hE29; clear hE27
    refine l_step hE29 rfl (l_call (f := 155) (argv := [.int .i64 (gI (gL cap0 0) xp), .int .i64 yp]) hE29 (fun _ => cf_has _ _) rfl rfl (c_has (gI (gL cap0 0) xp) yp w (by omega)) ?_)
    rintro _ _ ⟨rfl, rfl⟩ a32 hE33; clear hE29
    refine q_step (v := .bool (F_has (gI (gL cap0 0) xp) yp)) hE33 (y_move rfl) rfl rfl rfl ?_; intro a36 hE37; clear hE33
    rcases Bool.eq_false_or_eq_true (F_has (gI (gL cap0 0) xp) yp) with hb38 | hb38
    ·
      have hE39 := hE37; (try rw [hb38] at hE39); clear hE37
      refine q_step (v := .agg #[.int .i64 cap10, .slice cap11A cap11.length cap11C, .slice cap12A cap12.length cap12C]) hE39 (y_loadS Try.underlying32 rfl (by kernel_rfl) rfl (St.rowR (i := 5) hS10 rfl)) rfl rfl rfl ?_; intro a40 hE41; clear hE39
      refine q_step (v := .agg #[.int .i64 cap20, .slice cap21A cap21.length cap21C, .slice cap22A cap22.length cap22C]) hE41 (y_loadS Try.underlying32 rfl (by kernel_rfl) rfl (St.rowR (i := 2) hS10 rfl)) rfl rfl rfl ?_; intro a42 hE43; clear hE41
      refine q_step (v := .slice cap3A cap3.length cap3C) hE43 (y_load (fun _ => by kernel_rfl) rfl (St.cellR (i := 0) hS10 rfl rfl)) rfl rfl rfl ?_; intro a44 hE45; clear hE43
      refine q_step (v := .int .i64 xp) hE45 (y_move rfl) rfl rfl rfl ?_; intro a46 hE47; clear hE45
      refine q_step (v := .int .i64 yp) hE47 (y_move rfl) rfl rfl rfl ?_; intro a48 hE49; clear hE47
      refine l_step hE49 rfl (l_call (f := 156) (argv := [.agg #[.int .i64 cap10, .slice cap11A cap11.length cap11C, .slice cap12A cap12.length cap12C], .agg #[.int .i64 cap20, .slice cap21A cap21.length cap21C, .slice cap22A cap22.length cap22C], .slice cap3A cap3.length cap3C, .int .i64 xp, .int .i64 yp]) hE49 (fun _ => cf_forth _ _) rfl rfl (c_forth cap10 cap11A cap11.length cap11C cap11 cap12A cap12.length cap12C cap12 cap20 cap21A cap21.length cap21C cap21 cap22A cap22.length cap22C cap22 cap3A cap3.length cap3C cap3 xp yp w (St.rdR (i := 7) hS10 rfl) (St.rdR (i := 6) hS10 rfl) (St.rdR (i := 4) hS10 rfl) (St.rdR (i := 3) hS10 rfl) (St.rdR (i := 1) hS10 rfl) (by omega) (by omega) (by omega) (by omega) (by omega) (by omega) (by omega) hfm) ?_)
      rintro _ w51 ⟨rfl, he55⟩ a52 hE53; clear hE49
      have hS54 := St.go hS10 he55; clear hS10
      refine q_step (v := .bool (F_forth cap10 cap11 cap12 cap20 cap21 cap22 cap3 xp yp)) hE53 (y_pick (b := true) rfl rfl) rfl rfl rfl ?_; intro a56 hE57; clear hE53
      refine q_step (v := .bool (F_forth cap10 cap11 cap12 cap20 cap21 cap22 cap3 xp yp)) hE57 (y_move rfl) rfl rfl rfl ?_; intro a58 hE59; clear hE57
      rcases Bool.eq_false_or_eq_true (F_forth cap10 cap11 cap12 cap20 cap21 cap22 cap3 xp yp) with hb60 | hb60
      ·
        have hE61 := hE59; (try rw [hb60] at hE61); clear hE59
        refine q_step (v := .agg #[.int .i64 cap10, .slice cap11A cap11.length cap11C, .slice cap12A cap12.length cap12C]) hE61 (y_loadS Try.underlying32 rfl (by kernel_rfl) rfl (St.rowR (i := 5) hS54 rfl)) rfl rfl rfl ?_; intro a62 hE63; clear hE61
        refine q_step (v := .agg #[.int .i64 cap20, .slice cap21A cap21.length cap21C, .slice cap22A cap22.length cap22C]) hE63 (y_loadS Try.underlying32 rfl (by kernel_rfl) rfl (St.rowR (i := 2) hS54 rfl)) rfl rfl rfl ?_; intro a64 hE65; clear hE63
        refine q_step (v := .slice cap3A cap3.length cap3C) hE65 (y_load (fun _ => by kernel_rfl) rfl (St.cellR (i := 0) hS54 rfl rfl)) rfl rfl rfl ?_; intro a66 hE67; clear hE65
        refine q_step (v := .int .i64 xp) hE67 (y_move rfl) rfl rfl rfl ?_; intro a68 hE69; clear hE67
        refine q_step (v := .int .i64 yp) hE69 (y_move rfl) rfl rfl rfl ?_; intro a70 hE71; clear hE69
        refine l_step hE71 rfl (l_call (f := 157) (argv := [.agg #[.int .i64 cap10, .slice cap11A cap11.length cap11C, .slice cap12A cap12.length cap12C], .agg #[.int .i64 cap20, .slice cap21A cap21.length cap21C, .slice cap22A cap22.length cap22C], .slice cap3A cap3.length cap3C, .int .i64 xp, .int .i64 yp]) hE71 (fun _ => cf_back _ _) rfl rfl (c_back cap10 cap11A cap11.length cap11C cap11 cap12A cap12.length cap12C cap12 cap20 cap21A cap21.length cap21C cap21 cap22A cap22.length cap22C cap22 cap3A cap3.length cap3C cap3 xp yp w51 (St.rdR (i := 7) hS54 rfl) (St.rdR (i := 6) hS54 rfl) (St.rdR (i := 4) hS54 rfl) (St.rdR (i := 3) hS54 rfl) (St.rdR (i := 1) hS54 rfl) (by omega) (by omega) (by omega) (by omega) (by omega) (by omega) (by omega) hfm) ?_)
        rintro _ w73 ⟨rfl, he77⟩ a74 hE75; clear hE71
        have hS76 := St.go hS54 he77; clear hS54
        refine q_step (v := .bool (F_back cap10 cap11 cap12 cap20 cap21 cap22 cap3 xp yp)) hE75 (y_pick (b := true) rfl rfl) rfl rfl rfl ?_; intro a78 hE79; clear hE75
        refine q_step (v := .bool (F_back cap10 cap11 cap12 cap20 cap21 cap22 cap3 xp yp)) hE79 (y_assign rfl) rfl rfl rfl ?_; intro a80 hE81; clear hE79
        refine c_nil ?_
        have hE82 := hE81.sub (L' := [(8, .bool (F_back cap10 cap11 cap12 cap20 cap21 cap22 cap3 xp yp))]) ⟨rfl, trivial⟩; clear hE81
        refine p_tn ?_
        have hE83 := hE82.sub (L' := [(8, .bool (F_back cap10 cap11 cap12 cap20 cap21 cap22 cap3 xp yp))]) ⟨rfl, trivial⟩
        have hS84 := (St.pick (Γ' := [.rd 1 cap3A cap3.length cap3C cap3, .rb cap3B #[.slice cap3A cap3.length cap3C] 22, .rd 1 cap21A cap21.length cap21C cap21, .rd 1 cap22A cap22.length cap22C cap22, .rb cap2B #[.int .i64 cap20, .slice cap21A cap21.length cap21C, .slice cap22A cap22.length cap22C] 32, .rd 1 cap11A cap11.length cap11C cap11, .rd 1 cap12A cap12.length cap12C cap12, .rb cap1B #[.int .i64 cap10, .slice cap11A cap11.length cap11C, .slice cap12A cap12.length cap12C] 32, .rdn 1 cap0A ((cap0).length) cap0C cap0Q cap0, .rb cap0B #[.slice cap0A ((cap0).length) cap0C] 60]) hS76 [1, 0, 4, 3, 2, 7, 6, 5, 9, 8] (by decide) rfl)
        exact ⟨(by rw [hb60, hb38]; exact hE83), hS84⟩
      ·
        have hE85 := hE59; (try rw [hb60] at hE85); clear hE59
        refine q_skip hE85 rfl rfl rfl ?_; intro a86 hE87; clear hE85
        refine q_skip hE87 rfl rfl rfl ?_; intro a88 hE89; clear hE87
        refine q_skip hE89 rfl rfl rfl ?_; intro a90 hE91; clear hE89
        refine q_skip hE91 rfl rfl rfl ?_; intro a92 hE93; clear hE91
        refine q_skip hE93 rfl rfl rfl ?_; intro a94 hE95; clear hE93
        refine q_skip hE95 rfl rfl rfl ?_; intro a96 hE97; clear hE95
        refine q_step (v := .bool false) hE97 (y_pick (b := false) rfl rfl) rfl rfl rfl ?_; intro a98 hE99; clear hE97
        refine q_step (v := .bool false) hE99 (y_assign rfl) rfl rfl rfl ?_; intro a100 hE101; clear hE99
        refine c_nil ?_
        have hE102 := hE101.sub (L' := [(8, .bool false)]) ⟨rfl, trivial⟩; clear hE101
        refine p_tn ?_
        have hE103 := hE102.sub (L' := [(8, .bool false)]) ⟨rfl, trivial⟩
        have hS104 := (St.pick (Γ' := [.rd 1 cap3A cap3.length cap3C cap3, .rb cap3B #[.slice cap3A cap3.length cap3C] 22, .rd 1 cap21A cap21.length cap21C cap21, .rd 1 cap22A cap22.length cap22C cap22, .rb cap2B #[.int .i64 cap20, .slice cap21A cap21.length cap21C, .slice cap22A cap22.length cap22C] 32, .rd 1 cap11A cap11.length cap11C cap11, .rd 1 cap12A cap12.length cap12C cap12, .rb cap1B #[.int .i64 cap10, .slice cap11A cap11.length cap11C, .slice cap12A cap12.length cap12C] 32, .rdn 1 cap0A ((cap0).length) cap0C cap0Q cap0, .rb cap0B #[.slice cap0A ((cap0).length) cap0C] 60]) hS54 [1, 0, 4, 3, 2, 7, 6, 5, 9, 8] (by decide) rfl)
        exact ⟨(by rw [hb60, hb38]; exact hE103), hS104⟩
    ·
      have hE105 := hE37; (try rw [hb38] at hE105); clear hE37
      refine q_skip hE105 rfl rfl rfl ?_; intro a106 hE107; clear hE105
      refine q_skip hE107 rfl rfl rfl ?_; intro a108 hE109; clear hE107
      refine q_skip hE109 rfl rfl rfl ?_; intro a110 hE111; clear hE109
      refine q_skip hE111 rfl rfl rfl ?_; intro a112 hE113; clear hE111
      refine q_skip hE113 rfl rfl rfl ?_; intro a114 hE115; clear hE113
      refine q_skip hE115 rfl rfl rfl ?_; intro a116 hE117; clear hE115
      refine q_step (v := .bool false) hE117 (y_pick (b := false) rfl rfl) rfl rfl rfl ?_; intro a118 hE119; clear hE117
      refine q_step (v := .bool false) hE119 (y_move rfl) rfl rfl rfl ?_; intro a120 hE121; clear hE119
      refine q_skip hE121 rfl rfl rfl ?_; intro a122 hE123; clear hE121
      refine q_skip hE123 rfl rfl rfl ?_; intro a124 hE125; clear hE123
      refine q_skip hE125 rfl rfl rfl ?_; intro a126 hE127; clear hE125
      refine q_skip hE127 rfl rfl rfl ?_; intro a128 hE129; clear hE127
      refine q_skip hE129 rfl rfl rfl ?_; intro a130 hE131; clear hE129
      refine q_skip hE131 rfl rfl rfl ?_; intro a132 hE133; clear hE131
      refine q_step (v := .bool false) hE133 (y_pick (b := false) rfl rfl) rfl rfl rfl ?_; intro a134 hE135; clear hE133
      refine q_step (v := .bool false) hE135 (y_assign rfl) rfl rfl rfl ?_; intro a136 hE137; clear hE135
      refine c_nil ?_
      have hE138 := hE137.sub (L' := [(8, .bool false)]) ⟨rfl, trivial⟩; clear hE137
      refine p_tn ?_
      have hE139 := hE138.sub (L' := [(8, .bool false)]) ⟨rfl, trivial⟩
      have hS140 := (St.pick (Γ' := [.rd 1 cap3A cap3.length cap3C cap3, .rb cap3B #[.slice cap3A cap3.length cap3C] 22, .rd 1 cap21A cap21.length cap21C cap21, .rd 1 cap22A cap22.length cap22C cap22, .rb cap2B #[.int .i64 cap20, .slice cap21A cap21.length cap21C, .slice cap22A cap22.length cap22C] 32, .rd 1 cap11A cap11.length cap11C cap11, .rd 1 cap12A cap12.length cap12C cap12, .rb cap1B #[.int .i64 cap10, .slice cap11A cap11.length cap11C, .slice cap12A cap12.length cap12C] 32, .rdn 1 cap0A ((cap0).length) cap0C cap0Q cap0, .rb cap0B #[.slice cap0A ((cap0).length) cap0C] 60]) hS10 [1, 0, 4, 3, 2, 7, 6, 5, 9, 8] (by decide) rfl)
      exact ⟨(by rw [hb38]; exact hE139), hS140⟩
  ·
    rintro a141 w142 ⟨hE143, hS144⟩; clear hE13 hS10
    refine wp_ret ?_
    have hF : F_bounded_k2 xp yp cap0 cap10 cap11 cap12 cap20 cap21 cap22 cap3 = ((F_has (gI (gL cap0 0) xp) yp) && ((F_forth cap10 cap11 cap12 cap20 cap21 cap22 cap3 xp yp) && (F_back cap10 cap11 cap12 cap20 cap21 cap22 cap3 xp yp))) := by unfold F_bounded_k2; rfl
    refine c_ret1 hE143 rfl rfl ?_
    exact ⟨(by rw [hF]; first | done | (dsimp only; done) | rfl), hS144.ext⟩

/-- All rows have this length. -/
def RowsN (n : Int) (xss : List (List Int)) : Prop := ∀ r : Int, 0 ≤ r → r < (xss.length : Int) → ((gL xss r).length : Int) = n
theorem gL_app {xss yss : List (List Int)} {r : Int} (h0 : 0 ≤ r) : gL (xss ++ yss) r = if r < (xss.length : Int) then gL xss r else gL yss (r - (xss.length : Int)) := by
  unfold gL
  rw [List.getD_eq_getElem?_getD, List.getD_eq_getElem?_getD, List.getD_eq_getElem?_getD]
  by_cases h : r < (xss.length : Int)
  · rw [if_pos h, List.getElem?_append_left (by omega)]
  · rw [if_neg h, List.getElem?_append_right (by omega), show (r - (xss.length : Int)).toNat = r.toNat - xss.length by omega]
theorem RowsN.one {n : Int} {xs : List Int} (h : (xs.length : Int) = n) : RowsN n [xs] := fun r h0 h1 => by
  have h2 : r < 1 := h1
  have : r = 0 := by omega
  subst this; exact h
theorem RowsN.app {n : Int} {xss : List (List Int)} {xs : List Int} (h : RowsN n xss) (hx : (xs.length : Int) = n) : RowsN n (xss ++ [xs]) := fun r h0 h1 => by
  rw [gL_app h0]
  by_cases hr : r < (xss.length : Int)
  · rw [if_pos hr]; exact h r h0 hr
  · rw [if_neg hr]
    rw [List.length_append] at h1
    have h2 : ((xss.length + 1 : Nat) : Int) = (xss.length : Int) + 1 := by omega
    have h3 : r < ((xss.length + 1 : Nat) : Int) := h1
    have : r - (xss.length : Int) = 0 := by omega
    rw [this]; exact hx
theorem app1_len (xss : List (List Int)) (xs : List Int) : (xss ++ [xs]).length = xss.length + 1 := by simp
theorem gL_range (T : Nat → List Int) {n k : Nat} (h : k < n) : gL ((List.range n).map T) (k : Int) = T k := by
  unfold gL
  rw [Int.toNat_natCast, List.getD_eq_getElem?_getD, List.getElem?_map, List.getElem?_range h]; rfl


def F_bounded_L1b (mp0 : Int) (mp1 : List Int) (mp2 : List Int) (np0 : Int) (np1 : List Int) (np2 : List Int) (kp : Int) (rec : Int → (List (List Int)) → Int × (List (List Int))) (t15 : Int) (q8_0 : List (List Int)) : Int × (List (List Int)) :=
  bif (decide (t15 < kp)) then (rec (t15 + 1) (q8_0 ++ ([F_linkOf mp0 mp1 mp2 np0 np1 np2 (fun x0 x1 => F_bounded_k2 x0 x1 q8_0 mp0 mp1 mp2 np0 np1 np2 (gL q8_0 (((q8_0).length : Int) - 1)))]))) else (t15, q8_0)
def F_bounded_L1 (mp0 : Int) (mp1 : List Int) (mp2 : List Int) (np0 : Int) (np1 : List Int) (np2 : List Int) (kp : Int) : Nat → Int → (List (List Int)) → Int × (List (List Int))
  | 0, t15, q8_0 => (t15, q8_0)
  | r + 1, t15, q8_0 => F_bounded_L1b mp0 mp1 mp2 np0 np1 np2 kp (F_bounded_L1 mp0 mp1 mp2 np0 np1 np2 kp r) t15 q8_0
def F_bounded (mp0 : Int) (mp1 : List Int) (mp2 : List Int) (np0 : Int) (np1 : List Int) (np2 : List Int) (kp : Int) : List (List Int) :=
  (F_bounded_L1 mp0 mp1 mp2 np0 np1 np2 kp (Int.toNat (kp - 0) + 1) 0 ([F_linkOf mp0 mp1 mp2 np0 np1 np2 (fun x0 x1 => F_bounded_k1 x0 x1 mp0 mp1 mp2 np0 np1 np2)])).2
theorem cf_bounded (args : Array Value) (w : World) : (callFunc 88 args).run Try.prog w = .ok (.enter 88 args) w := by kernel_rfl
set_option maxRecDepth 100000 in
theorem c_bounded (mp0 : Int) (mp1A : Option Addr) (mp1N mp1C : Nat) (mp1 : List Int) (mp2A : Option Addr) (mp2N mp2C : Nat) (mp2 : List Int) (np0 : Int) (np1A : Option Addr) (np1N np1C : Nat) (np1 : List Int) (np2A : Option Addr) (np2N np2C : Nat) (np2 : List Int) (kp : Int) (w : World) (mp1R : RdS w 1 mp1A mp1N mp1C mp1) (mp2R : RdS w 1 mp2A mp2N mp2C mp2) (np1R : RdS w 1 np1A np1N np1C np1) (np2R : RdS w 1 np2A np2N np2C np2) (h6mp : (mp2.length : Int) = 6) (hwmp : 0 ≤ mp0 ∧ mp0 ≤ 8) (hlmp : (mp1.length : Int) = mp0) (h6np : (np2.length : Int) = 6) (hwnp : 0 ≤ np0 ∧ np0 ≤ 8) (hlnp : (np1.length : Int) = np0) (hfm : ∀ m : Int, 0 ≤ m → m < (mp1.length : Int) → 0 ≤ gI mp1 m ∧ gI mp1 m ≤ fullI mp0) (hk : 0 ≤ kp ∧ kp ≤ 16) :
    Calls Try.prog 88 #[.agg #[.int .i64 mp0, .slice mp1A mp1N mp1C, .slice mp2A mp2N mp2C], .agg #[.int .i64 np0, .slice np1A np1N np1C, .slice np2A np2N np2C], .int .i64 kp] w (Ret fun v w' => ∃ b1 : Option Addr, ∃ c1 : Nat, ∃ h1 : List Hd, v = .slice b1 (F_bounded mp0 mp1 mp2 np0 np1 np2 kp).length c1 ∧ OwnN w' w.heap.size 22 1 2 b1 c1 h1 (F_bounded mp0 mp1 mp2 np0 np1 np2 kp) ∧ Ext w w') := by
  obtain rfl : mp1N = mp1.length := mp1R.len1.symm
  have mp1Le := mp1R.le
  obtain rfl : mp2N = mp2.length := mp2R.len1.symm
  have mp2Le := mp2R.le
  obtain rfl : np1N = np1.length := np1R.len1.symm
  have np1Le := np1R.le
  obtain rfl : np2N = np2.length := np2R.len1.symm
  have np2Le := np2R.le
  have hS := St.nil w
  have hS1 := St.rd0 hS rfl mp1R; clear hS
  have hS2 := St.rd0 hS1 rfl mp2R; clear hS1
  have hS3 := St.rd0 hS2 rfl np1R; clear hS2
  have hS4 := St.rd0 hS3 rfl np2R; clear hS3
  refine enter (args := [.agg #[.int .i64 mp0, .slice mp1A mp1.length mp1C, .slice mp2A mp2.length mp2C], .agg #[.int .i64 np0, .slice np1A np1.length np1C, .slice np2A np2.length np2C], .int .i64 kp]) Try.func88 rfl rfl ?_
  rw [Try.ntmps88]; intro a hE
  have hE := hE.sub (L' := [(0, .agg #[.int .i64 mp0, .slice mp1A mp1.length mp1C, .slice mp2A mp2.length mp2C]), (1, .agg #[.int .i64 np0, .slice np1A np1.length np1C, .slice np2A np2.length np2C]), (2, .int .i64 kp)]) ⟨rfl, rfl, rfl, trivial⟩
  refine c_seq ?_
  refine c_reg ?_
  refine l_step hE rfl (l_box (v := .agg #[.int .i64 mp0, .slice mp1A mp1.length mp1C, .slice mp2A mp2.length mp2C]) (cs := #[.int .i64 mp0, .slice mp1A mp1.length mp1C, .slice mp2A mp2.length mp2C]) hS4 hE rfl rfl rfl ?_)
  intro b5 w6 hS9 he10 a7 hE8; clear hS4 hE
  refine l_step hE8 rfl (l_box (v := .agg #[.int .i64 np0, .slice np1A np1.length np1C, .slice np2A np2.length np2C]) (cs := #[.int .i64 np0, .slice np1A np1.length np1C, .slice np2A np2.length np2C]) hS9 hE8 rfl rfl rfl ?_)
  intro b11 w12 hS15 he16 a13 hE14; clear hS9 hE8
  refine q_step (v := .slice none 0 0) hE14 (y_assign rfl) rfl rfl rfl ?_; intro a17 hE18; clear hE14
  refine c_nil ?_
  have hE19 := hE18.sub (L' := [(2, .int .i64 kp), (3, .pointer (some ⟨b5, 0, none⟩)), (4, .pointer (some ⟨b11, 0, none⟩))]) ⟨rfl, rfl, rfl, trivial⟩; clear hE18
  refine p_tn ?_
  refine c_seq ?_
  refine c_reg ?_
  refine q_step (v := .agg #[.int .i64 mp0, .slice mp1A mp1.length mp1C, .slice mp2A mp2.length mp2C]) hE19 (y_loadS Try.underlying32 rfl (by kernel_rfl) rfl (St.row (i := 1) hS15 rfl)) rfl rfl rfl ?_; intro a20 hE21; clear hE19
  refine q_step (v := .agg #[.int .i64 np0, .slice np1A np1.length np1C, .slice np2A np2.length np2C]) hE21 (y_loadS Try.underlying32 rfl (by kernel_rfl) rfl (St.row (i := 0) hS15 rfl)) rfl rfl rfl ?_; intro a22 hE23; clear hE21
  refine q_step (v := .func (.func 152) #[] #[.pointer (some ⟨b5, 0, none⟩), .pointer (some ⟨b11, 0, none⟩)]) hE23 (y_makeFunc (vs := [.pointer (some ⟨b5, 0, none⟩), .pointer (some ⟨b11, 0, none⟩)]) rfl) rfl rfl rfl ?_; intro a24 hE25; clear hE23
  refine l_step hE25 rfl (l_call (f := 151) (argv := [.agg #[.int .i64 mp0, .slice mp1A mp1.length mp1C, .slice mp2A mp2.length mp2C], .agg #[.int .i64 np0, .slice np1A np1.length np1C, .slice np2A np2.length np2C], .func (.func 152) #[] #[.pointer (some ⟨b5, 0, none⟩), .pointer (some ⟨b11, 0, none⟩)]]) hE25 (fun _ => cf_linkOf _ _) rfl rfl (c_linkOf mp0 mp1A mp1.length mp1C mp1 mp2A mp2.length mp2C mp2 np0 np1A np1.length np1C np1 np2A np2.length np2C np2 152 [.pointer (some ⟨b5, 0, none⟩), .pointer (some ⟨b11, 0, none⟩)] (fun x0 x1 => F_bounded_k1 x0 x1 mp0 mp1 mp2 np0 np1 np2) (fun x y => (0 ≤ x ∧ x < mp0) ∧ 0 ≤ y ∧ y < np0) w12 (St.rdR (i := 5) hS15 rfl) (St.rdR (i := 4) hS15 rfl) (St.rdR (i := 3) hS15 rfl) (St.rdR (i := 2) hS15 rfl) (fun _ _ => cf_bounded_k1 _ _) (fun x0 x1 w' hx he => c_bounded_k1 x0 x1 b5 mp0 mp1A mp1.length mp1C mp1 mp2A mp2.length mp2C mp2 b11 np0 np1A np1.length np1C np1 np2A np2.length np2C np2 w' (RdS.ext (St.rdR (i := 5) hS15 rfl) he) (RdS.ext (St.rdR (i := 4) hS15 rfl) he) (St.row (i := 1) hS15 rfl w' he) (RdS.ext (St.rdR (i := 3) hS15 rfl) he) (RdS.ext (St.rdR (i := 2) hS15 rfl) he) (St.row (i := 0) hS15 rfl w' he) (by omega) (by omega) hx.1.1 hx.2.1) (by omega) (by omega) (fun x y h0 h1 h2 h3 => ⟨⟨h0, h1⟩, h2, h3⟩)) ?_)
  rintro _ w27 ⟨b32, c33, rfl, ho34, he31⟩ a28 hE29; clear hE25
  have hS30 := St.own hS15 he31 ho34; clear hS15
  have hS41 := (St.pick (Γ' := [.own 2 1 b32 ((F_linkOf mp0 mp1 mp2 np0 np1 np2 (fun x0 x1 => F_bounded_k1 x0 x1 mp0 mp1 mp2 np0 np1 np2)).length) c33 (F_linkOf mp0 mp1 mp2 np0 np1 np2 (fun x0 x1 => F_bounded_k1 x0 x1 mp0 mp1 mp2 np0 np1 np2)), .blk b11 #[.int .i64 np0, .slice np1A np1.length np1C, .slice np2A np2.length np2C] 32, .blk b5 #[.int .i64 mp0, .slice mp1A mp1.length mp1C, .slice mp2A mp2.length mp2C] 32, .rd 1 np2A np2.length np2C np2, .rd 1 np1A np1.length np1C np1, .rd 1 mp2A mp2.length mp2C mp2, .rd 1 mp1A mp1.length mp1C mp1]) hS30 [0, 1, 2, 3, 4, 5, 6] (by decide) rfl); clear hS30
  refine l_step hE29 rfl (l_litO1 (e := 22) hS41 hE29 rfl (fun _ => by kernel_rfl) rfl ?_)
  intro b35 w36 hS39 he40 a37 hE38; clear hS41 hE29
  refine l_step hE38 rfl (l_alloc (z := .slice none 0 0) (cs := #[.slice none 0 0]) hS39 hE38 (fun _ => by kernel_rfl) rfl rfl ?_)
  intro b42 w43 hS46 he47 a44 hE45; clear hS39 hE38
  refine l_step hE45 rfl (l_storeB (k := 0) (cs' := #[.slice (some ⟨b35, 0, none⟩) 1 1]) hS46 hE45 (fun _ => by kernel_rfl) rfl rfl rfl rfl rfl rfl rfl ?_)
  intro w49 hS52 a50 hE51; clear hS46 hE45
  refine c_nil ?_
  have hE54 := hE51.sub (L' := [(2, .int .i64 kp), (3, .pointer (some ⟨b5, 0, none⟩)), (4, .pointer (some ⟨b11, 0, none⟩)), (7, .pointer (some ⟨b42, 0, none⟩))]) ⟨rfl, rfl, rfl, rfl, trivial⟩; clear hE51
  refine p_tn ?_
  refine c_seq ?_
  refine c_seq ?_
  refine c_reg ?_
  refine q_step (v := .int .i64 kp) hE54 (y_move rfl) rfl rfl rfl ?_; intro a55 hE56; clear hE54
  refine q_step (v := .int .i64 0) hE56 (y_move rfl) rfl rfl rfl ?_; intro a57 hE58; clear hE56
  refine c_nil ?_
  have hE59 := hE58.sub (L' := [(3, .pointer (some ⟨b5, 0, none⟩)), (4, .pointer (some ⟨b11, 0, none⟩)), (7, .pointer (some ⟨b42, 0, none⟩)), (14, .int .i64 kp), (15, .int .i64 0)]) ⟨rfl, rfl, rfl, rfl, rfl, trivial⟩; clear hE58
  refine p_tn ?_
  refine c_cut1 (fun a' w' => ∃ q8_0A_60 : Option Addr, ∃ q8_0C_60 : Nat, ∃ q8_0H_60 : List Hd, (0 ≤ ((F_bounded_L1 mp0 mp1 mp2 np0 np1 np2 kp (Int.toNat (kp - 0) + 1) 0 ([F_linkOf mp0 mp1 mp2 np0 np1 np2 (fun x0 x1 => F_bounded_k1 x0 x1 mp0 mp1 mp2 np0 np1 np2)])).1)) ∧ ((((F_bounded_L1 mp0 mp1 mp2 np0 np1 np2 kp (Int.toNat (kp - 0) + 1) 0 ([F_linkOf mp0 mp1 mp2 np0 np1 np2 (fun x0 x1 => F_bounded_k1 x0 x1 mp0 mp1 mp2 np0 np1 np2)])).2).length : Int) = ((F_bounded_L1 mp0 mp1 mp2 np0 np1 np2 kp (Int.toNat (kp - 0) + 1) 0 ([F_linkOf mp0 mp1 mp2 np0 np1 np2 (fun x0 x1 => F_bounded_k1 x0 x1 mp0 mp1 mp2 np0 np1 np2)])).1) + 1) ∧ (RowsN mp0 ((F_bounded_L1 mp0 mp1 mp2 np0 np1 np2 kp (Int.toNat (kp - 0) + 1) 0 ([F_linkOf mp0 mp1 mp2 np0 np1 np2 (fun x0 x1 => F_bounded_k1 x0 x1 mp0 mp1 mp2 np0 np1 np2)])).2)) ∧ E a' 32 [(3, .pointer (some ⟨b5, 0, none⟩)), (4, .pointer (some ⟨b11, 0, none⟩)), (7, .pointer (some ⟨b42, 0, none⟩)), (14, .int .i64 kp), (15, .int .i64 ((F_bounded_L1 mp0 mp1 mp2 np0 np1 np2 kp (Int.toNat (kp - 0) + 1) 0 ([F_linkOf mp0 mp1 mp2 np0 np1 np2 (fun x0 x1 => F_bounded_k1 x0 x1 mp0 mp1 mp2 np0 np1 np2)])).1))] ∧ St w w' [.blk b42 #[.slice q8_0A_60 (((F_bounded_L1 mp0 mp1 mp2 np0 np1 np2 kp (Int.toNat (kp - 0) + 1) 0 ([F_linkOf mp0 mp1 mp2 np0 np1 np2 (fun x0 x1 => F_bounded_k1 x0 x1 mp0 mp1 mp2 np0 np1 np2)])).2).length) q8_0C_60] 60, .nest 22 1 (some 2) q8_0A_60 q8_0C_60 q8_0H_60 ((F_bounded_L1 mp0 mp1 mp2 np0 np1 np2 kp (Int.toNat (kp - 0) + 1) 0 ([F_linkOf mp0 mp1 mp2 np0 np1 np2 (fun x0 x1 => F_bounded_k1 x0 x1 mp0 mp1 mp2 np0 np1 np2)])).2), .blk b11 #[.int .i64 np0, .slice np1A np1.length np1C, .slice np2A np2.length np2C] 32, .blk b5 #[.int .i64 mp0, .slice mp1A mp1.length mp1C, .slice mp2A mp2.length mp2C] 32, .rd 1 np2A np2.length np2C np2, .rd 1 np1A np1.length np1C np1, .rd 1 mp2A mp2.length mp2C mp2, .rd 1 mp1A mp1.length mp1C mp1]) ?_ ?_
  ·
    refine wp_block ?_
    refine c_loop (fun r a' w' => ∃ t15 : Int, ∃ q8_0 : List (List Int), ∃ q8_0A : Option Addr, ∃ q8_0C : Nat, ∃ q8_0H : List Hd, F_bounded_L1 mp0 mp1 mp2 np0 np1 np2 kp r t15 q8_0 = F_bounded_L1 mp0 mp1 mp2 np0 np1 np2 kp (Int.toNat (kp - 0) + 1) 0 ([F_linkOf mp0 mp1 mp2 np0 np1 np2 (fun x0 x1 => F_bounded_k1 x0 x1 mp0 mp1 mp2 np0 np1 np2)]) ∧ Int.toNat (kp - t15) < r ∧ (0 ≤ t15) ∧ ((q8_0.length : Int) = t15 + 1) ∧ (RowsN mp0 q8_0) ∧ E a' 32 [(3, .pointer (some ⟨b5, 0, none⟩)), (4, .pointer (some ⟨b11, 0, none⟩)), (7, .pointer (some ⟨b42, 0, none⟩)), (14, .int .i64 kp), (15, .int .i64 t15)] ∧ St w w' [.blk b42 #[.slice q8_0A ((q8_0).length) q8_0C] 60, .nest 22 1 (some 2) q8_0A q8_0C q8_0H q8_0, .blk b11 #[.int .i64 np0, .slice np1A np1.length np1C, .slice np2A np2.length np2C] 32, .blk b5 #[.int .i64 mp0, .slice mp1A mp1.length mp1C, .slice mp2A mp2.length mp2C] 32, .rd 1 np2A np2.length np2C np2, .rd 1 np1A np1.length np1C np1, .rd 1 mp2A mp2.length mp2C mp2, .rd 1 mp1A mp1.length mp1C mp1]) (r := (Int.toNat (kp - 0) + 1)) ?_ ?_
    · exact ⟨0, [F_linkOf mp0 mp1 mp2 np0 np1 np2 (fun x0 x1 => F_bounded_k1 x0 x1 mp0 mp1 mp2 np0 np1 np2)], some ⟨b35, 0, none⟩, 1, [⟨b32, (F_linkOf mp0 mp1 mp2 np0 np1 np2 (fun x0 x1 => F_bounded_k1 x0 x1 mp0 mp1 mp2 np0 np1 np2)).length, c33⟩], rfl, Nat.lt_succ_self _, (by first | omega | (simp only [sS_len, sL_len]; omega) | (simp only [List.length_replicate, sI_len]; omega) | (simp only [List.length_append, List.length_cons, List.length_nil, sI_len, cond_true, cond_false]; omega) | (simp only [List.length_append, List.length_cons, List.length_nil, sI_len, cond_eq_ite, apply_ite List.length]; split <;> simp only [List.length_append, List.length_cons, List.length_nil, sI_len] <;> omega) | grind), (by first | omega | (simp only [sS_len, sL_len]; omega) | (simp only [List.length_replicate, sI_len]; omega) | (simp only [List.length_append, List.length_cons, List.length_nil, sI_len, cond_true, cond_false]; omega) | (simp only [List.length_append, List.length_cons, List.length_nil, sI_len, cond_eq_ite, apply_ite List.length]; split <;> simp only [List.length_append, List.length_cons, List.length_nil, sI_len] <;> omega) | grind), (RowsN.one (linkOf_len _ _ _ _ (by omega) (by omega) _)), (hE59.sub (L' := [(3, .pointer (some ⟨b5, 0, none⟩)), (4, .pointer (some ⟨b11, 0, none⟩)), (7, .pointer (some ⟨b42, 0, none⟩)), (14, .int .i64 kp), (15, .int .i64 0)]) ⟨rfl, rfl, rfl, rfl, rfl, trivial⟩), (St.pick (Γ' := [.blk b42 #[.slice (some ⟨b35, 0, none⟩) 1 1] 60, .nest 22 1 (some 2) (some ⟨b35, 0, none⟩) 1 ([⟨b32, (F_linkOf mp0 mp1 mp2 np0 np1 np2 (fun x0 x1 => F_bounded_k1 x0 x1 mp0 mp1 mp2 np0 np1 np2)).length, c33⟩]) ([F_linkOf mp0 mp1 mp2 np0 np1 np2 (fun x0 x1 => F_bounded_k1 x0 x1 mp0 mp1 mp2 np0 np1 np2)]), .blk b11 #[.int .i64 np0, .slice np1A np1.length np1C, .slice np2A np2.length np2C] 32, .blk b5 #[.int .i64 mp0, .slice mp1A mp1.length mp1C, .slice mp2A mp2.length mp2C] 32, .rd 1 np2A np2.length np2C np2, .rd 1 np1A np1.length np1C np1, .rd 1 mp2A mp2.length mp2C mp2, .rd 1 mp1A mp1.length mp1C mp1]) hS52 [0, 1, 2, 3, 4, 5, 6, 7] (by decide) rfl)⟩
    ·
      clear hE59 hS52
      rintro r70 a61 w62 ⟨t15, q8_0, q8_0A, q8_0C, q8_0H, hT65, hr66, hi67, hi68, hi69, hE63, hS64⟩
      obtain ⟨r70, rfl⟩ : ∃ r', r70 = r' + 1 := ⟨r70 - 1, by omega⟩
      refine c_seq ?_
      refine c_reg ?_
      refine q_step (v := .bool (decide (t15 < kp))) hE63 (y_lss rfl rfl) rfl rfl rfl ?_; intro a71 hE72; clear hE63
      refine c_nil ?_
      have hE73 := hE72.sub (L' := [(3, .pointer (some ⟨b5, 0, none⟩)), (4, .pointer (some ⟨b11, 0, none⟩)), (7, .pointer (some ⟨b42, 0, none⟩)), (14, .int .i64 kp), (15, .int .i64 t15), (16, .bool (decide (t15 < kp)))]) ⟨rfl, rfl, rfl, rfl, rfl, rfl, trivial⟩; clear hE72
      refine p_tn ?_
      refine c_seq ?_
      refine c_cond hE73 rfl (fun ht74 => ?_) (fun ht74 => ?_)
      ·
        have hp75 := of_decide_eq_true ht74
        have hE76 := hE73; rw [ht74] at hE76; clear hE73
        have hr0 := (show RowsN mp0 q8_0 by assumption) 0 (by omega) (by omega)
        have hrl := (show RowsN mp0 q8_0 by assumption) ((q8_0.length : Int) - 1) (by omega) (by omega)
        refine wp_skip ?_
        refine p_tn ?_
        refine c_seq ?_
        refine wp_block ?_
        refine c_seq ?_
        refine c_reg ?_
        refine q_step (v := .slice q8_0A ((q8_0).length) q8_0C) hE76 (y_load (fun _ => by kernel_rfl) rfl (St.cell (i := 0) hS64 rfl rfl)) rfl rfl rfl ?_; intro a77 hE78; clear hE76
        refine q_step (v := .slice q8_0A ((q8_0).length) q8_0C) hE78 (y_load (fun _ => by kernel_rfl) rfl (St.cell (i := 0) hS64 rfl rfl)) rfl rfl rfl ?_; intro a79 hE80; clear hE78
        refine q_step (v := .int .i64 ((q8_0).length : Int)) hE80 (y_len (e := 22) (by kernel_rfl) rfl) rfl rfl rfl ?_; intro a81 hE82; clear hE80
        refine q_step (v := .int .i64 (((q8_0).length : Int) - 1)) hE82 (y_sub rfl rfl ⟨(by omega), (by omega)⟩) rfl rfl rfl ?_; intro a83 hE84; clear hE82
        refine q_step (v := .pointer (some (adr q8_0A (Int.toNat (((q8_0).length : Int) - 1))))) hE84 (y_idx (by kernel_rfl) (fun _ => by kernel_rfl) rfl rfl (RdN.isS (m := ((q8_0).length : Int) - 1) (St.rdNo (i := 1) hS64 rfl) (by omega) (by omega)) (by omega) (by omega) (Nat.mul_one _).symm) rfl rfl rfl ?_; intro a85 hE86; clear hE84
        have hv87 : (0 : Int) ≤ (((q8_0).length : Int) - 1) ∧ (((q8_0).length : Int) - 1) < ((q8_0).length : Int) := ⟨(by omega), (by omega)⟩
        refine q_step (v := .slice (hdA q8_0H (((q8_0).length : Int) - 1)) ((gL q8_0 (((q8_0).length : Int) - 1)).length) (hdC q8_0H (((q8_0).length : Int) - 1))) hE86 (y_load (fun _ => by kernel_rfl) rfl (RdN.elt1 (St.rdNo (i := 1) hS64 rfl) (by omega) (by omega))) rfl rfl rfl ?_; intro a89 hE90; clear hE86
        refine l_step hE90 rfl (l_alloc (z := .slice none 0 0) (cs := #[.slice none 0 0]) hS64 hE90 (fun _ => by kernel_rfl) rfl rfl ?_)
        intro b91 w92 hS95 he96 a93 hE94; clear hS64 hE90
        refine l_step hE94 rfl (l_storeB (k := 0) (cs' := #[.slice (hdA q8_0H (((q8_0).length : Int) - 1)) ((gL q8_0 (((q8_0).length : Int) - 1)).length) (hdC q8_0H (((q8_0).length : Int) - 1))]) hS95 hE94 (fun _ => by kernel_rfl) rfl rfl rfl rfl rfl rfl rfl ?_)
        intro w98 hS101 a99 hE100; clear hS95 hE94
        refine c_nil ?_
        have hE103 := hE100.sub (L' := [(3, .pointer (some ⟨b5, 0, none⟩)), (4, .pointer (some ⟨b11, 0, none⟩)), (7, .pointer (some ⟨b42, 0, none⟩)), (8, .pointer (some ⟨b91, 0, none⟩)), (14, .int .i64 kp), (15, .int .i64 t15)]) ⟨rfl, rfl, rfl, rfl, rfl, rfl, trivial⟩; clear hE100
        refine p_tn ?_
        refine d_start (fun w w' => (fun w' => w'.cell? ⟨b42, 0, none⟩ = some (.slice q8_0A ((q8_0).length) q8_0C) ∧ w'.heap[b5]? = some (.cells #[.int .i64 mp0, .slice mp1A mp1.length mp1C, .slice mp2A mp2.length mp2C] 32 (0, 0)) ∧ w'.heap[b11]? = some (.cells #[.int .i64 np0, .slice np1A np1.length np1C, .slice np2A np2.length np2C] 32 (0, 0)) ∧ True) w → (fun w' => w'.cell? ⟨b42, 0, none⟩ = some (.slice q8_0A ((q8_0).length) q8_0C) ∧ w'.heap[b5]? = some (.cells #[.int .i64 mp0, .slice mp1A mp1.length mp1C, .slice mp2A mp2.length mp2C] 32 (0, 0)) ∧ w'.heap[b11]? = some (.cells #[.int .i64 np0, .slice np1A np1.length np1C, .slice np2A np2.length np2C] 32 (0, 0)) ∧ True) w') [0, 1, 2] 8 (by kernel_rfl) rfl ?_
        intro w104 he105; have hS106 := St.go hS101 he105; clear hS101
        refine d_take (fun _ h => h) (fun _ _ h k => h k) (v := .slice q8_0A ((q8_0).length) q8_0C) 0 rfl hE103 (S := fun w' => w'.cell? ⟨b42, 0, none⟩ = some (.slice q8_0A ((q8_0).length) q8_0C) ∧ w'.heap[b5]? = some (.cells #[.int .i64 mp0, .slice mp1A mp1.length mp1C, .slice mp2A mp2.length mp2C] 32 (0, 0)) ∧ w'.heap[b11]? = some (.cells #[.int .i64 np0, .slice np1A np1.length np1C, .slice np2A np2.length np2C] 32 (0, 0)) ∧ True) ⟨(St.cell (i := 1) hS106 rfl rfl _ (Ext.refl _)), (St.row (i := 4) hS106 rfl _ (Ext.refl _)), (St.row (i := 3) hS106 rfl _ (Ext.refl _)), trivial⟩ (y_load (fun _ => by kernel_rfl) rfl (fun _ h => h.1)) rfl rfl (by kernel_rfl) (by kernel_rfl) (by kernel_rfl) (by kernel_rfl) rfl rfl (fun _ _ _ h => h) ?_; intro a107 hE108; clear hE103
        refine d_take (fun _ h => h) (fun _ _ h k => h k) (v := .agg #[.int .i64 mp0, .slice mp1A mp1.length mp1C, .slice mp2A mp2.length mp2C]) 1 rfl hE108 (S := fun w' => w'.cell? ⟨b42, 0, none⟩ = some (.slice q8_0A ((q8_0).length) q8_0C) ∧ w'.heap[b5]? = some (.cells #[.int .i64 mp0, .slice mp1A mp1.length mp1C, .slice mp2A mp2.length mp2C] 32 (0, 0)) ∧ w'.heap[b11]? = some (.cells #[.int .i64 np0, .slice np1A np1.length np1C, .slice np2A np2.length np2C] 32 (0, 0)) ∧ True) ⟨(St.cell (i := 1) hS106 rfl rfl _ (Ext.refl _)), (St.row (i := 4) hS106 rfl _ (Ext.refl _)), (St.row (i := 3) hS106 rfl _ (Ext.refl _)), trivial⟩ (y_loadS Try.underlying32 rfl (by kernel_rfl) rfl (fun _ h => h.2.1)) rfl rfl (by kernel_rfl) (by kernel_rfl) (by kernel_rfl) (by kernel_rfl) rfl rfl (fun _ _ _ h => h) ?_; intro a109 hE110; clear hE108
        refine d_take (fun _ h => h) (fun _ _ h k => h k) (v := .agg #[.int .i64 np0, .slice np1A np1.length np1C, .slice np2A np2.length np2C]) 2 rfl hE110 (S := fun w' => w'.cell? ⟨b42, 0, none⟩ = some (.slice q8_0A ((q8_0).length) q8_0C) ∧ w'.heap[b5]? = some (.cells #[.int .i64 mp0, .slice mp1A mp1.length mp1C, .slice mp2A mp2.length mp2C] 32 (0, 0)) ∧ w'.heap[b11]? = some (.cells #[.int .i64 np0, .slice np1A np1.length np1C, .slice np2A np2.length np2C] 32 (0, 0)) ∧ True) ⟨(St.cell (i := 1) hS106 rfl rfl _ (Ext.refl _)), (St.row (i := 4) hS106 rfl _ (Ext.refl _)), (St.row (i := 3) hS106 rfl _ (Ext.refl _)), trivial⟩ (y_loadS Try.underlying32 rfl (by kernel_rfl) rfl (fun _ h => h.2.2.1)) rfl rfl (by kernel_rfl) (by kernel_rfl) (by kernel_rfl) (by kernel_rfl) rfl rfl (fun _ _ _ h => h) ?_; intro a111 hE112; clear hE110
        refine d_pure (fun _ h => h) (v := .func (.func 154) #[] #[.pointer (some ⟨b42, 0, none⟩), .pointer (some ⟨b5, 0, none⟩), .pointer (some ⟨b11, 0, none⟩), .pointer (some ⟨b91, 0, none⟩)]) 3 rfl hE112 (y_makeFunc (vs := [.pointer (some ⟨b42, 0, none⟩), .pointer (some ⟨b5, 0, none⟩), .pointer (some ⟨b11, 0, none⟩), .pointer (some ⟨b91, 0, none⟩)]) rfl) rfl (by kernel_rfl) (by kernel_rfl) (by kernel_rfl) rfl rfl (fun _ _ _ h => h) ?_; intro a113 hE114; clear hE112
        refine d_only 4 (by kernel_rfl) rfl hE114 rfl (l_call (f := 151) (argv := [.agg #[.int .i64 mp0, .slice mp1A mp1.length mp1C, .slice mp2A mp2.length mp2C], .agg #[.int .i64 np0, .slice np1A np1.length np1C, .slice np2A np2.length np2C], .func (.func 154) #[] #[.pointer (some ⟨b42, 0, none⟩), .pointer (some ⟨b5, 0, none⟩), .pointer (some ⟨b11, 0, none⟩), .pointer (some ⟨b91, 0, none⟩)]]) hE114 (fun _ => cf_linkOf _ _) rfl rfl (c_linkOf mp0 mp1A mp1.length mp1C mp1 mp2A mp2.length mp2C mp2 np0 np1A np1.length np1C np1 np2A np2.length np2C np2 154 [.pointer (some ⟨b42, 0, none⟩), .pointer (some ⟨b5, 0, none⟩), .pointer (some ⟨b11, 0, none⟩), .pointer (some ⟨b91, 0, none⟩)] (fun x0 x1 => F_bounded_k2 x0 x1 q8_0 mp0 mp1 mp2 np0 np1 np2 (gL q8_0 (((q8_0).length : Int) - 1))) (fun x y => (0 ≤ x ∧ x < mp0) ∧ 0 ≤ y ∧ y < np0) w104 (St.rdR (i := 8) hS106 rfl) (St.rdR (i := 7) hS106 rfl) (St.rdR (i := 6) hS106 rfl) (St.rdR (i := 5) hS106 rfl) (fun _ _ => cf_bounded_k2 _ _) (fun x0 x1 w' hx he => c_bounded_k2 x0 x1 b42 q8_0A ((q8_0).length) q8_0C q8_0H q8_0 b5 mp0 mp1A mp1.length mp1C mp1 mp2A mp2.length mp2C mp2 b11 np0 np1A np1.length np1C np1 np2A np2.length np2C np2 b91 (hdA q8_0H (((q8_0).length : Int) - 1)) ((gL q8_0 (((q8_0).length : Int) - 1)).length) (hdC q8_0H (((q8_0).length : Int) - 1)) (gL q8_0 (((q8_0).length : Int) - 1)) w' (RdN.ext (St.rdNo (i := 2) hS106 rfl) he) (St.row (i := 1) hS106 rfl w' he) (RdS.ext (St.rdR (i := 8) hS106 rfl) he) (RdS.ext (St.rdR (i := 7) hS106 rfl) he) (St.row (i := 4) hS106 rfl w' he) (RdS.ext (St.rdR (i := 6) hS106 rfl) he) (RdS.ext (St.rdR (i := 5) hS106 rfl) he) (St.row (i := 3) hS106 rfl w' he) (RdS.ext (RdN.row1 (St.rdNo (i := 2) hS106 rfl) hv87.1 hv87.2) he) (St.row (i := 0) hS106 rfl w' he) hx.1 hx.2 (by omega) (by omega) (by omega) (by omega) hrl hfm (by omega) hr0) (by omega) (by omega) (fun x y h0 h1 h2 h3 => ⟨⟨h0, h1⟩, h2, h3⟩)) ?_)
        rintro _ w116 ⟨b121, c122, rfl, ho123, he120⟩ a117 hE118; clear hE114
        have hS119 := St.own hS106 he120 ho123; clear hS106
        refine ⟨fun _ _ => ⟨(St.cell (i := 2) hS119 rfl rfl _ (Ext.refl _)), (St.row (i := 5) hS119 rfl _ (Ext.refl _)), (St.row (i := 4) hS119 rfl _ (Ext.refl _)), trivial⟩, ?_⟩
        have hS130 := (St.pick (Γ' := [.own 2 1 b121 ((F_linkOf mp0 mp1 mp2 np0 np1 np2 (fun x0 x1 => F_bounded_k2 x0 x1 q8_0 mp0 mp1 mp2 np0 np1 np2 (gL q8_0 (((q8_0).length : Int) - 1)))).length) c122 (F_linkOf mp0 mp1 mp2 np0 np1 np2 (fun x0 x1 => F_bounded_k2 x0 x1 q8_0 mp0 mp1 mp2 np0 np1 np2 (gL q8_0 (((q8_0).length : Int) - 1)))), .blk b91 #[.slice (hdA q8_0H (((q8_0).length : Int) - 1)) ((gL q8_0 (((q8_0).length : Int) - 1)).length) (hdC q8_0H (((q8_0).length : Int) - 1))] 22, .blk b42 #[.slice q8_0A ((q8_0).length) q8_0C] 60, .nest 22 1 (some 2) q8_0A q8_0C q8_0H q8_0, .blk b11 #[.int .i64 np0, .slice np1A np1.length np1C, .slice np2A np2.length np2C] 32, .blk b5 #[.int .i64 mp0, .slice mp1A mp1.length mp1C, .slice mp2A mp2.length mp2C] 32, .rd 1 np2A np2.length np2C np2, .rd 1 np1A np1.length np1C np1, .rd 1 mp2A mp2.length mp2C mp2, .rd 1 mp1A mp1.length mp1C mp1]) hS119 [0, 1, 2, 3, 4, 5, 6, 7, 8, 9] (by decide) rfl); clear hS119
        refine d_only 5 (by kernel_rfl) rfl hE118 rfl (l_litO1 (e := 22) hS130 hE118 rfl (fun _ => by kernel_rfl) rfl ?_)
        intro b124 w125 hS128 he129 a126 hE127; clear hS130 hE118
        refine ⟨fun _ _ => ⟨(St.cell (i := 2) hS128 rfl rfl _ (Ext.refl _)), (St.row (i := 5) hS128 rfl _ (Ext.refl _)), (St.row (i := 4) hS128 rfl _ (Ext.refl _)), trivial⟩, ?_⟩
        have hS137 := (St.pick (Γ' := [.nest 22 1 (some 2) (some ⟨b124, 0, none⟩) 1 ([⟨b121, (F_linkOf mp0 mp1 mp2 np0 np1 np2 (fun x0 x1 => F_bounded_k2 x0 x1 q8_0 mp0 mp1 mp2 np0 np1 np2 (gL q8_0 (((q8_0).length : Int) - 1)))).length, c122⟩]) ([F_linkOf mp0 mp1 mp2 np0 np1 np2 (fun x0 x1 => F_bounded_k2 x0 x1 q8_0 mp0 mp1 mp2 np0 np1 np2 (gL q8_0 (((q8_0).length : Int) - 1)))]), .blk b91 #[.slice (hdA q8_0H (((q8_0).length : Int) - 1)) ((gL q8_0 (((q8_0).length : Int) - 1)).length) (hdC q8_0H (((q8_0).length : Int) - 1))] 22, .blk b42 #[.slice q8_0A ((q8_0).length) q8_0C] 60, .nest 22 1 (some 2) q8_0A q8_0C q8_0H q8_0, .blk b11 #[.int .i64 np0, .slice np1A np1.length np1C, .slice np2A np2.length np2C] 32, .blk b5 #[.int .i64 mp0, .slice mp1A mp1.length mp1C, .slice mp2A mp2.length mp2C] 32, .rd 1 np2A np2.length np2C np2, .rd 1 np1A np1.length np1C np1, .rd 1 mp2A mp2.length mp2C mp2, .rd 1 mp1A mp1.length mp1C mp1]) hS128 [0, 1, 2, 3, 4, 5, 6, 7, 8, 9] (by decide) rfl); clear hS128
        obtain ⟨_, hi1, hi2, hi3, hi4⟩ := info_parts (show (Try.prog.info? 22).map (fun i => (i.zero, i.size, i.bytes)) = some (some (.slice none 0 0), 1, 24) by kernel_rfl)
        refine d_only 6 (by kernel_rfl) rfl hE127 rfl (l_appendN (k := 2) hS137 hE127 (by kernel_rfl) hi1 hi2 hi3 rfl (by rw [hi4]; decide) rfl rfl rfl rfl rfl rfl (by first | omega | (simp only [List.length_append, List.length_cons, List.length_nil]; omega)) rfl ?_)
        intro b131 c138 w132 hS135 a133 hE134; clear hS137 hE127 hi1 hi2 hi3 hi4
        refine ⟨fun h => Bool.noConfusion (h.symm.trans (show exm _ _ _ = true by kernel_rfl)), ?_⟩
        refine d_only 7 (by kernel_rfl) rfl hE134 rfl (l_storeB (k := 1) (cs' := #[.slice b131 ((q8_0 ++ ([F_linkOf mp0 mp1 mp2 np0 np1 np2 (fun x0 x1 => F_bounded_k2 x0 x1 q8_0 mp0 mp1 mp2 np0 np1 np2 (gL q8_0 (((q8_0).length : Int) - 1)))])).length) c138]) hS135 hE134 (fun _ => by kernel_rfl) rfl rfl rfl rfl rfl rfl rfl ?_)
        intro w140 hS143 a141 hE142; clear hS135 hE134
        refine ⟨fun h => Bool.noConfusion (h.symm.trans (show exm _ _ _ = true by kernel_rfl)), ?_⟩
        refine d_done (by kernel_rfl) ?_
        have hE145 := hE142.sub (L' := [(3, .pointer (some ⟨b5, 0, none⟩)), (4, .pointer (some ⟨b11, 0, none⟩)), (7, .pointer (some ⟨b42, 0, none⟩)), (14, .int .i64 kp), (15, .int .i64 t15)]) ⟨rfl, rfl, rfl, rfl, rfl, trivial⟩; clear hE142
        refine p_bn ?_
        refine p_tn ?_
        refine c_reg ?_
        refine q_step (v := .int .i64 (t15 + 1)) hE145 (y_add rfl rfl ⟨(by omega), (by omega)⟩) rfl rfl rfl ?_; intro a146 hE147; clear hE145
        refine q_step (v := .int .i64 (t15 + 1)) hE147 (y_move rfl) rfl rfl rfl ?_; intro a148 hE149; clear hE147
        refine c_nil ?_
        have hE150 := hE149.sub (L' := [(3, .pointer (some ⟨b5, 0, none⟩)), (4, .pointer (some ⟨b11, 0, none⟩)), (7, .pointer (some ⟨b42, 0, none⟩)), (14, .int .i64 kp), (15, .int .i64 (t15 + 1))]) ⟨rfl, rfl, rfl, rfl, rfl, trivial⟩; clear hE149
        refine p_tn ⟨r70, Nat.lt_succ_self _, t15 + 1, q8_0 ++ ([F_linkOf mp0 mp1 mp2 np0 np1 np2 (fun x0 x1 => F_bounded_k2 x0 x1 q8_0 mp0 mp1 mp2 np0 np1 np2 (gL q8_0 (((q8_0).length : Int) - 1)))]), b131, c138, q8_0H ++ ([⟨b121, (F_linkOf mp0 mp1 mp2 np0 np1 np2 (fun x0 x1 => F_bounded_k2 x0 x1 q8_0 mp0 mp1 mp2 np0 np1 np2 (gL q8_0 (((q8_0).length : Int) - 1)))).length, c122⟩]), (hT65.symm.trans (show F_bounded_L1b mp0 mp1 mp2 np0 np1 np2 kp (F_bounded_L1 mp0 mp1 mp2 np0 np1 np2 kp r70) t15 q8_0 = F_bounded_L1 mp0 mp1 mp2 np0 np1 np2 kp r70 (t15 + 1) (q8_0 ++ ([F_linkOf mp0 mp1 mp2 np0 np1 np2 (fun x0 x1 => F_bounded_k2 x0 x1 q8_0 mp0 mp1 mp2 np0 np1 np2 (gL q8_0 (((q8_0).length : Int) - 1)))])) by unfold F_bounded_L1b; rw [ht74]; first | done | rfl)).symm, (by omega), (by first | omega | (simp only [sS_len, sL_len]; omega) | (simp only [List.length_replicate, sI_len]; omega) | (simp only [List.length_append, List.length_cons, List.length_nil, sI_len, cond_true, cond_false]; omega) | (simp only [List.length_append, List.length_cons, List.length_nil, sI_len, cond_eq_ite, apply_ite List.length]; split <;> simp only [List.length_append, List.length_cons, List.length_nil, sI_len] <;> omega) | grind), (by rw [app1_len]; omega), (RowsN.app (by assumption) (linkOf_len _ _ _ _ (by omega) (by omega) _)), (hE150.sub (L' := [(3, .pointer (some ⟨b5, 0, none⟩)), (4, .pointer (some ⟨b11, 0, none⟩)), (7, .pointer (some ⟨b42, 0, none⟩)), (14, .int .i64 kp), (15, .int .i64 (t15 + 1))]) ⟨rfl, rfl, rfl, rfl, rfl, trivial⟩), (St.pick (Γ' := [.blk b42 #[.slice b131 ((q8_0 ++ ([F_linkOf mp0 mp1 mp2 np0 np1 np2 (fun x0 x1 => F_bounded_k2 x0 x1 q8_0 mp0 mp1 mp2 np0 np1 np2 (gL q8_0 (((q8_0).length : Int) - 1)))])).length) c138] 60, .nest 22 1 (some 2) b131 c138 (q8_0H ++ ([⟨b121, (F_linkOf mp0 mp1 mp2 np0 np1 np2 (fun x0 x1 => F_bounded_k2 x0 x1 q8_0 mp0 mp1 mp2 np0 np1 np2 (gL q8_0 (((q8_0).length : Int) - 1)))).length, c122⟩])) (q8_0 ++ ([F_linkOf mp0 mp1 mp2 np0 np1 np2 (fun x0 x1 => F_bounded_k2 x0 x1 q8_0 mp0 mp1 mp2 np0 np1 np2 (gL q8_0 (((q8_0).length : Int) - 1)))])), .blk b11 #[.int .i64 np0, .slice np1A np1.length np1C, .slice np2A np2.length np2C] 32, .blk b5 #[.int .i64 mp0, .slice mp1A mp1.length mp1C, .slice mp2A mp2.length mp2C] 32, .rd 1 np2A np2.length np2C np2, .rd 1 np1A np1.length np1C np1, .rd 1 mp2A mp2.length mp2C mp2, .rd 1 mp1A mp1.length mp1C mp1]) hS143 [1, 2, 3, 4, 5, 6, 7, 8] (by decide) rfl)⟩
      ·
        have hp151 := of_decide_eq_false ht74
        have hE152 := hE73; rw [ht74] at hE152; clear hE73
        refine wp_exit ?_
        refine p_te ?_
        have hX153 : F_bounded_L1 mp0 mp1 mp2 np0 np1 np2 kp (Int.toNat (kp - 0) + 1) 0 ([F_linkOf mp0 mp1 mp2 np0 np1 np2 (fun x0 x1 => F_bounded_k1 x0 x1 mp0 mp1 mp2 np0 np1 np2)]) = (t15, q8_0) := hT65.symm.trans (show F_bounded_L1b mp0 mp1 mp2 np0 np1 np2 kp (F_bounded_L1 mp0 mp1 mp2 np0 np1 np2 kp r70) t15 q8_0 = (t15, q8_0) by unfold F_bounded_L1b; rw [ht74]; first | done | rfl)
        refine p_te (p_be (p_tn ?_))
        exact ⟨q8_0A, q8_0C, q8_0H, (by rw [hX153]; exact (show 0 ≤ t15 from (by first | omega | (simp only [sS_len, sL_len]; omega) | (simp only [List.length_replicate, sI_len]; omega) | (simp only [List.length_append, List.length_cons, List.length_nil, sI_len, cond_true, cond_false]; omega) | (simp only [List.length_append, List.length_cons, List.length_nil, sI_len, cond_eq_ite, apply_ite List.length]; split <;> simp only [List.length_append, List.length_cons, List.length_nil, sI_len] <;> omega) | grind))), (by rw [hX153]; exact (show (q8_0.length : Int) = t15 + 1 from (by first | omega | (simp only [sS_len, sL_len]; omega) | (simp only [List.length_replicate, sI_len]; omega) | (simp only [List.length_append, List.length_cons, List.length_nil, sI_len, cond_true, cond_false]; omega) | (simp only [List.length_append, List.length_cons, List.length_nil, sI_len, cond_eq_ite, apply_ite List.length]; split <;> simp only [List.length_append, List.length_cons, List.length_nil, sI_len] <;> omega) | grind))), (by rw [hX153]; exact (show RowsN mp0 q8_0 from (by first | omega | (simp only [sS_len, sL_len]; omega) | (simp only [List.length_replicate, sI_len]; omega) | (simp only [List.length_append, List.length_cons, List.length_nil, sI_len, cond_true, cond_false]; omega) | (simp only [List.length_append, List.length_cons, List.length_nil, sI_len, cond_eq_ite, apply_ite List.length]; split <;> simp only [List.length_append, List.length_cons, List.length_nil, sI_len] <;> omega) | grind))), (by rw [hX153]; exact (hE152.sub (L' := [(3, .pointer (some ⟨b5, 0, none⟩)), (4, .pointer (some ⟨b11, 0, none⟩)), (7, .pointer (some ⟨b42, 0, none⟩)), (14, .int .i64 kp), (15, .int .i64 t15)]) ⟨rfl, rfl, rfl, rfl, rfl, trivial⟩)), (by rw [hX153]; exact (St.pick (Γ' := [.blk b42 #[.slice q8_0A ((q8_0).length) q8_0C] 60, .nest 22 1 (some 2) q8_0A q8_0C q8_0H q8_0, .blk b11 #[.int .i64 np0, .slice np1A np1.length np1C, .slice np2A np2.length np2C] 32, .blk b5 #[.int .i64 mp0, .slice mp1A mp1.length mp1C, .slice mp2A mp2.length mp2C] 32, .rd 1 np2A np2.length np2C np2, .rd 1 np1A np1.length np1C np1, .rd 1 mp2A mp2.length mp2C mp2, .rd 1 mp1A mp1.length mp1C mp1]) hS64 [0, 1, 2, 3, 4, 5, 6, 7] (by decide) rfl))⟩
  ·
    rintro a154 w155 ⟨q8_0A_60, q8_0C_60, q8_0H_60, hi159, hi160, hi161, hE156, hS157⟩; clear hE59 hS52
    refine p_tn ?_
    refine c_seq ?_
    refine c_reg ?_
    refine q_step (v := .slice q8_0A_60 (((F_bounded_L1 mp0 mp1 mp2 np0 np1 np2 kp (Int.toNat (kp - 0) + 1) 0 ([F_linkOf mp0 mp1 mp2 np0 np1 np2 (fun x0 x1 => F_bounded_k1 x0 x1 mp0 mp1 mp2 np0 np1 np2)])).2).length) q8_0C_60) hE156 (y_load (fun _ => by kernel_rfl) rfl (St.cell (i := 0) hS157 rfl rfl)) rfl rfl rfl ?_; intro a162 hE163; clear hE156
    refine q_step (v := .slice q8_0A_60 (((F_bounded_L1 mp0 mp1 mp2 np0 np1 np2 kp (Int.toNat (kp - 0) + 1) 0 ([F_linkOf mp0 mp1 mp2 np0 np1 np2 (fun x0 x1 => F_bounded_k1 x0 x1 mp0 mp1 mp2 np0 np1 np2)])).2).length) q8_0C_60) hE163 (y_assign rfl) rfl rfl rfl ?_; intro a164 hE165; clear hE163
    refine c_nil ?_
    have hE166 := hE165.sub (L' := [(6, .slice q8_0A_60 (((F_bounded_L1 mp0 mp1 mp2 np0 np1 np2 kp (Int.toNat (kp - 0) + 1) 0 ([F_linkOf mp0 mp1 mp2 np0 np1 np2 (fun x0 x1 => F_bounded_k1 x0 x1 mp0 mp1 mp2 np0 np1 np2)])).2).length) q8_0C_60)]) ⟨rfl, trivial⟩; clear hE165
    refine p_tn ?_
    refine wp_ret ?_
    have hF : F_bounded mp0 mp1 mp2 np0 np1 np2 kp = (F_bounded_L1 mp0 mp1 mp2 np0 np1 np2 kp (Int.toNat (kp - 0) + 1) 0 ([F_linkOf mp0 mp1 mp2 np0 np1 np2 (fun x0 x1 => F_bounded_k1 x0 x1 mp0 mp1 mp2 np0 np1 np2)])).2 := by unfold F_bounded; rfl
    refine c_ret1 hE166 rfl rfl ?_
    exact ⟨q8_0A_60, q8_0C_60, q8_0H_60, (by rw [hF]; first | done | (dsimp only; done) | rfl), (by rw [hF]; (try dsimp only); exact St.okN (i := 1) hS157 rfl), hS157.ext⟩

theorem l07Step_len2 {mp0 : Int} {mp1 mp2 : List Int} {np0 : Int} {np1 np2 l : List Int} (h : 0 ≤ mp0) : ((F_l07Step mp0 mp1 mp2 np0 np1 np2 l).length : Int) = mp0 := by
  rw [l07Step_len]; omega
theorem lkT_app (T : Nat → List Int) (k : Nat) : (List.range (k + 1)).map T ++ [T (k + 1)] = (List.range (k + 2)).map T := by
  rw [List.range_succ (n := k + 1), List.map_append]; rfl
theorem linkOf_map {mp0 np0 : Int} (mp1 mp2 np1 np2 : List Int) (hm : 0 ≤ mp0 ∧ mp0 ≤ 8) (hn : 0 ≤ np0 ∧ np0 ≤ 8) (holds : Int → Int → Bool) : F_linkOf mp0 mp1 mp2 np0 np1 np2 holds = (List.range mp0.toNat).map (fun (x : Nat) => (List.range np0.toNat).foldl (fun o (y : Nat) => bif holds (x : Int) (y : Int) then orI o (powI (y : Int)) else o) 0) := by
  obtain ⟨h1, h2⟩ := linkOf_rows mp1 mp2 np1 np2 hm hn holds
  refine list_map_ext (by omega) fun j hj => h2 j (by omega)
theorem foldl_bif_congr {n : Nat} {p q : Nat → Bool} (h : ∀ y, y < n → p y = q y) (g : Int → Nat → Int) (o : Int) : (List.range n).foldl (fun o y => bif p y then g o y else o) o = (List.range n).foldl (fun o y => bif q y then g o y else o) o := by
  induction n with
  | zero => rfl
  | succ n ih =>
    rw [List.range_succ, List.foldl_append, List.foldl_append, ih (fun y hy => h y (by omega))]
    simp only [List.foldl_cons, List.foldl_nil, h n (Nat.lt_succ_self n)]

def F_l07Start_L2b (mp0 : Int) (mp1 : List Int) (mp2 : List Int) (np0 : Int) (np1 : List Int) (np2 : List Int) (x6 : Int) (rec : Int → Int → Int × Int) (mask7L2 : Int) (y8L2 : Int) : Int × Int :=
  bif (decide (y8L2 < np0)) then (rec (bif (F_l07Atoms mp0 mp1 mp2 np0 np1 np2 x6 y8L2) then orI mask7L2 (powI y8L2) else mask7L2) (y8L2 + 1)) else (mask7L2, y8L2)
def F_l07Start_L2 (mp0 : Int) (mp1 : List Int) (mp2 : List Int) (np0 : Int) (np1 : List Int) (np2 : List Int) (x6 : Int) : Nat → Int → Int → Int × Int
  | 0, mask7L2, y8L2 => (mask7L2, y8L2)
  | r + 1, mask7L2, y8L2 => F_l07Start_L2b mp0 mp1 mp2 np0 np1 np2 x6 (F_l07Start_L2 mp0 mp1 mp2 np0 np1 np2 x6 r) mask7L2 y8L2
def F_l07Start_L1b (mp0 : Int) (mp1 : List Int) (mp2 : List Int) (np0 : Int) (np1 : List Int) (np2 : List Int) (rec : (List Int) → Int → (List Int) × Int) (out5 : List Int) (x6 : Int) : (List Int) × Int :=
  bif (decide (x6 < mp0)) then (rec (out5 ++ ([(F_l07Start_L2 mp0 mp1 mp2 np0 np1 np2 x6 (Int.toNat (np0 - 0) + 1) 0 0).1])) (x6 + 1)) else (out5, x6)
def F_l07Start_L1 (mp0 : Int) (mp1 : List Int) (mp2 : List Int) (np0 : Int) (np1 : List Int) (np2 : List Int) : Nat → (List Int) → Int → (List Int) × Int
  | 0, out5, x6 => (out5, x6)
  | r + 1, out5, x6 => F_l07Start_L1b mp0 mp1 mp2 np0 np1 np2 (F_l07Start_L1 mp0 mp1 mp2 np0 np1 np2 r) out5 x6
def F_l07Start (mp0 : Int) (mp1 : List Int) (mp2 : List Int) (np0 : Int) (np1 : List Int) (np2 : List Int) : List Int :=
  (F_l07Start_L1 mp0 mp1 mp2 np0 np1 np2 (Int.toNat (mp0 - 0) + 1) ([]) 0).1
theorem cf_l07Start (args : Array Value) (w : World) : (callFunc 149 args).run Try.prog w = .ok (.enter 149 args) w := by kernel_rfl
set_option maxRecDepth 100000 in
theorem c_l07Start (mp0 : Int) (mp1A : Option Addr) (mp1N mp1C : Nat) (mp1 : List Int) (mp2A : Option Addr) (mp2N mp2C : Nat) (mp2 : List Int) (np0 : Int) (np1A : Option Addr) (np1N np1C : Nat) (np1 : List Int) (np2A : Option Addr) (np2N np2C : Nat) (np2 : List Int) (w : World) (mp1R : RdS w 1 mp1A mp1N mp1C mp1) (mp2R : RdS w 1 mp2A mp2N mp2C mp2) (np1R : RdS w 1 np1A np1N np1C np1) (np2R : RdS w 1 np2A np2N np2C np2) (h6mp : (mp2.length : Int) = 6) (hwmp : 0 ≤ mp0 ∧ mp0 ≤ 8) (hlmp : (mp1.length : Int) = mp0) (h6np : (np2.length : Int) = 6) (hwnp : 0 ≤ np0 ∧ np0 ≤ 8) (hlnp : (np1.length : Int) = np0) :
    Calls Try.prog 149 #[.agg #[.int .i64 mp0, .slice mp1A mp1N mp1C, .slice mp2A mp2N mp2C], .agg #[.int .i64 np0, .slice np1A np1N np1C, .slice np2A np2N np2C]] w (Ret fun v w' => ∃ b1 : Option Addr, ∃ c1 : Nat, v = .slice b1 (F_l07Start mp0 mp1 mp2 np0 np1 np2).length c1 ∧ OwnS w' w.heap.size 2 1 b1 (F_l07Start mp0 mp1 mp2 np0 np1 np2).length c1 (F_l07Start mp0 mp1 mp2 np0 np1 np2) ∧ Ext w w') := by
  obtain rfl : mp1N = mp1.length := mp1R.len1.symm
  have mp1Le := mp1R.le
  obtain rfl : mp2N = mp2.length := mp2R.len1.symm
  have mp2Le := mp2R.le
  obtain rfl : np1N = np1.length := np1R.len1.symm
  have np1Le := np1R.le
  obtain rfl : np2N = np2.length := np2R.len1.symm
  have np2Le := np2R.le
  have hS := St.nil w
  have hS1 := St.rd0 hS rfl mp1R; clear hS
  have hS2 := St.rd0 hS1 rfl mp2R; clear hS1
  have hS3 := St.rd0 hS2 rfl np1R; clear hS2
  have hS4 := St.rd0 hS3 rfl np2R; clear hS3
  refine enter (args := [.agg #[.int .i64 mp0, .slice mp1A mp1.length mp1C, .slice mp2A mp2.length mp2C], .agg #[.int .i64 np0, .slice np1A np1.length np1C, .slice np2A np2.length np2C]]) Try.func149 rfl rfl ?_
  rw [Try.ntmps149]; intro a hE
  have hE := hE.sub (L' := [(0, .agg #[.int .i64 mp0, .slice mp1A mp1.length mp1C, .slice mp2A mp2.length mp2C]), (1, .agg #[.int .i64 np0, .slice np1A np1.length np1C, .slice np2A np2.length np2C])]) ⟨rfl, rfl, trivial⟩
  refine c_seq ?_
  refine c_reg ?_
  refine l_step hE rfl (l_box (v := .agg #[.int .i64 mp0, .slice mp1A mp1.length mp1C, .slice mp2A mp2.length mp2C]) (cs := #[.int .i64 mp0, .slice mp1A mp1.length mp1C, .slice mp2A mp2.length mp2C]) hS4 hE rfl rfl rfl ?_)
  intro b5 w6 hS9 he10 a7 hE8; clear hS4 hE
  refine l_step hE8 rfl (l_box (v := .agg #[.int .i64 np0, .slice np1A np1.length np1C, .slice np2A np2.length np2C]) (cs := #[.int .i64 np0, .slice np1A np1.length np1C, .slice np2A np2.length np2C]) hS9 hE8 rfl rfl rfl ?_)
  intro b11 w12 hS15 he16 a13 hE14; clear hS9 hE8
  refine q_step (v := .slice none 0 0) hE14 (y_assign rfl) rfl rfl rfl ?_; intro a17 hE18; clear hE14
  refine c_nil ?_
  have hE19 := hE18.sub (L' := [(2, .pointer (some ⟨b5, 0, none⟩)), (3, .pointer (some ⟨b11, 0, none⟩))]) ⟨rfl, rfl, trivial⟩; clear hE18
  refine p_tn ?_
  refine c_seq ?_
  refine c_reg ?_
  refine l_step hE19 rfl (l_lit (e := 2) (s := 1) (xs := []) (vs := []) hS15 hE19 rfl (fun _ => by kernel_rfl) rfl rfl rfl ?_)
  intro b20 w21 hS24 he25 a22 hE23; clear hS15 hE19
  refine q_step (v := .slice (some ⟨b20, 0, none⟩) 0 0) hE23 (y_assign rfl) rfl rfl rfl ?_; intro a26 hE27; clear hE23
  refine c_nil ?_
  have hE28 := hE27.sub (L' := [(2, .pointer (some ⟨b5, 0, none⟩)), (3, .pointer (some ⟨b11, 0, none⟩)), (5, .slice (some ⟨b20, 0, none⟩) 0 0)]) ⟨rfl, rfl, rfl, trivial⟩; clear hE27
  refine p_tn ?_
  refine c_seq ?_
  refine c_seq ?_
  refine c_reg ?_
  refine q_step (v := .int .i64 0) hE28 (y_assign rfl) rfl rfl rfl ?_; intro a29 hE30; clear hE28
  refine c_nil ?_
  have hE31 := hE30.sub (L' := [(2, .pointer (some ⟨b5, 0, none⟩)), (3, .pointer (some ⟨b11, 0, none⟩)), (5, .slice (some ⟨b20, 0, none⟩) 0 0), (6, .int .i64 0)]) ⟨rfl, rfl, rfl, rfl, trivial⟩; clear hE30
  refine p_tn ?_
  refine c_cut1 (fun a' w' => ∃ out5A_32 : Option Addr, ∃ out5C_32 : Nat, (0 ≤ ((F_l07Start_L1 mp0 mp1 mp2 np0 np1 np2 (Int.toNat (mp0 - 0) + 1) ([]) 0).2)) ∧ ((((F_l07Start_L1 mp0 mp1 mp2 np0 np1 np2 (Int.toNat (mp0 - 0) + 1) ([]) 0).1).length : Int) ≤ ((F_l07Start_L1 mp0 mp1 mp2 np0 np1 np2 (Int.toNat (mp0 - 0) + 1) ([]) 0).2)) ∧ E a' 38 [(2, .pointer (some ⟨b5, 0, none⟩)), (3, .pointer (some ⟨b11, 0, none⟩)), (5, .slice out5A_32 (((F_l07Start_L1 mp0 mp1 mp2 np0 np1 np2 (Int.toNat (mp0 - 0) + 1) ([]) 0).1).length) out5C_32), (6, .int .i64 ((F_l07Start_L1 mp0 mp1 mp2 np0 np1 np2 (Int.toNat (mp0 - 0) + 1) ([]) 0).2))] ∧ St w w' [.own 2 1 out5A_32 (((F_l07Start_L1 mp0 mp1 mp2 np0 np1 np2 (Int.toNat (mp0 - 0) + 1) ([]) 0).1).length) out5C_32 ((F_l07Start_L1 mp0 mp1 mp2 np0 np1 np2 (Int.toNat (mp0 - 0) + 1) ([]) 0).1), .blk b11 #[.int .i64 np0, .slice np1A np1.length np1C, .slice np2A np2.length np2C] 32, .blk b5 #[.int .i64 mp0, .slice mp1A mp1.length mp1C, .slice mp2A mp2.length mp2C] 32, .rd 1 np2A np2.length np2C np2, .rd 1 np1A np1.length np1C np1, .rd 1 mp2A mp2.length mp2C mp2, .rd 1 mp1A mp1.length mp1C mp1]) ?_ ?_
  ·
    refine wp_block ?_
    refine c_loop (fun r a' w' => ∃ out5 : List Int, ∃ x6 : Int, ∃ out5A : Option Addr, ∃ out5C : Nat, F_l07Start_L1 mp0 mp1 mp2 np0 np1 np2 r out5 x6 = F_l07Start_L1 mp0 mp1 mp2 np0 np1 np2 (Int.toNat (mp0 - 0) + 1) ([]) 0 ∧ Int.toNat (mp0 - x6) < r ∧ (0 ≤ x6) ∧ ((out5.length : Int) ≤ x6) ∧ E a' 38 [(2, .pointer (some ⟨b5, 0, none⟩)), (3, .pointer (some ⟨b11, 0, none⟩)), (5, .slice out5A ((out5).length) out5C), (6, .int .i64 x6)] ∧ St w w' [.own 2 1 out5A ((out5).length) out5C out5, .blk b11 #[.int .i64 np0, .slice np1A np1.length np1C, .slice np2A np2.length np2C] 32, .blk b5 #[.int .i64 mp0, .slice mp1A mp1.length mp1C, .slice mp2A mp2.length mp2C] 32, .rd 1 np2A np2.length np2C np2, .rd 1 np1A np1.length np1C np1, .rd 1 mp2A mp2.length mp2C mp2, .rd 1 mp1A mp1.length mp1C mp1]) (r := (Int.toNat (mp0 - 0) + 1)) ?_ ?_
    · exact ⟨[], 0, some ⟨b20, 0, none⟩, 0, rfl, Nat.lt_succ_self _, (by first | omega | (simp only [sS_len, sL_len]; omega) | (simp only [List.length_replicate, sI_len]; omega) | (simp only [List.length_append, List.length_cons, List.length_nil, sI_len, cond_true, cond_false]; omega) | (simp only [List.length_append, List.length_cons, List.length_nil, sI_len, cond_eq_ite, apply_ite List.length]; split <;> simp only [List.length_append, List.length_cons, List.length_nil, sI_len] <;> omega) | grind), (by first | omega | (simp only [sS_len, sL_len]; omega) | (simp only [List.length_replicate, sI_len]; omega) | (simp only [List.length_append, List.length_cons, List.length_nil, sI_len, cond_true, cond_false]; omega) | (simp only [List.length_append, List.length_cons, List.length_nil, sI_len, cond_eq_ite, apply_ite List.length]; split <;> simp only [List.length_append, List.length_cons, List.length_nil, sI_len] <;> omega) | grind), (hE31.sub (L' := [(2, .pointer (some ⟨b5, 0, none⟩)), (3, .pointer (some ⟨b11, 0, none⟩)), (5, .slice (some ⟨b20, 0, none⟩) 0 0), (6, .int .i64 0)]) ⟨rfl, rfl, rfl, rfl, trivial⟩), (St.pick (Γ' := [.own 2 1 (some ⟨b20, 0, none⟩) 0 0 ([]), .blk b11 #[.int .i64 np0, .slice np1A np1.length np1C, .slice np2A np2.length np2C] 32, .blk b5 #[.int .i64 mp0, .slice mp1A mp1.length mp1C, .slice mp2A mp2.length mp2C] 32, .rd 1 np2A np2.length np2C np2, .rd 1 np1A np1.length np1C np1, .rd 1 mp2A mp2.length mp2C mp2, .rd 1 mp1A mp1.length mp1C mp1]) hS24 [0, 1, 2, 3, 4, 5, 6] (by decide) rfl)⟩
    ·
      clear hE31 hS24
      rintro r41 a33 w34 ⟨out5, x6, out5A, out5C, hT37, hr38, hi39, hi40, hE35, hS36⟩
      obtain ⟨r41, rfl⟩ : ∃ r', r41 = r' + 1 := ⟨r41 - 1, by omega⟩
      refine c_seq ?_
      refine c_seq ?_
      refine c_reg ?_
      refine q_step (v := .int .i64 x6) hE35 (y_move rfl) rfl rfl rfl ?_; intro a42 hE43; clear hE35
      refine q_step (v := .pointer (some ⟨b5, 0, none⟩)) hE43 (y_field rfl (fun _ => by kernel_rfl)) rfl rfl rfl ?_; intro a44 hE45; clear hE43
      refine q_step (v := .pointer (some ⟨b5, 0, none⟩)) hE45 (y_field rfl (fun _ => by kernel_rfl)) rfl rfl rfl ?_; intro a46 hE47; clear hE45
      refine q_step (v := .int .i64 mp0) hE47 (y_load (fun _ => by kernel_rfl) rfl (St.cell (i := 2) hS36 rfl rfl)) rfl rfl rfl ?_; intro a48 hE49; clear hE47
      refine q_step (v := .bool (decide (x6 < mp0))) hE49 (y_lss rfl rfl) rfl rfl rfl ?_; intro a50 hE51; clear hE49
      refine c_nil ?_
      have hE52 := hE51.sub (L' := [(2, .pointer (some ⟨b5, 0, none⟩)), (3, .pointer (some ⟨b11, 0, none⟩)), (5, .slice out5A ((out5).length) out5C), (6, .int .i64 x6), (14, .bool (decide (x6 < mp0)))]) ⟨rfl, rfl, rfl, rfl, rfl, trivial⟩; clear hE51
      refine p_tn ?_
      refine c_cond hE52 rfl (fun ht53 => ?_) (fun ht53 => ?_)
      ·
        have hp54 := of_decide_eq_true ht53
        have hE55 := hE52; rw [ht53] at hE55; clear hE52
        refine wp_skip ?_
        refine p_tn ?_
        refine c_seq ?_
        refine wp_block ?_
        refine c_seq ?_
        refine c_reg ?_
        refine q_step (v := .int .i64 0) hE55 (y_assign rfl) rfl rfl rfl ?_; intro a56 hE57; clear hE55
        refine c_nil ?_
        have hE58 := hE57.sub (L' := [(2, .pointer (some ⟨b5, 0, none⟩)), (3, .pointer (some ⟨b11, 0, none⟩)), (5, .slice out5A ((out5).length) out5C), (6, .int .i64 x6), (7, .int .i64 0)]) ⟨rfl, rfl, rfl, rfl, rfl, trivial⟩; clear hE57
        refine p_tn ?_
        refine c_seq ?_
        refine c_seq ?_
        refine c_reg ?_
        refine q_step (v := .int .i64 0) hE58 (y_assign rfl) rfl rfl rfl ?_; intro a59 hE60; clear hE58
        refine c_nil ?_
        have hE61 := hE60.sub (L' := [(2, .pointer (some ⟨b5, 0, none⟩)), (3, .pointer (some ⟨b11, 0, none⟩)), (5, .slice out5A ((out5).length) out5C), (6, .int .i64 x6), (7, .int .i64 0), (8, .int .i64 0)]) ⟨rfl, rfl, rfl, rfl, rfl, rfl, trivial⟩; clear hE60
        refine p_tn ?_
        refine c_cut1 (fun a' w' => (0 ≤ ((F_l07Start_L2 mp0 mp1 mp2 np0 np1 np2 x6 (Int.toNat (np0 - 0) + 1) 0 0).2)) ∧ E a' 38 [(2, .pointer (some ⟨b5, 0, none⟩)), (3, .pointer (some ⟨b11, 0, none⟩)), (5, .slice out5A ((out5).length) out5C), (6, .int .i64 x6), (7, .int .i64 ((F_l07Start_L2 mp0 mp1 mp2 np0 np1 np2 x6 (Int.toNat (np0 - 0) + 1) 0 0).1)), (8, .int .i64 ((F_l07Start_L2 mp0 mp1 mp2 np0 np1 np2 x6 (Int.toNat (np0 - 0) + 1) 0 0).2))] ∧ St w w' [.own 2 1 out5A ((out5).length) out5C out5, .blk b11 #[.int .i64 np0, .slice np1A np1.length np1C, .slice np2A np2.length np2C] 32, .blk b5 #[.int .i64 mp0, .slice mp1A mp1.length mp1C, .slice mp2A mp2.length mp2C] 32, .rd 1 np2A np2.length np2C np2, .rd 1 np1A np1.length np1C np1, .rd 1 mp2A mp2.length mp2C mp2, .rd 1 mp1A mp1.length mp1C mp1]) ?_ ?_
        ·
          refine wp_block ?_
          refine c_loop (fun r a' w' => ∃ mask7L2 : Int, ∃ y8L2 : Int, F_l07Start_L2 mp0 mp1 mp2 np0 np1 np2 x6 r mask7L2 y8L2 = F_l07Start_L2 mp0 mp1 mp2 np0 np1 np2 x6 (Int.toNat (np0 - 0) + 1) 0 0 ∧ Int.toNat (np0 - y8L2) < r ∧ (0 ≤ y8L2) ∧ E a' 38 [(2, .pointer (some ⟨b5, 0, none⟩)), (3, .pointer (some ⟨b11, 0, none⟩)), (5, .slice out5A ((out5).length) out5C), (6, .int .i64 x6), (7, .int .i64 mask7L2), (8, .int .i64 y8L2)] ∧ St w w' [.own 2 1 out5A ((out5).length) out5C out5, .blk b11 #[.int .i64 np0, .slice np1A np1.length np1C, .slice np2A np2.length np2C] 32, .blk b5 #[.int .i64 mp0, .slice mp1A mp1.length mp1C, .slice mp2A mp2.length mp2C] 32, .rd 1 np2A np2.length np2C np2, .rd 1 np1A np1.length np1C np1, .rd 1 mp2A mp2.length mp2C mp2, .rd 1 mp1A mp1.length mp1C mp1]) (r := (Int.toNat (np0 - 0) + 1)) ?_ ?_
          · exact ⟨0, 0, rfl, Nat.lt_succ_self _, (by first | omega | (simp only [sS_len, sL_len]; omega) | (simp only [List.length_replicate, sI_len]; omega) | (simp only [List.length_append, List.length_cons, List.length_nil, sI_len, cond_true, cond_false]; omega) | (simp only [List.length_append, List.length_cons, List.length_nil, sI_len, cond_eq_ite, apply_ite List.length]; split <;> simp only [List.length_append, List.length_cons, List.length_nil, sI_len] <;> omega) | grind), (hE61.sub (L' := [(2, .pointer (some ⟨b5, 0, none⟩)), (3, .pointer (some ⟨b11, 0, none⟩)), (5, .slice out5A ((out5).length) out5C), (6, .int .i64 x6), (7, .int .i64 0), (8, .int .i64 0)]) ⟨rfl, rfl, rfl, rfl, rfl, rfl, trivial⟩), (St.pick (Γ' := [.own 2 1 out5A ((out5).length) out5C out5, .blk b11 #[.int .i64 np0, .slice np1A np1.length np1C, .slice np2A np2.length np2C] 32, .blk b5 #[.int .i64 mp0, .slice mp1A mp1.length mp1C, .slice mp2A mp2.length mp2C] 32, .rd 1 np2A np2.length np2C np2, .rd 1 np1A np1.length np1C np1, .rd 1 mp2A mp2.length mp2C mp2, .rd 1 mp1A mp1.length mp1C mp1]) hS36 [0, 1, 2, 3, 4, 5, 6] (by decide) rfl)⟩
          ·
            clear hE61 hS36
            rintro r70 a63 w64 ⟨mask7L2, y8L2, hT67, hr68, hi69, hE65, hS66⟩
            obtain ⟨r70, rfl⟩ : ∃ r', r70 = r' + 1 := ⟨r70 - 1, by omega⟩
            refine c_seq ?_
            refine c_seq ?_
            refine c_reg ?_
            refine q_step (v := .int .i64 y8L2) hE65 (y_move rfl) rfl rfl rfl ?_; intro a71 hE72; clear hE65
            refine q_step (v := .pointer (some ⟨b11, 0, none⟩)) hE72 (y_field rfl (fun _ => by kernel_rfl)) rfl rfl rfl ?_; intro a73 hE74; clear hE72
            refine q_step (v := .pointer (some ⟨b11, 0, none⟩)) hE74 (y_field rfl (fun _ => by kernel_rfl)) rfl rfl rfl ?_; intro a75 hE76; clear hE74
            refine q_step (v := .int .i64 np0) hE76 (y_load (fun _ => by kernel_rfl) rfl (St.cell (i := 1) hS66 rfl rfl)) rfl rfl rfl ?_; intro a77 hE78; clear hE76
            refine q_step (v := .bool (decide (y8L2 < np0))) hE78 (y_lss rfl rfl) rfl rfl rfl ?_; intro a79 hE80; clear hE78
            refine c_nil ?_
            have hE81 := hE80.sub (L' := [(2, .pointer (some ⟨b5, 0, none⟩)), (3, .pointer (some ⟨b11, 0, none⟩)), (5, .slice out5A ((out5).length) out5C), (6, .int .i64 x6), (7, .int .i64 mask7L2), (8, .int .i64 y8L2), (21, .bool (decide (y8L2 < np0)))]) ⟨rfl, rfl, rfl, rfl, rfl, rfl, rfl, trivial⟩; clear hE80
            refine p_tn ?_
            refine c_cond hE81 rfl (fun ht82 => ?_) (fun ht82 => ?_)
            ·
              have hp83 := of_decide_eq_true ht82
              have hE84 := hE81; rw [ht82] at hE84; clear hE81
              refine wp_skip ?_
              refine p_tn ?_
              refine c_cut (fun a' w' => E a' 38 [(2, .pointer (some ⟨b5, 0, none⟩)), (3, .pointer (some ⟨b11, 0, none⟩)), (5, .slice out5A ((out5).length) out5C), (6, .int .i64 x6), (7, .int .i64 (bif (F_l07Atoms mp0 mp1 mp2 np0 np1 np2 x6 y8L2) then orI mask7L2 (powI y8L2) else mask7L2)), (8, .int .i64 y8L2)] ∧ St w w' [.own 2 1 out5A ((out5).length) out5C out5, .rd 1 np1A np1.length np1C np1, .rd 1 np2A np2.length np2C np2, .blk b11 #[.int .i64 np0, .slice np1A np1.length np1C, .slice np2A np2.length np2C] 32, .rd 1 mp1A mp1.length mp1C mp1, .rd 1 mp2A mp2.length mp2C mp2, .blk b5 #[.int .i64 mp0, .slice mp1A mp1.length mp1C, .slice mp2A mp2.length mp2C] 32]) ?_ ?_
              ·
                refine wp_block ?_
                refine c_seq ?_
                refine c_reg ?_
                refine q_step (v := .agg #[.int .i64 mp0, .slice mp1A mp1.length mp1C, .slice mp2A mp2.length mp2C]) hE84 (y_loadS Try.underlying32 rfl (by kernel_rfl) rfl (St.row (i := 2) hS66 rfl)) rfl rfl rfl ?_; intro a85 hE86; clear hE84
                refine q_step (v := .agg #[.int .i64 np0, .slice np1A np1.length np1C, .slice np2A np2.length np2C]) hE86 (y_loadS Try.underlying32 rfl (by kernel_rfl) rfl (St.row (i := 1) hS66 rfl)) rfl rfl rfl ?_; intro a87 hE88; clear hE86
                refine q_step (v := .int .i64 x6) hE88 (y_move rfl) rfl rfl rfl ?_; intro a89 hE90; clear hE88
                refine q_step (v := .int .i64 y8L2) hE90 (y_move rfl) rfl rfl rfl ?_; intro a91 hE92; clear hE90
                refine l_step hE92 rfl (l_call (f := 213) (argv := [.agg #[.int .i64 mp0, .slice mp1A mp1.length mp1C, .slice mp2A mp2.length mp2C], .agg #[.int .i64 np0, .slice np1A np1.length np1C, .slice np2A np2.length np2C], .int .i64 x6, .int .i64 y8L2]) hE92 (fun _ => cf_l07Atoms _ _) rfl rfl (c_l07Atoms mp0 mp1A mp1.length mp1C mp1 mp2A mp2.length mp2C mp2 np0 np1A np1.length np1C np1 np2A np2.length np2C np2 x6 y8L2 w64 (St.rdR (i := 6) hS66 rfl) (St.rdR (i := 5) hS66 rfl) (St.rdR (i := 4) hS66 rfl) (St.rdR (i := 3) hS66 rfl) (by omega) (by omega) (by omega) (by omega)) ?_)
                rintro _ w94 ⟨rfl, he98⟩ a95 hE96; clear hE92
                have hS97 := St.go hS66 he98; clear hS66
                refine c_nil ?_
                have hE99 := hE96.sub (L' := [(2, .pointer (some ⟨b5, 0, none⟩)), (3, .pointer (some ⟨b11, 0, none⟩)), (5, .slice out5A ((out5).length) out5C), (6, .int .i64 x6), (7, .int .i64 mask7L2), (8, .int .i64 y8L2), (28, .bool (F_l07Atoms mp0 mp1 mp2 np0 np1 np2 x6 y8L2))]) ⟨rfl, rfl, rfl, rfl, rfl, rfl, rfl, trivial⟩; clear hE96
                refine p_tn ?_
                refine c_cond hE99 rfl (fun ht100 => ?_) (fun ht100 => ?_)
                ·
                  have hE101 := hE99; rw [ht100] at hE101; clear hE99
                  refine c_reg ?_
                  refine q_step (v := .int .i64 mask7L2) hE101 (y_move rfl) rfl rfl rfl ?_; intro a102 hE103; clear hE101
                  refine q_step (v := .int .i64 y8L2) hE103 (y_move rfl) rfl rfl rfl ?_; intro a104 hE105; clear hE103
                  refine l_step hE105 rfl (l_call (f := 209) (argv := [.int .i64 y8L2]) hE105 (fun _ => cf_l01One _ _) rfl rfl (d_l01One y8L2 w94 (by omega) (by omega)) ?_)
                  rintro _ _ ⟨rfl, rfl⟩ a108 hE109; clear hE105
                  refine q_step (v := .int .i64 (orI mask7L2 (powI y8L2))) hE109 (y_or rfl rfl) rfl rfl rfl ?_; intro a112 hE113; clear hE109
                  refine q_step (v := .int .i64 (orI mask7L2 (powI y8L2))) hE113 (y_assign rfl) rfl rfl rfl ?_; intro a114 hE115; clear hE113
                  refine c_nil ?_
                  have hE116 := hE115.sub (L' := [(2, .pointer (some ⟨b5, 0, none⟩)), (3, .pointer (some ⟨b11, 0, none⟩)), (5, .slice out5A ((out5).length) out5C), (6, .int .i64 x6), (7, .int .i64 (orI mask7L2 (powI y8L2))), (8, .int .i64 y8L2)]) ⟨rfl, rfl, rfl, rfl, rfl, rfl, trivial⟩; clear hE115
                  refine p_bn ?_
                  refine p_tn ?_
                  have hE117 := hE116.sub (L' := [(2, .pointer (some ⟨b5, 0, none⟩)), (3, .pointer (some ⟨b11, 0, none⟩)), (5, .slice out5A ((out5).length) out5C), (6, .int .i64 x6), (7, .int .i64 (orI mask7L2 (powI y8L2))), (8, .int .i64 y8L2)]) ⟨rfl, rfl, rfl, rfl, rfl, rfl, trivial⟩
                  have hS118 := (St.pick (Γ' := [.own 2 1 out5A ((out5).length) out5C out5, .rd 1 np1A np1.length np1C np1, .rd 1 np2A np2.length np2C np2, .blk b11 #[.int .i64 np0, .slice np1A np1.length np1C, .slice np2A np2.length np2C] 32, .rd 1 mp1A mp1.length mp1C mp1, .rd 1 mp2A mp2.length mp2C mp2, .blk b5 #[.int .i64 mp0, .slice mp1A mp1.length mp1C, .slice mp2A mp2.length mp2C] 32]) hS97 [0, 4, 3, 1, 6, 5, 2] (by decide) rfl)
                  exact ⟨(by rw [ht100]; exact hE117), hS118⟩
                ·
                  have hE119 := hE99; rw [ht100] at hE119; clear hE99
                  refine wp_skip ?_
                  refine p_bn ?_
                  refine p_tn ?_
                  have hE120 := hE119.sub (L' := [(2, .pointer (some ⟨b5, 0, none⟩)), (3, .pointer (some ⟨b11, 0, none⟩)), (5, .slice out5A ((out5).length) out5C), (6, .int .i64 x6), (7, .int .i64 mask7L2), (8, .int .i64 y8L2)]) ⟨rfl, rfl, rfl, rfl, rfl, rfl, trivial⟩
                  have hS121 := (St.pick (Γ' := [.own 2 1 out5A ((out5).length) out5C out5, .rd 1 np1A np1.length np1C np1, .rd 1 np2A np2.length np2C np2, .blk b11 #[.int .i64 np0, .slice np1A np1.length np1C, .slice np2A np2.length np2C] 32, .rd 1 mp1A mp1.length mp1C mp1, .rd 1 mp2A mp2.length mp2C mp2, .blk b5 #[.int .i64 mp0, .slice mp1A mp1.length mp1C, .slice mp2A mp2.length mp2C] 32]) hS97 [0, 4, 3, 1, 6, 5, 2] (by decide) rfl)
                  exact ⟨(by rw [ht100]; exact hE120), hS121⟩
              ·
                rintro a122 w123 ⟨hE124, hS125⟩; clear hE84 hS66
                refine c_reg ?_
                refine q_step (v := .int .i64 y8L2) hE124 (y_move rfl) rfl rfl rfl ?_; intro a127 hE128; clear hE124
                refine q_step (v := .int .i64 (y8L2 + 1)) hE128 (y_add rfl rfl ⟨(by omega), (by omega)⟩) rfl rfl rfl ?_; intro a129 hE130; clear hE128
                refine q_step (v := .int .i64 (y8L2 + 1)) hE130 (y_assign rfl) rfl rfl rfl ?_; intro a131 hE132; clear hE130
                refine c_nil ?_
                have hE133 := hE132.sub (L' := [(2, .pointer (some ⟨b5, 0, none⟩)), (3, .pointer (some ⟨b11, 0, none⟩)), (5, .slice out5A ((out5).length) out5C), (6, .int .i64 x6), (7, .int .i64 (bif (F_l07Atoms mp0 mp1 mp2 np0 np1 np2 x6 y8L2) then orI mask7L2 (powI y8L2) else mask7L2)), (8, .int .i64 (y8L2 + 1))]) ⟨rfl, rfl, rfl, rfl, rfl, rfl, trivial⟩; clear hE132
                refine p_tn ⟨r70, Nat.lt_succ_self _, bif (F_l07Atoms mp0 mp1 mp2 np0 np1 np2 x6 y8L2) then orI mask7L2 (powI y8L2) else mask7L2, y8L2 + 1, (hT67.symm.trans (show F_l07Start_L2b mp0 mp1 mp2 np0 np1 np2 x6 (F_l07Start_L2 mp0 mp1 mp2 np0 np1 np2 x6 r70) mask7L2 y8L2 = F_l07Start_L2 mp0 mp1 mp2 np0 np1 np2 x6 r70 (bif (F_l07Atoms mp0 mp1 mp2 np0 np1 np2 x6 y8L2) then orI mask7L2 (powI y8L2) else mask7L2) (y8L2 + 1) by unfold F_l07Start_L2b; rw [ht82]; first | done | rfl)).symm, (by omega), (by first | omega | (simp only [sS_len, sL_len]; omega) | (simp only [List.length_replicate, sI_len]; omega) | (simp only [List.length_append, List.length_cons, List.length_nil, sI_len, cond_true, cond_false]; omega) | (simp only [List.length_append, List.length_cons, List.length_nil, sI_len, cond_eq_ite, apply_ite List.length]; split <;> simp only [List.length_append, List.length_cons, List.length_nil, sI_len] <;> omega) | grind), (hE133.sub (L' := [(2, .pointer (some ⟨b5, 0, none⟩)), (3, .pointer (some ⟨b11, 0, none⟩)), (5, .slice out5A ((out5).length) out5C), (6, .int .i64 x6), (7, .int .i64 (bif (F_l07Atoms mp0 mp1 mp2 np0 np1 np2 x6 y8L2) then orI mask7L2 (powI y8L2) else mask7L2)), (8, .int .i64 (y8L2 + 1))]) ⟨rfl, rfl, rfl, rfl, rfl, rfl, trivial⟩), (St.pick (Γ' := [.own 2 1 out5A ((out5).length) out5C out5, .blk b11 #[.int .i64 np0, .slice np1A np1.length np1C, .slice np2A np2.length np2C] 32, .blk b5 #[.int .i64 mp0, .slice mp1A mp1.length mp1C, .slice mp2A mp2.length mp2C] 32, .rd 1 np2A np2.length np2C np2, .rd 1 np1A np1.length np1C np1, .rd 1 mp2A mp2.length mp2C mp2, .rd 1 mp1A mp1.length mp1C mp1]) hS125 [0, 3, 6, 2, 1, 5, 4] (by decide) rfl)⟩
            ·
              have hp134 := of_decide_eq_false ht82
              have hE135 := hE81; rw [ht82] at hE135; clear hE81
              refine wp_exit ?_
              refine p_te ?_
              have hX136 : F_l07Start_L2 mp0 mp1 mp2 np0 np1 np2 x6 (Int.toNat (np0 - 0) + 1) 0 0 = (mask7L2, y8L2) := hT67.symm.trans (show F_l07Start_L2b mp0 mp1 mp2 np0 np1 np2 x6 (F_l07Start_L2 mp0 mp1 mp2 np0 np1 np2 x6 r70) mask7L2 y8L2 = (mask7L2, y8L2) by unfold F_l07Start_L2b; rw [ht82]; first | done | rfl)
              refine p_te (p_be (p_tn ?_))
              exact ⟨(by rw [hX136]; exact (show 0 ≤ y8L2 from (by first | omega | (simp only [sS_len, sL_len]; omega) | (simp only [List.length_replicate, sI_len]; omega) | (simp only [List.length_append, List.length_cons, List.length_nil, sI_len, cond_true, cond_false]; omega) | (simp only [List.length_append, List.length_cons, List.length_nil, sI_len, cond_eq_ite, apply_ite List.length]; split <;> simp only [List.length_append, List.length_cons, List.length_nil, sI_len] <;> omega) | grind))), (by rw [hX136]; exact (hE135.sub (L' := [(2, .pointer (some ⟨b5, 0, none⟩)), (3, .pointer (some ⟨b11, 0, none⟩)), (5, .slice out5A ((out5).length) out5C), (6, .int .i64 x6), (7, .int .i64 mask7L2), (8, .int .i64 y8L2)]) ⟨rfl, rfl, rfl, rfl, rfl, rfl, trivial⟩)), (St.pick (Γ' := [.own 2 1 out5A ((out5).length) out5C out5, .blk b11 #[.int .i64 np0, .slice np1A np1.length np1C, .slice np2A np2.length np2C] 32, .blk b5 #[.int .i64 mp0, .slice mp1A mp1.length mp1C, .slice mp2A mp2.length mp2C] 32, .rd 1 np2A np2.length np2C np2, .rd 1 np1A np1.length np1C np1, .rd 1 mp2A mp2.length mp2C mp2, .rd 1 mp1A mp1.length mp1C mp1]) hS66 [0, 1, 2, 3, 4, 5, 6] (by decide) rfl)⟩
        ·
          rintro a137 w138 ⟨hi142, hE139, hS140⟩; clear hE61 hS36
          refine p_tn ?_
          refine c_reg ?_
          refine q_step (v := .slice out5A ((out5).length) out5C) hE139 (y_move rfl) rfl rfl rfl ?_; intro a143 hE144; clear hE139
          refine q_step (v := .int .i64 ((F_l07Start_L2 mp0 mp1 mp2 np0 np1 np2 x6 (Int.toNat (np0 - 0) + 1) 0 0).1)) hE144 (y_move rfl) rfl rfl rfl ?_; intro a145 hE146; clear hE144
          refine l_step hE146 rfl (l_lit (e := 2) (s := 1) (xs := [(F_l07Start_L2 mp0 mp1 mp2 np0 np1 np2 x6 (Int.toNat (np0 - 0) + 1) 0 0).1]) (vs := [.int .i64 ((F_l07Start_L2 mp0 mp1 mp2 np0 np1 np2 x6 (Int.toNat (np0 - 0) + 1) 0 0).1)]) hS140 hE146 rfl (fun _ => by kernel_rfl) rfl rfl rfl ?_)
          intro b147 w148 hS151 he152 a149 hE150; clear hS140 hE146
          obtain ⟨_, hi1, hi2, hi3, hi4⟩ := info_parts (show (Try.prog.info? 2).map (fun i => (i.zero, i.size, i.bytes)) = some (some (.int .i64 0), 1, 8) by kernel_rfl)
          refine l_step hE150 rfl (l_append (k := 1) (n' := (out5 ++ ([(F_l07Start_L2 mp0 mp1 mp2 np0 np1 np2 x6 (Int.toNat (np0 - 0) + 1) 0 0).1])).length) hS151 hE150 (by kernel_rfl) hi1 hi2 hi3 rfl (by decide) (by rw [hi4]; decide) rfl rfl rfl (St.rdO (i := 0) hS151 rfl) (by first | omega | (simp only [List.length_append, List.length_cons, List.length_nil]; omega)) (by have h1 := (St.rdO (i := 1) hS151 rfl).len1; have h2 := (St.rdO (i := 0) hS151 rfl).len1; rw [List.length_append, h1, h2]) rfl ?_)
          intro b153 c159 w154 hS157 a155 hE156; clear hS151 hE150 hi1 hi2 hi3 hi4
          refine q_step (v := .slice b153 ((out5 ++ ([(F_l07Start_L2 mp0 mp1 mp2 np0 np1 np2 x6 (Int.toNat (np0 - 0) + 1) 0 0).1])).length) c159) hE156 (y_assign rfl) rfl rfl rfl ?_; intro a160 hE161; clear hE156
          refine c_nil ?_
          have hE162 := hE161.sub (L' := [(2, .pointer (some ⟨b5, 0, none⟩)), (3, .pointer (some ⟨b11, 0, none⟩)), (5, .slice b153 ((out5 ++ ([(F_l07Start_L2 mp0 mp1 mp2 np0 np1 np2 x6 (Int.toNat (np0 - 0) + 1) 0 0).1])).length) c159), (6, .int .i64 x6)]) ⟨rfl, rfl, rfl, rfl, trivial⟩; clear hE161
          refine p_bn ?_
          refine p_tn ?_
          refine c_reg ?_
          refine q_step (v := .int .i64 x6) hE162 (y_move rfl) rfl rfl rfl ?_; intro a163 hE164; clear hE162
          refine q_step (v := .int .i64 (x6 + 1)) hE164 (y_add rfl rfl ⟨(by omega), (by omega)⟩) rfl rfl rfl ?_; intro a165 hE166; clear hE164
          refine q_step (v := .int .i64 (x6 + 1)) hE166 (y_assign rfl) rfl rfl rfl ?_; intro a167 hE168; clear hE166
          refine c_nil ?_
          have hE169 := hE168.sub (L' := [(2, .pointer (some ⟨b5, 0, none⟩)), (3, .pointer (some ⟨b11, 0, none⟩)), (5, .slice b153 ((out5 ++ ([(F_l07Start_L2 mp0 mp1 mp2 np0 np1 np2 x6 (Int.toNat (np0 - 0) + 1) 0 0).1])).length) c159), (6, .int .i64 (x6 + 1))]) ⟨rfl, rfl, rfl, rfl, trivial⟩; clear hE168
          refine p_tn ⟨r41, Nat.lt_succ_self _, out5 ++ ([(F_l07Start_L2 mp0 mp1 mp2 np0 np1 np2 x6 (Int.toNat (np0 - 0) + 1) 0 0).1]), x6 + 1, b153, c159, (hT37.symm.trans (show F_l07Start_L1b mp0 mp1 mp2 np0 np1 np2 (F_l07Start_L1 mp0 mp1 mp2 np0 np1 np2 r41) out5 x6 = F_l07Start_L1 mp0 mp1 mp2 np0 np1 np2 r41 (out5 ++ ([(F_l07Start_L2 mp0 mp1 mp2 np0 np1 np2 x6 (Int.toNat (np0 - 0) + 1) 0 0).1])) (x6 + 1) by unfold F_l07Start_L1b; rw [ht53]; first | done | rfl)).symm, (by omega), (by first | omega | (simp only [sS_len, sL_len]; omega) | (simp only [List.length_replicate, sI_len]; omega) | (simp only [List.length_append, List.length_cons, List.length_nil, sI_len, cond_true, cond_false]; omega) | (simp only [List.length_append, List.length_cons, List.length_nil, sI_len, cond_eq_ite, apply_ite List.length]; split <;> simp only [List.length_append, List.length_cons, List.length_nil, sI_len] <;> omega) | grind), (by first | omega | (simp only [sS_len, sL_len]; omega) | (simp only [List.length_replicate, sI_len]; omega) | (simp only [List.length_append, List.length_cons, List.length_nil, sI_len, cond_true, cond_false]; omega) | (simp only [List.length_append, List.length_cons, List.length_nil, sI_len, cond_eq_ite, apply_ite List.length]; split <;> simp only [List.length_append, List.length_cons, List.length_nil, sI_len] <;> omega) | grind), (hE169.sub (L' := [(2, .pointer (some ⟨b5, 0, none⟩)), (3, .pointer (some ⟨b11, 0, none⟩)), (5, .slice b153 ((out5 ++ ([(F_l07Start_L2 mp0 mp1 mp2 np0 np1 np2 x6 (Int.toNat (np0 - 0) + 1) 0 0).1])).length) c159), (6, .int .i64 (x6 + 1))]) ⟨rfl, rfl, rfl, rfl, trivial⟩), (St.pick (Γ' := [.own 2 1 b153 ((out5 ++ ([(F_l07Start_L2 mp0 mp1 mp2 np0 np1 np2 x6 (Int.toNat (np0 - 0) + 1) 0 0).1])).length) c159 (out5 ++ ([(F_l07Start_L2 mp0 mp1 mp2 np0 np1 np2 x6 (Int.toNat (np0 - 0) + 1) 0 0).1])), .blk b11 #[.int .i64 np0, .slice np1A np1.length np1C, .slice np2A np2.length np2C] 32, .blk b5 #[.int .i64 mp0, .slice mp1A mp1.length mp1C, .slice mp2A mp2.length mp2C] 32, .rd 1 np2A np2.length np2C np2, .rd 1 np1A np1.length np1C np1, .rd 1 mp2A mp2.length mp2C mp2, .rd 1 mp1A mp1.length mp1C mp1]) hS157 [1, 2, 3, 4, 5, 6, 7] (by decide) rfl)⟩
      ·
        have hp170 := of_decide_eq_false ht53
        have hE171 := hE52; rw [ht53] at hE171; clear hE52
        refine wp_exit ?_
        refine p_te ?_
        have hX172 : F_l07Start_L1 mp0 mp1 mp2 np0 np1 np2 (Int.toNat (mp0 - 0) + 1) ([]) 0 = (out5, x6) := hT37.symm.trans (show F_l07Start_L1b mp0 mp1 mp2 np0 np1 np2 (F_l07Start_L1 mp0 mp1 mp2 np0 np1 np2 r41) out5 x6 = (out5, x6) by unfold F_l07Start_L1b; rw [ht53]; first | done | rfl)
        refine p_te (p_be (p_tn ?_))
        exact ⟨out5A, out5C, (by rw [hX172]; exact (show 0 ≤ x6 from (by first | omega | (simp only [sS_len, sL_len]; omega) | (simp only [List.length_replicate, sI_len]; omega) | (simp only [List.length_append, List.length_cons, List.length_nil, sI_len, cond_true, cond_false]; omega) | (simp only [List.length_append, List.length_cons, List.length_nil, sI_len, cond_eq_ite, apply_ite List.length]; split <;> simp only [List.length_append, List.length_cons, List.length_nil, sI_len] <;> omega) | grind))), (by rw [hX172]; exact (show (out5.length : Int) ≤ x6 from (by first | omega | (simp only [sS_len, sL_len]; omega) | (simp only [List.length_replicate, sI_len]; omega) | (simp only [List.length_append, List.length_cons, List.length_nil, sI_len, cond_true, cond_false]; omega) | (simp only [List.length_append, List.length_cons, List.length_nil, sI_len, cond_eq_ite, apply_ite List.length]; split <;> simp only [List.length_append, List.length_cons, List.length_nil, sI_len] <;> omega) | grind))), (by rw [hX172]; exact (hE171.sub (L' := [(2, .pointer (some ⟨b5, 0, none⟩)), (3, .pointer (some ⟨b11, 0, none⟩)), (5, .slice out5A ((out5).length) out5C), (6, .int .i64 x6)]) ⟨rfl, rfl, rfl, rfl, trivial⟩)), (by rw [hX172]; exact (St.pick (Γ' := [.own 2 1 out5A ((out5).length) out5C out5, .blk b11 #[.int .i64 np0, .slice np1A np1.length np1C, .slice np2A np2.length np2C] 32, .blk b5 #[.int .i64 mp0, .slice mp1A mp1.length mp1C, .slice mp2A mp2.length mp2C] 32, .rd 1 np2A np2.length np2C np2, .rd 1 np1A np1.length np1C np1, .rd 1 mp2A mp2.length mp2C mp2, .rd 1 mp1A mp1.length mp1C mp1]) hS36 [0, 1, 2, 3, 4, 5, 6] (by decide) rfl))⟩
  ·
    rintro a173 w174 ⟨out5A_32, out5C_32, hi178, hi179, hE175, hS176⟩; clear hE31 hS24
    refine p_tn ?_
    refine c_seq ?_
    refine c_reg ?_
    refine q_step (v := .slice out5A_32 (((F_l07Start_L1 mp0 mp1 mp2 np0 np1 np2 (Int.toNat (mp0 - 0) + 1) ([]) 0).1).length) out5C_32) hE175 (y_move rfl) rfl rfl rfl ?_; intro a180 hE181; clear hE175
    refine q_step (v := .slice out5A_32 (((F_l07Start_L1 mp0 mp1 mp2 np0 np1 np2 (Int.toNat (mp0 - 0) + 1) ([]) 0).1).length) out5C_32) hE181 (y_assign rfl) rfl rfl rfl ?_; intro a182 hE183; clear hE181
    refine c_nil ?_
    have hE184 := hE183.sub (L' := [(4, .slice out5A_32 (((F_l07Start_L1 mp0 mp1 mp2 np0 np1 np2 (Int.toNat (mp0 - 0) + 1) ([]) 0).1).length) out5C_32)]) ⟨rfl, trivial⟩; clear hE183
    refine p_tn ?_
    refine wp_ret ?_
    have hF : F_l07Start mp0 mp1 mp2 np0 np1 np2 = (F_l07Start_L1 mp0 mp1 mp2 np0 np1 np2 (Int.toNat (mp0 - 0) + 1) ([]) 0).1 := by unfold F_l07Start; rfl
    refine c_ret1 hE184 rfl rfl ?_
    exact ⟨out5A_32, out5C_32, (by rw [hF]; first | done | (dsimp only; done) | rfl), (by rw [hF]; (try dsimp only); exact hS176.ok 0 _ rfl), hS176.ext⟩

theorem l07Start_map (mp0 : Int) (mp1 mp2 : List Int) (np0 : Int) (np1 np2 : List Int) (h : 0 ≤ mp0) (h0 : 0 ≤ np0) : F_l07Start mp0 mp1 mp2 np0 np1 np2 = (List.range mp0.toNat).map (fun (x : Nat) => (List.range np0.toNat).foldl (fun o (y : Nat) => bif F_l07Atoms mp0 mp1 mp2 np0 np1 np2 (x : Int) (y : Int) then orI o (powI (y : Int)) else o) 0) := by
  unfold F_l07Start
  rw [mapLoop0 mp0 h (fun x => (F_l07Start_L2 mp0 mp1 mp2 np0 np1 np2 x (Int.toNat (np0 - 0) + 1) 0 0).1) (F_l07Start_L1 mp0 mp1 mp2 np0 np1 np2) (fun _ _ _ => rfl)]
  congr 1; funext x
  rw [rangeLoop0 np0 h0 (fun o y => bif F_l07Atoms mp0 mp1 mp2 np0 np1 np2 (x : Int) y then orI o (powI y) else o) (F_l07Start_L2 mp0 mp1 mp2 np0 np1 np2 (x : Int)) (fun _ _ _ => rfl)]
theorem l07Start_len (mp0 : Int) (mp1 mp2 : List Int) (np0 : Int) (np1 np2 : List Int) : (F_l07Start mp0 mp1 mp2 np0 np1 np2).length ≤ mp0.toNat := by
  by_cases h : 0 ≤ mp0
  · unfold F_l07Start
    rw [mapLoop0 mp0 h (fun x => (F_l07Start_L2 mp0 mp1 mp2 np0 np1 np2 x (Int.toNat (np0 - 0) + 1) 0 0).1) (F_l07Start_L1 mp0 mp1 mp2 np0 np1 np2) (fun _ _ _ => rfl)]
    simp
  · unfold F_l07Start
    have e : Int.toNat (mp0 - 0) = 0 := by omega
    rw [e]
    show (F_l07Start_L1b mp0 mp1 mp2 np0 np1 np2 _ [] 0).1.length ≤ _
    unfold F_l07Start_L1b
    rw [decide_eq_false (by omega)]; exact Nat.zero_le _
theorem l07Start_len2 {mp0 : Int} {mp1 mp2 : List Int} {np0 : Int} {np1 np2 : List Int} (h : 0 ≤ mp0) (h0 : 0 ≤ np0) : ((F_l07Start mp0 mp1 mp2 np0 np1 np2).length : Int) = mp0 := by
  rw [l07Start_map _ _ _ _ _ _ h h0]; simp; omega
/-- The links, one after the other. -/
def lkT (mp0 : Int) (mp1 mp2 : List Int) (np0 : Int) (np1 np2 : List Int) : Nat → List Int
  | 0 => F_l07Start mp0 mp1 mp2 np0 np1 np2
  | k + 1 => F_l07Step mp0 mp1 mp2 np0 np1 np2 (lkT mp0 mp1 mp2 np0 np1 np2 k)
theorem lkT_len {mp0 : Int} {mp1 mp2 : List Int} {np0 : Int} {np1 np2 : List Int} (h : 0 ≤ mp0) (h0 : 0 ≤ np0) (k : Nat) : ((lkT mp0 mp1 mp2 np0 np1 np2 k).length : Int) = mp0 := by
  cases k with
  | zero => exact l07Start_len2 h h0
  | succ k => exact l07Step_len2 h
theorem link_start {mp0 np0 : Int} {mp1 mp2 np1 np2 : List Int} (hm : 0 ≤ mp0 ∧ mp0 ≤ 8) (hn : 0 ≤ np0 ∧ np0 ≤ 8) (h6m : (mp2.length : Int) = 6) (h6n : (np2.length : Int) = 6) : F_linkOf mp0 mp1 mp2 np0 np1 np2 (fun x0 x1 => F_bounded_k1 x0 x1 mp0 mp1 mp2 np0 np1 np2) = F_l07Start mp0 mp1 mp2 np0 np1 np2 := by
  rw [linkOf_map mp1 mp2 np1 np2 hm hn, l07Start_map _ _ _ _ _ _ hm.1 hn.1]
  congr 1; funext x
  refine foldl_bif_congr (fun y hy => ?_) _ _
  rw [atoms_eq _ _ h6m h6n]; rfl
theorem start_has {mp0 np0 : Int} {mp1 mp2 np1 np2 : List Int} (hm : 0 ≤ mp0 ∧ mp0 ≤ 8) (hn : 0 ≤ np0 ∧ np0 ≤ 8) (h6m : (mp2.length : Int) = 6) (h6n : (np2.length : Int) = 6) (x y : Nat) (hx : (x : Int) < mp0) (hy : (y : Int) < np0) : F_has (gI (F_l07Start mp0 mp1 mp2 np0 np1 np2) (x : Int)) (y : Int) = F_l07Atoms mp0 mp1 mp2 np0 np1 np2 (x : Int) (y : Int) := by
  rw [← link_start (mp1 := mp1) (np1 := np1) hm hn h6m h6n]
  obtain ⟨b1, b2⟩ := linkOf_bits mp1 mp2 np1 np2 hm hn (fun x0 x1 => F_bounded_k1 x0 x1 mp0 mp1 mp2 np0 np1 np2)
  rw [tb_has (n := np0.toNat) (by omega) (b1 x hx) (by omega)]
  have := b2 x y hx
  unfold rb at this
  rw [this, decide_eq_true (by omega), Bool.true_and, atoms_eq _ _ h6m h6n]; rfl
theorem link_step {mp0 np0 : Int} {mp1 mp2 np1 np2 : List Int} (hm : 0 ≤ mp0 ∧ mp0 ≤ 8) (hn : 0 ≤ np0 ∧ np0 ≤ 8) (h6m : (mp2.length : Int) = 6) (h6n : (np2.length : Int) = 6) (hfm : ∀ m : Int, 0 ≤ m → m < mp0 → 0 ≤ gI mp1 m ∧ gI mp1 m ≤ fullI mp0) (q : List (List Int)) (l : List Int) (hq : gL q 0 = F_l07Start mp0 mp1 mp2 np0 np1 np2) (hl : (l.length : Int) = mp0) :
    F_linkOf mp0 mp1 mp2 np0 np1 np2 (fun x0 x1 => F_bounded_k2 x0 x1 q mp0 mp1 mp2 np0 np1 np2 l) = F_l07Step mp0 mp1 mp2 np0 np1 np2 l := by
  rw [linkOf_map mp1 mp2 np1 np2 hm hn, l07Step_map _ _ _ _ _ _ _ hm.1 hn.1]
  refine List.map_congr_left fun x hx => ?_
  have hx' : (x : Int) < mp0 := by have := List.mem_range.1 hx; omega
  refine foldl_bif_congr (fun y hy => ?_) _ _
  have hmx := hfm (x : Int) (by omega) hx'
  unfold F_bounded_k2 goodS
  rw [hq, start_has hm hn h6m h6n x y hx' (by omega), forth_eq _ _ _ _ _ _ _ _ _ (by omega) hmx.1 (by rw [hl]; exact hmx.2), back_eq _ _ _ _ _ _ _ _ _ (by omega) hmx.1 (by rw [hl]; exact hmx.2)]
theorem bounded_eq {mp0 np0 : Int} {mp1 mp2 np1 np2 : List Int} (hm : 0 ≤ mp0 ∧ mp0 ≤ 8) (hn : 0 ≤ np0 ∧ np0 ≤ 8) (h6m : (mp2.length : Int) = 6) (h6n : (np2.length : Int) = 6) (hfm : ∀ m : Int, 0 ≤ m → m < mp0 → 0 ≤ gI mp1 m ∧ gI mp1 m ≤ fullI mp0) (K : Nat) : F_bounded mp0 mp1 mp2 np0 np1 np2 (K : Int) = (List.range (K + 1)).map (lkT mp0 mp1 mp2 np0 np1 np2) := by
  unfold F_bounded
  rw [link_start hm hn h6m h6n]
  have key : ∀ (r k : Nat), k ≤ K → K - k < r → (F_bounded_L1 mp0 mp1 mp2 np0 np1 np2 (K : Int) r (k : Int) ((List.range (k + 1)).map (lkT mp0 mp1 mp2 np0 np1 np2))).2 = (List.range (K + 1)).map (lkT mp0 mp1 mp2 np0 np1 np2) := by
    intro r
    induction r with
    | zero => intro k hk hr; omega
    | succ r ih =>
      intro k hk hr
      show (F_bounded_L1b mp0 mp1 mp2 np0 np1 np2 (K : Int) _ (k : Int) _).2 = _
      unfold F_bounded_L1b
      by_cases h : (k : Int) < (K : Int)
      · rw [decide_eq_true h, cond_true]
        have hlast : gL ((List.range (k + 1)).map (lkT mp0 mp1 mp2 np0 np1 np2)) ((((List.range (k + 1)).map (lkT mp0 mp1 mp2 np0 np1 np2)).length : Int) - 1) = lkT mp0 mp1 mp2 np0 np1 np2 k := by
          rw [List.length_map, List.length_range, show (((k + 1 : Nat) : Int) - 1) = (k : Int) by omega, gL_range _ (by omega)]
        rw [hlast, link_step hm hn h6m h6n hfm _ _ (gL_range (lkT mp0 mp1 mp2 np0 np1 np2) (n := k + 1) (k := 0) (by omega)) (lkT_len hm.1 hn.1 k)]
        have := ih (k + 1) (by omega) (by omega)
        rw [← lkT_app] at this
        rw [← this]; rfl
      · rw [decide_eq_false h, cond_false]
        have : k = K := by omega
        rw [this]
  have e : Int.toNat ((K : Int) - 0) = K := by omega
  rw [e]
  exact key (K + 1) 0 (by omega) (by omega)
theorem bounded_len {mp0 np0 : Int} {mp1 mp2 np1 np2 : List Int} (hm : 0 ≤ mp0 ∧ mp0 ≤ 8) (hn : 0 ≤ np0 ∧ np0 ≤ 8) (h6m : (mp2.length : Int) = 6) (h6n : (np2.length : Int) = 6) (hfm : ∀ m : Int, 0 ≤ m → m < mp0 → 0 ≤ gI mp1 m ∧ gI mp1 m ≤ fullI mp0) {k : Int} (hk : 0 ≤ k) : ((F_bounded mp0 mp1 mp2 np0 np1 np2 k).length : Int) = k + 1 := by
  obtain ⟨K, rfl⟩ : ∃ K : Nat, k = (K : Int) := ⟨k.toNat, by omega⟩
  rw [bounded_eq hm hn h6m h6n hfm]; simp

def F_l07Bounded_L1b (mp0 : Int) (mp1 : List Int) (mp2 : List Int) (np0 : Int) (np1 : List Int) (np2 : List Int) (rec : (List (List Int)) → Int → (List (List Int)) × Int) (out5 : List (List Int)) (k6 : Int) : (List (List Int)) × Int :=
  bif (decide (k6 < 16)) then (rec (out5 ++ ([F_l07Step mp0 mp1 mp2 np0 np1 np2 (gL out5 k6)])) (k6 + 1)) else (out5, k6)
def F_l07Bounded_L1 (mp0 : Int) (mp1 : List Int) (mp2 : List Int) (np0 : Int) (np1 : List Int) (np2 : List Int) : Nat → (List (List Int)) → Int → (List (List Int)) × Int
  | 0, out5, k6 => (out5, k6)
  | r + 1, out5, k6 => F_l07Bounded_L1b mp0 mp1 mp2 np0 np1 np2 (F_l07Bounded_L1 mp0 mp1 mp2 np0 np1 np2 r) out5 k6
def F_l07Bounded (mp0 : Int) (mp1 : List Int) (mp2 : List Int) (np0 : Int) (np1 : List Int) (np2 : List Int) : List (List Int) :=
  (F_l07Bounded_L1 mp0 mp1 mp2 np0 np1 np2 (Int.toNat (16 - 0) + 1) ([F_l07Start mp0 mp1 mp2 np0 np1 np2]) 0).1
theorem cf_l07Bounded (args : Array Value) (w : World) : (callFunc 86 args).run Try.prog w = .ok (.enter 86 args) w := by kernel_rfl
set_option maxRecDepth 100000 in
theorem c_l07Bounded (mp0 : Int) (mp1A : Option Addr) (mp1N mp1C : Nat) (mp1 : List Int) (mp2A : Option Addr) (mp2N mp2C : Nat) (mp2 : List Int) (np0 : Int) (np1A : Option Addr) (np1N np1C : Nat) (np1 : List Int) (np2A : Option Addr) (np2N np2C : Nat) (np2 : List Int) (w : World) (mp1R : RdS w 1 mp1A mp1N mp1C mp1) (mp2R : RdS w 1 mp2A mp2N mp2C mp2) (np1R : RdS w 1 np1A np1N np1C np1) (np2R : RdS w 1 np2A np2N np2C np2) (h6mp : (mp2.length : Int) = 6) (hwmp : 0 ≤ mp0 ∧ mp0 ≤ 8) (hlmp : (mp1.length : Int) = mp0) (h6np : (np2.length : Int) = 6) (hwnp : 0 ≤ np0 ∧ np0 ≤ 8) (hlnp : (np1.length : Int) = np0) :
    Calls Try.prog 86 #[.agg #[.int .i64 mp0, .slice mp1A mp1N mp1C, .slice mp2A mp2N mp2C], .agg #[.int .i64 np0, .slice np1A np1N np1C, .slice np2A np2N np2C]] w (Ret fun v w' => ∃ b1 : Option Addr, ∃ c1 : Nat, ∃ h1 : List Hd, v = .slice b1 (F_l07Bounded mp0 mp1 mp2 np0 np1 np2).length c1 ∧ OwnN w' w.heap.size 22 1 2 b1 c1 h1 (F_l07Bounded mp0 mp1 mp2 np0 np1 np2) ∧ Ext w w') := by
  obtain rfl : mp1N = mp1.length := mp1R.len1.symm
  have mp1Le := mp1R.le
  obtain rfl : mp2N = mp2.length := mp2R.len1.symm
  have mp2Le := mp2R.le
  obtain rfl : np1N = np1.length := np1R.len1.symm
  have np1Le := np1R.le
  obtain rfl : np2N = np2.length := np2R.len1.symm
  have np2Le := np2R.le
  have hS := St.nil w
  have hS1 := St.rd0 hS rfl mp1R; clear hS
  have hS2 := St.rd0 hS1 rfl mp2R; clear hS1
  have hS3 := St.rd0 hS2 rfl np1R; clear hS2
  have hS4 := St.rd0 hS3 rfl np2R; clear hS3
  refine enter (args := [.agg #[.int .i64 mp0, .slice mp1A mp1.length mp1C, .slice mp2A mp2.length mp2C], .agg #[.int .i64 np0, .slice np1A np1.length np1C, .slice np2A np2.length np2C]]) Try.func86 rfl rfl ?_
  rw [Try.ntmps86]; intro a hE
  have hE := hE.sub (L' := [(0, .agg #[.int .i64 mp0, .slice mp1A mp1.length mp1C, .slice mp2A mp2.length mp2C]), (1, .agg #[.int .i64 np0, .slice np1A np1.length np1C, .slice np2A np2.length np2C])]) ⟨rfl, rfl, trivial⟩
  refine c_seq ?_
  refine c_reg ?_
  refine l_step hE rfl (l_box (v := .agg #[.int .i64 mp0, .slice mp1A mp1.length mp1C, .slice mp2A mp2.length mp2C]) (cs := #[.int .i64 mp0, .slice mp1A mp1.length mp1C, .slice mp2A mp2.length mp2C]) hS4 hE rfl rfl rfl ?_)
  intro b5 w6 hS9 he10 a7 hE8; clear hS4 hE
  refine l_step hE8 rfl (l_box (v := .agg #[.int .i64 np0, .slice np1A np1.length np1C, .slice np2A np2.length np2C]) (cs := #[.int .i64 np0, .slice np1A np1.length np1C, .slice np2A np2.length np2C]) hS9 hE8 rfl rfl rfl ?_)
  intro b11 w12 hS15 he16 a13 hE14; clear hS9 hE8
  refine q_step (v := .slice none 0 0) hE14 (y_assign rfl) rfl rfl rfl ?_; intro a17 hE18; clear hE14
  refine c_nil ?_
  have hE19 := hE18.sub (L' := [(2, .pointer (some ⟨b5, 0, none⟩)), (3, .pointer (some ⟨b11, 0, none⟩))]) ⟨rfl, rfl, trivial⟩; clear hE18
  refine p_tn ?_
  refine c_seq ?_
  refine c_reg ?_
  refine q_step (v := .agg #[.int .i64 mp0, .slice mp1A mp1.length mp1C, .slice mp2A mp2.length mp2C]) hE19 (y_loadS Try.underlying32 rfl (by kernel_rfl) rfl (St.row (i := 1) hS15 rfl)) rfl rfl rfl ?_; intro a20 hE21; clear hE19
  refine q_step (v := .agg #[.int .i64 np0, .slice np1A np1.length np1C, .slice np2A np2.length np2C]) hE21 (y_loadS Try.underlying32 rfl (by kernel_rfl) rfl (St.row (i := 0) hS15 rfl)) rfl rfl rfl ?_; intro a22 hE23; clear hE21
  refine l_step hE23 rfl (l_call (f := 149) (argv := [.agg #[.int .i64 mp0, .slice mp1A mp1.length mp1C, .slice mp2A mp2.length mp2C], .agg #[.int .i64 np0, .slice np1A np1.length np1C, .slice np2A np2.length np2C]]) hE23 (fun _ => cf_l07Start _ _) rfl rfl (c_l07Start mp0 mp1A mp1.length mp1C mp1 mp2A mp2.length mp2C mp2 np0 np1A np1.length np1C np1 np2A np2.length np2C np2 w12 (St.rdR (i := 5) hS15 rfl) (St.rdR (i := 4) hS15 rfl) (St.rdR (i := 3) hS15 rfl) (St.rdR (i := 2) hS15 rfl) (by omega) (by omega) (by omega) (by omega) (by omega) (by omega)) ?_)
  rintro _ w25 ⟨b30, c31, rfl, ho32, he29⟩ a26 hE27; clear hE23
  have hf33 := l07Start_len mp0 mp1 mp2 np0 np1 np2
  have hS28 := St.own hS15 he29 ho32; clear hS15
  have hS40 := (St.pick (Γ' := [.own 2 1 b30 ((F_l07Start mp0 mp1 mp2 np0 np1 np2).length) c31 (F_l07Start mp0 mp1 mp2 np0 np1 np2), .blk b11 #[.int .i64 np0, .slice np1A np1.length np1C, .slice np2A np2.length np2C] 32, .blk b5 #[.int .i64 mp0, .slice mp1A mp1.length mp1C, .slice mp2A mp2.length mp2C] 32, .rd 1 np2A np2.length np2C np2, .rd 1 np1A np1.length np1C np1, .rd 1 mp2A mp2.length mp2C mp2, .rd 1 mp1A mp1.length mp1C mp1]) hS28 [0, 1, 2, 3, 4, 5, 6] (by decide) rfl); clear hS28
  refine l_step hE27 rfl (l_litO1 (e := 22) hS40 hE27 rfl (fun _ => by kernel_rfl) rfl ?_)
  intro b34 w35 hS38 he39 a36 hE37; clear hS40 hE27
  refine q_step (v := .slice (some ⟨b34, 0, none⟩) 1 1) hE37 (y_assign rfl) rfl rfl rfl ?_; intro a41 hE42; clear hE37
  refine c_nil ?_
  have hE43 := hE42.sub (L' := [(2, .pointer (some ⟨b5, 0, none⟩)), (3, .pointer (some ⟨b11, 0, none⟩)), (5, .slice (some ⟨b34, 0, none⟩) 1 1)]) ⟨rfl, rfl, rfl, trivial⟩; clear hE42
  refine p_tn ?_
  refine c_seq ?_
  refine c_seq ?_
  refine c_reg ?_
  refine q_step (v := .int .i64 0) hE43 (y_assign rfl) rfl rfl rfl ?_; intro a44 hE45; clear hE43
  refine c_nil ?_
  have hE46 := hE45.sub (L' := [(2, .pointer (some ⟨b5, 0, none⟩)), (3, .pointer (some ⟨b11, 0, none⟩)), (5, .slice (some ⟨b34, 0, none⟩) 1 1), (6, .int .i64 0)]) ⟨rfl, rfl, rfl, rfl, trivial⟩; clear hE45
  refine p_tn ?_
  refine c_cut1 (fun a' w' => ∃ out5A_47 : Option Addr, ∃ out5C_47 : Nat, ∃ out5H_47 : List Hd, (0 ≤ ((F_l07Bounded_L1 mp0 mp1 mp2 np0 np1 np2 (Int.toNat (16 - 0) + 1) ([F_l07Start mp0 mp1 mp2 np0 np1 np2]) 0).2)) ∧ ((((F_l07Bounded_L1 mp0 mp1 mp2 np0 np1 np2 (Int.toNat (16 - 0) + 1) ([F_l07Start mp0 mp1 mp2 np0 np1 np2]) 0).1).length : Int) = ((F_l07Bounded_L1 mp0 mp1 mp2 np0 np1 np2 (Int.toNat (16 - 0) + 1) ([F_l07Start mp0 mp1 mp2 np0 np1 np2]) 0).2) + 1) ∧ (RowsN mp0 ((F_l07Bounded_L1 mp0 mp1 mp2 np0 np1 np2 (Int.toNat (16 - 0) + 1) ([F_l07Start mp0 mp1 mp2 np0 np1 np2]) 0).1)) ∧ E a' 26 [(2, .pointer (some ⟨b5, 0, none⟩)), (3, .pointer (some ⟨b11, 0, none⟩)), (5, .slice out5A_47 (((F_l07Bounded_L1 mp0 mp1 mp2 np0 np1 np2 (Int.toNat (16 - 0) + 1) ([F_l07Start mp0 mp1 mp2 np0 np1 np2]) 0).1).length) out5C_47), (6, .int .i64 ((F_l07Bounded_L1 mp0 mp1 mp2 np0 np1 np2 (Int.toNat (16 - 0) + 1) ([F_l07Start mp0 mp1 mp2 np0 np1 np2]) 0).2))] ∧ St w w' [.nest 22 1 (some 2) out5A_47 out5C_47 out5H_47 ((F_l07Bounded_L1 mp0 mp1 mp2 np0 np1 np2 (Int.toNat (16 - 0) + 1) ([F_l07Start mp0 mp1 mp2 np0 np1 np2]) 0).1), .blk b11 #[.int .i64 np0, .slice np1A np1.length np1C, .slice np2A np2.length np2C] 32, .blk b5 #[.int .i64 mp0, .slice mp1A mp1.length mp1C, .slice mp2A mp2.length mp2C] 32, .rd 1 np2A np2.length np2C np2, .rd 1 np1A np1.length np1C np1, .rd 1 mp2A mp2.length mp2C mp2, .rd 1 mp1A mp1.length mp1C mp1]) ?_ ?_
  ·
    refine wp_block ?_
    refine c_loop (fun r a' w' => ∃ out5 : List (List Int), ∃ k6 : Int, ∃ out5A : Option Addr, ∃ out5C : Nat, ∃ out5H : List Hd, F_l07Bounded_L1 mp0 mp1 mp2 np0 np1 np2 r out5 k6 = F_l07Bounded_L1 mp0 mp1 mp2 np0 np1 np2 (Int.toNat (16 - 0) + 1) ([F_l07Start mp0 mp1 mp2 np0 np1 np2]) 0 ∧ Int.toNat (16 - k6) < r ∧ (0 ≤ k6) ∧ ((out5.length : Int) = k6 + 1) ∧ (RowsN mp0 out5) ∧ E a' 26 [(2, .pointer (some ⟨b5, 0, none⟩)), (3, .pointer (some ⟨b11, 0, none⟩)), (5, .slice out5A ((out5).length) out5C), (6, .int .i64 k6)] ∧ St w w' [.nest 22 1 (some 2) out5A out5C out5H out5, .blk b11 #[.int .i64 np0, .slice np1A np1.length np1C, .slice np2A np2.length np2C] 32, .blk b5 #[.int .i64 mp0, .slice mp1A mp1.length mp1C, .slice mp2A mp2.length mp2C] 32, .rd 1 np2A np2.length np2C np2, .rd 1 np1A np1.length np1C np1, .rd 1 mp2A mp2.length mp2C mp2, .rd 1 mp1A mp1.length mp1C mp1]) (r := (Int.toNat (16 - 0) + 1)) ?_ ?_
    · exact ⟨[F_l07Start mp0 mp1 mp2 np0 np1 np2], 0, some ⟨b34, 0, none⟩, 1, [⟨b30, (F_l07Start mp0 mp1 mp2 np0 np1 np2).length, c31⟩], rfl, Nat.lt_succ_self _, (by first | omega | (simp only [sS_len, sL_len]; omega) | (simp only [List.length_replicate, sI_len]; omega) | (simp only [List.length_append, List.length_cons, List.length_nil, sI_len, cond_true, cond_false]; omega) | (simp only [List.length_append, List.length_cons, List.length_nil, sI_len, cond_eq_ite, apply_ite List.length]; split <;> simp only [List.length_append, List.length_cons, List.length_nil, sI_len] <;> omega) | grind), (by first | omega | (simp only [sS_len, sL_len]; omega) | (simp only [List.length_replicate, sI_len]; omega) | (simp only [List.length_append, List.length_cons, List.length_nil, sI_len, cond_true, cond_false]; omega) | (simp only [List.length_append, List.length_cons, List.length_nil, sI_len, cond_eq_ite, apply_ite List.length]; split <;> simp only [List.length_append, List.length_cons, List.length_nil, sI_len] <;> omega) | grind), (RowsN.one (l07Start_len2 (by omega) (by omega))), (hE46.sub (L' := [(2, .pointer (some ⟨b5, 0, none⟩)), (3, .pointer (some ⟨b11, 0, none⟩)), (5, .slice (some ⟨b34, 0, none⟩) 1 1), (6, .int .i64 0)]) ⟨rfl, rfl, rfl, rfl, trivial⟩), (St.pick (Γ' := [.nest 22 1 (some 2) (some ⟨b34, 0, none⟩) 1 ([⟨b30, (F_l07Start mp0 mp1 mp2 np0 np1 np2).length, c31⟩]) ([F_l07Start mp0 mp1 mp2 np0 np1 np2]), .blk b11 #[.int .i64 np0, .slice np1A np1.length np1C, .slice np2A np2.length np2C] 32, .blk b5 #[.int .i64 mp0, .slice mp1A mp1.length mp1C, .slice mp2A mp2.length mp2C] 32, .rd 1 np2A np2.length np2C np2, .rd 1 np1A np1.length np1C np1, .rd 1 mp2A mp2.length mp2C mp2, .rd 1 mp1A mp1.length mp1C mp1]) hS38 [0, 1, 2, 3, 4, 5, 6] (by decide) rfl)⟩
    ·
      clear hE46 hS38
      rintro r57 a48 w49 ⟨out5, k6, out5A, out5C, out5H, hT52, hr53, hi54, hi55, hi56, hE50, hS51⟩
      obtain ⟨r57, rfl⟩ : ∃ r', r57 = r' + 1 := ⟨r57 - 1, by omega⟩
      refine c_seq ?_
      refine c_seq ?_
      refine c_reg ?_
      refine q_step (v := .int .i64 k6) hE50 (y_move rfl) rfl rfl rfl ?_; intro a58 hE59; clear hE50
      refine q_step (v := .bool (decide (k6 < 16))) hE59 (y_lss rfl rfl) rfl rfl rfl ?_; intro a60 hE61; clear hE59
      refine c_nil ?_
      have hE62 := hE61.sub (L' := [(2, .pointer (some ⟨b5, 0, none⟩)), (3, .pointer (some ⟨b11, 0, none⟩)), (5, .slice out5A ((out5).length) out5C), (6, .int .i64 k6), (12, .bool (decide (k6 < 16)))]) ⟨rfl, rfl, rfl, rfl, rfl, trivial⟩; clear hE61
      refine p_tn ?_
      refine c_cond hE62 rfl (fun ht63 => ?_) (fun ht63 => ?_)
      ·
        have hp64 := of_decide_eq_true ht63
        have hE65 := hE62; rw [ht63] at hE65; clear hE62
        have hrk := (show RowsN mp0 out5 by assumption) k6 (by omega) (by omega)
        refine wp_skip ?_
        refine p_tn ?_
        refine c_seq ?_
        refine wp_block ?_
        refine d_start (fun w w' => (fun w' => w'.heap[b5]? = some (.cells #[.int .i64 mp0, .slice mp1A mp1.length mp1C, .slice mp2A mp2.length mp2C] 32 (0, 0)) ∧ w'.heap[b11]? = some (.cells #[.int .i64 np0, .slice np1A np1.length np1C, .slice np2A np2.length np2C] 32 (0, 0)) ∧ w'.cell? (adr out5A (Int.toNat k6)) = some (.slice (hdA out5H k6) (gL out5 k6).length (hdC out5H k6)) ∧ True) w → (fun w' => w'.heap[b5]? = some (.cells #[.int .i64 mp0, .slice mp1A mp1.length mp1C, .slice mp2A mp2.length mp2C] 32 (0, 0)) ∧ w'.heap[b11]? = some (.cells #[.int .i64 np0, .slice np1A np1.length np1C, .slice np2A np2.length np2C] 32 (0, 0)) ∧ w'.cell? (adr out5A (Int.toNat k6)) = some (.slice (hdA out5H k6) (gL out5 k6).length (hdC out5H k6)) ∧ True) w') [1, 2, 6] 11 (by kernel_rfl) rfl ?_
        intro w66 he67; have hS68 := St.go hS51 he67; clear hS51
        refine d_pure (fun _ h => h) (v := .slice out5A ((out5).length) out5C) 0 rfl hE65 (y_move rfl) rfl (by kernel_rfl) (by kernel_rfl) (by kernel_rfl) rfl rfl (fun _ _ _ h => h) ?_; intro a69 hE70; clear hE65
        refine d_take (fun _ h => h) (fun _ _ h k => h k) (v := .agg #[.int .i64 mp0, .slice mp1A mp1.length mp1C, .slice mp2A mp2.length mp2C]) 1 rfl hE70 (S := fun w' => w'.heap[b5]? = some (.cells #[.int .i64 mp0, .slice mp1A mp1.length mp1C, .slice mp2A mp2.length mp2C] 32 (0, 0)) ∧ w'.heap[b11]? = some (.cells #[.int .i64 np0, .slice np1A np1.length np1C, .slice np2A np2.length np2C] 32 (0, 0)) ∧ w'.cell? (adr out5A (Int.toNat k6)) = some (.slice (hdA out5H k6) (gL out5 k6).length (hdC out5H k6)) ∧ True) ⟨(St.row (i := 2) hS68 rfl _ (Ext.refl _)), (St.row (i := 1) hS68 rfl _ (Ext.refl _)), (RdN.elt1 (St.rdNo (i := 0) hS68 rfl) (by omega) (by omega) _ (Ext.refl _)), trivial⟩ (y_loadS Try.underlying32 rfl (by kernel_rfl) rfl (fun _ h => h.1)) rfl rfl (by kernel_rfl) (by kernel_rfl) (by kernel_rfl) (by kernel_rfl) rfl rfl (fun _ _ _ h => h) ?_; intro a71 hE72; clear hE70
        refine d_take (fun _ h => h) (fun _ _ h k => h k) (v := .agg #[.int .i64 np0, .slice np1A np1.length np1C, .slice np2A np2.length np2C]) 2 rfl hE72 (S := fun w' => w'.heap[b5]? = some (.cells #[.int .i64 mp0, .slice mp1A mp1.length mp1C, .slice mp2A mp2.length mp2C] 32 (0, 0)) ∧ w'.heap[b11]? = some (.cells #[.int .i64 np0, .slice np1A np1.length np1C, .slice np2A np2.length np2C] 32 (0, 0)) ∧ w'.cell? (adr out5A (Int.toNat k6)) = some (.slice (hdA out5H k6) (gL out5 k6).length (hdC out5H k6)) ∧ True) ⟨(St.row (i := 2) hS68 rfl _ (Ext.refl _)), (St.row (i := 1) hS68 rfl _ (Ext.refl _)), (RdN.elt1 (St.rdNo (i := 0) hS68 rfl) (by omega) (by omega) _ (Ext.refl _)), trivial⟩ (y_loadS Try.underlying32 rfl (by kernel_rfl) rfl (fun _ h => h.2.1)) rfl rfl (by kernel_rfl) (by kernel_rfl) (by kernel_rfl) (by kernel_rfl) rfl rfl (fun _ _ _ h => h) ?_; intro a73 hE74; clear hE72
        refine d_pure (fun _ h => h) (v := .slice out5A ((out5).length) out5C) 3 rfl hE74 (y_move rfl) rfl (by kernel_rfl) (by kernel_rfl) (by kernel_rfl) rfl rfl (fun _ _ _ h => h) ?_; intro a75 hE76; clear hE74
        refine d_pure (fun _ h => h) (v := .int .i64 k6) 4 rfl hE76 (y_move rfl) rfl (by kernel_rfl) (by kernel_rfl) (by kernel_rfl) rfl rfl (fun _ _ _ h => h) ?_; intro a77 hE78; clear hE76
        refine d_pure (fun _ h => h) (v := .pointer (some (adr out5A (Int.toNat k6)))) 5 rfl hE78 (y_idx (by kernel_rfl) (fun _ => by kernel_rfl) rfl rfl (RdN.isS (m := k6) (St.rdNo (i := 0) hS68 rfl) (by omega) (by omega)) (by omega) (by omega) (Nat.mul_one _).symm) rfl (by kernel_rfl) (by kernel_rfl) (by kernel_rfl) rfl rfl (fun _ _ _ h => h) ?_; intro a79 hE80; clear hE78
        have hv81 : (0 : Int) ≤ k6 ∧ k6 < ((out5).length : Int) := ⟨(by omega), (by omega)⟩
        refine d_take (fun _ h => h) (fun _ _ h k => h k) (v := .slice (hdA out5H k6) ((gL out5 k6).length) (hdC out5H k6)) 6 rfl hE80 (S := fun w' => w'.heap[b5]? = some (.cells #[.int .i64 mp0, .slice mp1A mp1.length mp1C, .slice mp2A mp2.length mp2C] 32 (0, 0)) ∧ w'.heap[b11]? = some (.cells #[.int .i64 np0, .slice np1A np1.length np1C, .slice np2A np2.length np2C] 32 (0, 0)) ∧ w'.cell? (adr out5A (Int.toNat k6)) = some (.slice (hdA out5H k6) (gL out5 k6).length (hdC out5H k6)) ∧ True) ⟨(St.row (i := 2) hS68 rfl _ (Ext.refl _)), (St.row (i := 1) hS68 rfl _ (Ext.refl _)), (RdN.elt1 (St.rdNo (i := 0) hS68 rfl) (by omega) (by omega) _ (Ext.refl _)), trivial⟩ (y_load (fun _ => by kernel_rfl) rfl (fun _ h => h.2.2.1)) rfl rfl (by kernel_rfl) (by kernel_rfl) (by kernel_rfl) (by kernel_rfl) rfl rfl (fun _ _ _ h => h) ?_; intro a83 hE84; clear hE80
        refine d_only 7 (by kernel_rfl) rfl hE84 rfl (l_call (f := 150) (argv := [.agg #[.int .i64 mp0, .slice mp1A mp1.length mp1C, .slice mp2A mp2.length mp2C], .agg #[.int .i64 np0, .slice np1A np1.length np1C, .slice np2A np2.length np2C], .slice (hdA out5H k6) ((gL out5 k6).length) (hdC out5H k6)]) hE84 (fun _ => cf_l07Step _ _) rfl rfl (c_l07Step mp0 mp1A mp1.length mp1C mp1 mp2A mp2.length mp2C mp2 np0 np1A np1.length np1C np1 np2A np2.length np2C np2 (hdA out5H k6) ((gL out5 k6).length) (hdC out5H k6) (gL out5 k6) w66 (St.rdR (i := 6) hS68 rfl) (St.rdR (i := 5) hS68 rfl) (St.rdR (i := 4) hS68 rfl) (St.rdR (i := 3) hS68 rfl) (RdN.row1 (St.rdNo (i := 0) hS68 rfl) hv81.1 hv81.2) (by omega) (by omega) (by omega) (by omega) (by omega) (by omega) (by omega)) ?_)
        rintro _ w86 ⟨b91, c92, rfl, ho93, he90⟩ a87 hE88; clear hE84
        have hf94 := l07Step_len mp0 mp1 mp2 np0 np1 np2 (gL out5 k6)
        have hS89 := St.own hS68 he90 ho93; clear hS68
        refine ⟨fun h => Bool.noConfusion (h.symm.trans (show exm _ _ _ = true by kernel_rfl)), ?_⟩
        have hS101 := (St.pick (Γ' := [.own 2 1 b91 ((F_l07Step mp0 mp1 mp2 np0 np1 np2 (gL out5 k6)).length) c92 (F_l07Step mp0 mp1 mp2 np0 np1 np2 (gL out5 k6)), .nest 22 1 (some 2) out5A out5C out5H out5, .blk b11 #[.int .i64 np0, .slice np1A np1.length np1C, .slice np2A np2.length np2C] 32, .blk b5 #[.int .i64 mp0, .slice mp1A mp1.length mp1C, .slice mp2A mp2.length mp2C] 32, .rd 1 np2A np2.length np2C np2, .rd 1 np1A np1.length np1C np1, .rd 1 mp2A mp2.length mp2C mp2, .rd 1 mp1A mp1.length mp1C mp1]) hS89 [0, 1, 2, 3, 4, 5, 6, 7] (by decide) rfl); clear hS89
        refine d_only 8 (by kernel_rfl) rfl hE88 rfl (l_litO1 (e := 22) hS101 hE88 rfl (fun _ => by kernel_rfl) rfl ?_)
        intro b95 w96 hS99 he100 a97 hE98; clear hS101 hE88
        refine ⟨fun h => Bool.noConfusion (h.symm.trans (show exm _ _ _ = true by kernel_rfl)), ?_⟩
        have hS108 := (St.pick (Γ' := [.nest 22 1 (some 2) (some ⟨b95, 0, none⟩) 1 ([⟨b91, (F_l07Step mp0 mp1 mp2 np0 np1 np2 (gL out5 k6)).length, c92⟩]) ([F_l07Step mp0 mp1 mp2 np0 np1 np2 (gL out5 k6)]), .nest 22 1 (some 2) out5A out5C out5H out5, .blk b11 #[.int .i64 np0, .slice np1A np1.length np1C, .slice np2A np2.length np2C] 32, .blk b5 #[.int .i64 mp0, .slice mp1A mp1.length mp1C, .slice mp2A mp2.length mp2C] 32, .rd 1 np2A np2.length np2C np2, .rd 1 np1A np1.length np1C np1, .rd 1 mp2A mp2.length mp2C mp2, .rd 1 mp1A mp1.length mp1C mp1]) hS99 [0, 1, 2, 3, 4, 5, 6, 7] (by decide) rfl); clear hS99
        obtain ⟨_, hi1, hi2, hi3, hi4⟩ := info_parts (show (Try.prog.info? 22).map (fun i => (i.zero, i.size, i.bytes)) = some (some (.slice none 0 0), 1, 24) by kernel_rfl)
        refine d_only 9 (by kernel_rfl) rfl hE98 rfl (l_appendN (k := 0) hS108 hE98 (by kernel_rfl) hi1 hi2 hi3 rfl (by rw [hi4]; decide) rfl rfl rfl rfl rfl rfl (by first | omega | (simp only [List.length_append, List.length_cons, List.length_nil]; omega)) rfl ?_)
        intro b102 c109 w103 hS106 a104 hE105; clear hS108 hE98 hi1 hi2 hi3 hi4
        refine ⟨fun h => Bool.noConfusion (h.symm.trans (show exm _ _ _ = true by kernel_rfl)), ?_⟩
        refine d_pure (fun _ h => h) (v := .slice b102 ((out5 ++ ([F_l07Step mp0 mp1 mp2 np0 np1 np2 (gL out5 k6)])).length) c109) 10 rfl hE105 (y_assign rfl) rfl (by kernel_rfl) (by kernel_rfl) (by kernel_rfl) rfl rfl (fun _ _ _ h => h) ?_; intro a110 hE111; clear hE105
        refine d_done (by kernel_rfl) ?_
        have hE112 := hE111.sub (L' := [(2, .pointer (some ⟨b5, 0, none⟩)), (3, .pointer (some ⟨b11, 0, none⟩)), (5, .slice b102 ((out5 ++ ([F_l07Step mp0 mp1 mp2 np0 np1 np2 (gL out5 k6)])).length) c109), (6, .int .i64 k6)]) ⟨rfl, rfl, rfl, rfl, trivial⟩; clear hE111
        refine p_bn ?_
        refine p_tn ?_
        refine c_reg ?_
        refine q_step (v := .int .i64 k6) hE112 (y_move rfl) rfl rfl rfl ?_; intro a113 hE114; clear hE112
        refine q_step (v := .int .i64 (k6 + 1)) hE114 (y_add rfl rfl ⟨(by omega), (by omega)⟩) rfl rfl rfl ?_; intro a115 hE116; clear hE114
        refine q_step (v := .int .i64 (k6 + 1)) hE116 (y_assign rfl) rfl rfl rfl ?_; intro a117 hE118; clear hE116
        refine c_nil ?_
        have hE119 := hE118.sub (L' := [(2, .pointer (some ⟨b5, 0, none⟩)), (3, .pointer (some ⟨b11, 0, none⟩)), (5, .slice b102 ((out5 ++ ([F_l07Step mp0 mp1 mp2 np0 np1 np2 (gL out5 k6)])).length) c109), (6, .int .i64 (k6 + 1))]) ⟨rfl, rfl, rfl, rfl, trivial⟩; clear hE118
        refine p_tn ⟨r57, Nat.lt_succ_self _, out5 ++ ([F_l07Step mp0 mp1 mp2 np0 np1 np2 (gL out5 k6)]), k6 + 1, b102, c109, out5H ++ ([⟨b91, (F_l07Step mp0 mp1 mp2 np0 np1 np2 (gL out5 k6)).length, c92⟩]), (hT52.symm.trans (show F_l07Bounded_L1b mp0 mp1 mp2 np0 np1 np2 (F_l07Bounded_L1 mp0 mp1 mp2 np0 np1 np2 r57) out5 k6 = F_l07Bounded_L1 mp0 mp1 mp2 np0 np1 np2 r57 (out5 ++ ([F_l07Step mp0 mp1 mp2 np0 np1 np2 (gL out5 k6)])) (k6 + 1) by unfold F_l07Bounded_L1b; rw [ht63]; first | done | rfl)).symm, (by omega), (by first | omega | (simp only [sS_len, sL_len]; omega) | (simp only [List.length_replicate, sI_len]; omega) | (simp only [List.length_append, List.length_cons, List.length_nil, sI_len, cond_true, cond_false]; omega) | (simp only [List.length_append, List.length_cons, List.length_nil, sI_len, cond_eq_ite, apply_ite List.length]; split <;> simp only [List.length_append, List.length_cons, List.length_nil, sI_len] <;> omega) | grind), (by rw [app1_len]; omega), (RowsN.app (by assumption) (l07Step_len2 (by omega))), (hE119.sub (L' := [(2, .pointer (some ⟨b5, 0, none⟩)), (3, .pointer (some ⟨b11, 0, none⟩)), (5, .slice b102 ((out5 ++ ([F_l07Step mp0 mp1 mp2 np0 np1 np2 (gL out5 k6)])).length) c109), (6, .int .i64 (k6 + 1))]) ⟨rfl, rfl, rfl, rfl, trivial⟩), (St.pick (Γ' := [.nest 22 1 (some 2) b102 c109 (out5H ++ ([⟨b91, (F_l07Step mp0 mp1 mp2 np0 np1 np2 (gL out5 k6)).length, c92⟩])) (out5 ++ ([F_l07Step mp0 mp1 mp2 np0 np1 np2 (gL out5 k6)])), .blk b11 #[.int .i64 np0, .slice np1A np1.length np1C, .slice np2A np2.length np2C] 32, .blk b5 #[.int .i64 mp0, .slice mp1A mp1.length mp1C, .slice mp2A mp2.length mp2C] 32, .rd 1 np2A np2.length np2C np2, .rd 1 np1A np1.length np1C np1, .rd 1 mp2A mp2.length mp2C mp2, .rd 1 mp1A mp1.length mp1C mp1]) hS106 [0, 1, 2, 3, 4, 5, 6] (by decide) rfl)⟩
      ·
        have hp120 := of_decide_eq_false ht63
        have hE121 := hE62; rw [ht63] at hE121; clear hE62
        refine wp_exit ?_
        refine p_te ?_
        have hX122 : F_l07Bounded_L1 mp0 mp1 mp2 np0 np1 np2 (Int.toNat (16 - 0) + 1) ([F_l07Start mp0 mp1 mp2 np0 np1 np2]) 0 = (out5, k6) := hT52.symm.trans (show F_l07Bounded_L1b mp0 mp1 mp2 np0 np1 np2 (F_l07Bounded_L1 mp0 mp1 mp2 np0 np1 np2 r57) out5 k6 = (out5, k6) by unfold F_l07Bounded_L1b; rw [ht63]; first | done | rfl)
        refine p_te (p_be (p_tn ?_))
        exact ⟨out5A, out5C, out5H, (by rw [hX122]; exact (show 0 ≤ k6 from (by first | omega | (simp only [sS_len, sL_len]; omega) | (simp only [List.length_replicate, sI_len]; omega) | (simp only [List.length_append, List.length_cons, List.length_nil, sI_len, cond_true, cond_false]; omega) | (simp only [List.length_append, List.length_cons, List.length_nil, sI_len, cond_eq_ite, apply_ite List.length]; split <;> simp only [List.length_append, List.length_cons, List.length_nil, sI_len] <;> omega) | grind))), (by rw [hX122]; exact (show (out5.length : Int) = k6 + 1 from (by first | omega | (simp only [sS_len, sL_len]; omega) | (simp only [List.length_replicate, sI_len]; omega) | (simp only [List.length_append, List.length_cons, List.length_nil, sI_len, cond_true, cond_false]; omega) | (simp only [List.length_append, List.length_cons, List.length_nil, sI_len, cond_eq_ite, apply_ite List.length]; split <;> simp only [List.length_append, List.length_cons, List.length_nil, sI_len] <;> omega) | grind))), (by rw [hX122]; exact (show RowsN mp0 out5 from (by first | omega | (simp only [sS_len, sL_len]; omega) | (simp only [List.length_replicate, sI_len]; omega) | (simp only [List.length_append, List.length_cons, List.length_nil, sI_len, cond_true, cond_false]; omega) | (simp only [List.length_append, List.length_cons, List.length_nil, sI_len, cond_eq_ite, apply_ite List.length]; split <;> simp only [List.length_append, List.length_cons, List.length_nil, sI_len] <;> omega) | grind))), (by rw [hX122]; exact (hE121.sub (L' := [(2, .pointer (some ⟨b5, 0, none⟩)), (3, .pointer (some ⟨b11, 0, none⟩)), (5, .slice out5A ((out5).length) out5C), (6, .int .i64 k6)]) ⟨rfl, rfl, rfl, rfl, trivial⟩)), (by rw [hX122]; exact (St.pick (Γ' := [.nest 22 1 (some 2) out5A out5C out5H out5, .blk b11 #[.int .i64 np0, .slice np1A np1.length np1C, .slice np2A np2.length np2C] 32, .blk b5 #[.int .i64 mp0, .slice mp1A mp1.length mp1C, .slice mp2A mp2.length mp2C] 32, .rd 1 np2A np2.length np2C np2, .rd 1 np1A np1.length np1C np1, .rd 1 mp2A mp2.length mp2C mp2, .rd 1 mp1A mp1.length mp1C mp1]) hS51 [0, 1, 2, 3, 4, 5, 6] (by decide) rfl))⟩
  ·
    rintro a123 w124 ⟨out5A_47, out5C_47, out5H_47, hi128, hi129, hi130, hE125, hS126⟩; clear hE46 hS38
    refine p_tn ?_
    refine c_seq ?_
    refine c_reg ?_
    refine q_step (v := .slice out5A_47 (((F_l07Bounded_L1 mp0 mp1 mp2 np0 np1 np2 (Int.toNat (16 - 0) + 1) ([F_l07Start mp0 mp1 mp2 np0 np1 np2]) 0).1).length) out5C_47) hE125 (y_move rfl) rfl rfl rfl ?_; intro a131 hE132; clear hE125
    refine q_step (v := .slice out5A_47 (((F_l07Bounded_L1 mp0 mp1 mp2 np0 np1 np2 (Int.toNat (16 - 0) + 1) ([F_l07Start mp0 mp1 mp2 np0 np1 np2]) 0).1).length) out5C_47) hE132 (y_assign rfl) rfl rfl rfl ?_; intro a133 hE134; clear hE132
    refine c_nil ?_
    have hE135 := hE134.sub (L' := [(4, .slice out5A_47 (((F_l07Bounded_L1 mp0 mp1 mp2 np0 np1 np2 (Int.toNat (16 - 0) + 1) ([F_l07Start mp0 mp1 mp2 np0 np1 np2]) 0).1).length) out5C_47)]) ⟨rfl, trivial⟩; clear hE134
    refine p_tn ?_
    refine wp_ret ?_
    have hF : F_l07Bounded mp0 mp1 mp2 np0 np1 np2 = (F_l07Bounded_L1 mp0 mp1 mp2 np0 np1 np2 (Int.toNat (16 - 0) + 1) ([F_l07Start mp0 mp1 mp2 np0 np1 np2]) 0).1 := by unfold F_l07Bounded; rfl
    refine c_ret1 hE135 rfl rfl ?_
    exact ⟨out5A_47, out5C_47, out5H_47, (by rw [hF]; first | done | (dsimp only; done) | rfl), (by rw [hF]; (try dsimp only); exact St.okN (i := 0) hS126 rfl), hS126.ext⟩

theorem l07Bounded_eq (mp0 : Int) (mp1 mp2 : List Int) (np0 : Int) (np1 np2 : List Int) : F_l07Bounded mp0 mp1 mp2 np0 np1 np2 = (List.range 17).map (lkT mp0 mp1 mp2 np0 np1 np2) := by
  unfold F_l07Bounded
  have key : ∀ (r k : Nat), k ≤ 16 → 16 - k < r → (F_l07Bounded_L1 mp0 mp1 mp2 np0 np1 np2 r ((List.range (k + 1)).map (lkT mp0 mp1 mp2 np0 np1 np2)) (k : Int)).1 = (List.range 17).map (lkT mp0 mp1 mp2 np0 np1 np2) := by
    intro r
    induction r with
    | zero => intro k hk hr; omega
    | succ r ih =>
      intro k hk hr
      show (F_l07Bounded_L1b mp0 mp1 mp2 np0 np1 np2 _ _ (k : Int)).1 = _
      unfold F_l07Bounded_L1b
      by_cases h : (k : Int) < 16
      · rw [decide_eq_true h, cond_true, gL_range _ (by omega)]
        have := ih (k + 1) (by omega) (by omega)
        rw [← lkT_app] at this
        rw [← this]; rfl
      · rw [decide_eq_false h, cond_false]
        have : k = 16 := by omega
        rw [this]
  exact key 17 0 (by omega) (by omega)
theorem l07Bounded_len (mp0 : Int) (mp1 mp2 : List Int) (np0 : Int) (np1 np2 : List Int) : (F_l07Bounded mp0 mp1 mp2 np0 np1 np2).length = 17 := by
  rw [l07Bounded_eq]; simp
theorem bounded_at {mp0 np0 : Int} {mp1 mp2 np1 np2 : List Int} (hm : 0 ≤ mp0 ∧ mp0 ≤ 8) (hn : 0 ≤ np0 ∧ np0 ≤ 8) (h6m : (mp2.length : Int) = 6) (h6n : (np2.length : Int) = 6) (hfm : ∀ m : Int, 0 ≤ m → m < mp0 → 0 ≤ gI mp1 m ∧ gI mp1 m ≤ fullI mp0) {k : Int} (hk : 0 ≤ k) (h16 : k ≤ 16) : gL (F_bounded mp0 mp1 mp2 np0 np1 np2 k) k = gL (F_l07Bounded mp0 mp1 mp2 np0 np1 np2) k ∧ ((gL (F_l07Bounded mp0 mp1 mp2 np0 np1 np2) k).length : Int) = mp0 := by
  obtain ⟨K, rfl⟩ : ∃ K : Nat, k = (K : Int) := ⟨k.toNat, by omega⟩
  rw [bounded_eq hm hn h6m h6n hfm, l07Bounded_eq, gL_range _ (by omega), gL_range _ (by omega)]
  exact ⟨rfl, lkT_len hm.1 hn.1 K⟩


end Go.Proofs.Ytlbonhloeefnmaa
