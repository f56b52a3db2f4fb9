/- GGS: models and contracts, printed by wip/gen/gen.py -/
import Derived.Test.YtejfjcjdilbkdaaGSI
import Derived.Test.YtejfjcjdilbkdaaGSB
set_option linter.unusedVariables false
set_option linter.unusedSimpArgs false
namespace Go.Proofs.Ytejfjcjdilbkdaa
open Go.RowKit

theorem sI_self {xs : List Int} {t : Int} (h0 : 0 ≤ t) (h : t < (xs.length : Int)) : sI xs t (gI xs t) = xs := by
  apply ext_gi (by rw [sI_len])
  intro j hj
  unfold sI gI
  rw [gi_set (by omega)]
  by_cases e : t.toNat = j
  · rw [if_pos e, e]
  · rw [if_neg e]
theorem mapLoop_key (n : Int) (h : Int → Int → Int) (L : Nat → Int → List Int → Int × List Int) (hL : ∀ r t xs, 0 ≤ t → (xs.length : Int) = n → L (r + 1) t xs = bif decide (t < n) then L r (t + 1) (sI xs t (h t (gI xs t))) else (t, xs)) (xs : List Int) :
    ∀ (k : Nat) (t : Int) (ys : List Int), 0 ≤ t → n - t = (k : Int) → (ys.length : Int) = n → (∀ j : Nat, (j : Int) < t → gI ys j = h j (gI xs j)) → (∀ j : Nat, t ≤ (j : Int) → gI ys j = gI xs j) →
    ((L (k + 1) t ys).2.length : Int) = n ∧ ∀ j : Nat, (j : Int) < n → gI (L (k + 1) t ys).2 j = h j (gI xs j) := by
  intro k
  induction k with
  | zero =>
    intro t ys h0 hk hl h1 h2
    rw [hL _ _ _ h0 hl, decide_eq_false (by omega), cond_false]
    exact ⟨hl, fun j hj => h1 j (by omega)⟩
  | succ k ih =>
    intro t ys h0 hk hl h1 h2
    rw [hL _ _ _ h0 hl, decide_eq_true (by omega), cond_true]
    have hs : ∀ j : Nat, gI (sI ys t (h t (gI ys t))) j = if t.toNat = j then h t (gI ys t) else gI ys j := fun j => by
      unfold sI
      show gi _ _ = _
      rw [gi_set (by omega), Int.toNat_natCast]; rfl
    refine ih (t + 1) _ (by omega) (by omega) (by rw [sI_len]; exact hl) (fun j hj => ?_) (fun j hj => ?_)
    · rw [hs]
      by_cases e : t.toNat = j
      · rw [if_pos e]
        have e2 : t = (j : Int) := by omega
        rw [e2, h2 j (by omega)]
      · rw [if_neg e]; exact h1 j (by omega)
    · rw [hs, if_neg (by omega)]; exact h2 j (by omega)
theorem mapLoop (n : Int) (h : Int → Int → Int) (L : Nat → Int → List Int → Int × List Int) (hL : ∀ r t xs, 0 ≤ t → (xs.length : Int) = n → L (r + 1) t xs = bif decide (t < n) then L r (t + 1) (sI xs t (h t (gI xs t))) else (t, xs)) (xs : List Int) (hl : (xs.length : Int) = n) :
    ((L (Int.toNat (n - 0) + 1) 0 xs).2.length : Int) = n ∧ ∀ j : Nat, (j : Int) < n → gI (L (Int.toNat (n - 0) + 1) 0 xs).2 j = h j (gI xs j) :=
  mapLoop_key n h L hL xs (Int.toNat (n - 0)) 0 xs (by omega) (by omega) hl (fun j hj => by omega) (fun _ _ => rfl)
theorem list_map_ext {xs : List Int} {n : Nat} {f : Nat → Int} (hl : xs.length = n) (h : ∀ j, j < n → gI xs (j : Int) = f j) : xs = (List.range n).map f := by
  rw [← map_gI xs, hl]
  exact List.map_congr_left fun j hj => h j (List.mem_range.1 hj)

theorem eq_of_loop (a b : List Int) (L : Nat → Int → Except Bool Int) (hL : ∀ r i, L (r + 1) i = bif decide (i < (a.length : Int)) then (bif (!decide (gI a i = gI b i)) then .error false else L r (i + 1)) else .ok i) :
    (bif (!decide ((a.length : Int) = (b.length : Int))) then false else (bif isOk (L (Int.toNat ((a.length : Int) - 0) + 1) 0) then true else errD (L (Int.toNat ((a.length : Int) - 0) + 1) 0))) = decide (a = b) := by
  rw [allE L false (a.length : Int) (fun i => !decide (gI a i = gI b i)) (by omega) (fun r i _ _ => hL r i), isOk_bif, errD_bif, bif_tf, Int.toNat_natCast]
  by_cases hl : a.length = b.length
  · rw [decide_eq_true (show (a.length : Int) = (b.length : Int) by omega), Bool.not_true, cond_false, Bool.eq_iff_iff, List.all_eq_true, decide_eq_true_iff]
    constructor
    · intro h
      apply ext_gi hl
      intro k hk
      have := h k (List.mem_range.2 hk)
      rw [Bool.not_not, decide_eq_true_iff] at this
      unfold gI at this
      rwa [Int.toNat_natCast] at this
    · intro h j _
      subst h; simp
  · rw [decide_eq_false (show ¬ (a.length : Int) = (b.length : Int) by omega), Bool.not_false, cond_true]
    exact (decide_eq_false fun h => hl (by rw [h])).symm

def sumN (xs : List Int) : Nat := (xs.map Int.toNat).sum
theorem gI_cons (a : Int) (xs : List Int) (j : Nat) : gI (a :: xs) ((j + 1 : Nat) : Int) = gI xs (j : Int) := by
  unfold gI gi; rw [Int.toNat_natCast, Int.toNat_natCast]; rfl
theorem sumN_le : ∀ {xs ys : List Int}, ys.length = xs.length → (∀ j : Nat, j < xs.length → gI ys (j : Int) ≤ gI xs (j : Int)) → sumN ys ≤ sumN xs
  | [], [], _, _ => Nat.le_refl _
  | [], _ :: _, hl, _ => by simp at hl
  | _ :: _, [], hl, _ => by simp at hl
  | a :: xs, b :: ys, hl, h => by
    have h0 : b ≤ a := h 0 (by simp)
    have := sumN_le (xs := xs) (ys := ys) (by simpa using hl) fun j hj => by
      have := h (j + 1) (by simp; omega)
      rwa [gI_cons, gI_cons] at this
    unfold sumN at this ⊢
    rw [List.map_cons, List.map_cons, List.sum_cons, List.sum_cons]
    omega
theorem sumN_lt : ∀ {xs ys : List Int}, ys.length = xs.length → (∀ j : Nat, j < xs.length → 0 ≤ gI ys (j : Int) ∧ gI ys (j : Int) ≤ gI xs (j : Int)) → ys ≠ xs → sumN ys < sumN xs
  | [], [], _, _, hne => absurd rfl hne
  | [], _ :: _, hl, _, _ => by simp at hl
  | _ :: _, [], hl, _, _ => by simp at hl
  | a :: xs, b :: ys, hl, h, hne => by
    have h0 : 0 ≤ b ∧ b ≤ a := h 0 (by simp)
    have hr : ∀ j : Nat, j < xs.length → 0 ≤ gI ys (j : Int) ∧ gI ys (j : Int) ≤ gI xs (j : Int) := fun j hj => by
      have := h (j + 1) (by simp; omega)
      rwa [gI_cons, gI_cons] at this
    have hl' : ys.length = xs.length := by simpa using hl
    have hle := sumN_le hl' fun j hj => (hr j hj).2
    by_cases hb : b = a
    · have := sumN_lt hl' hr fun e => hne (by rw [hb, e])
      unfold sumN at this ⊢
      rw [List.map_cons, List.map_cons, List.sum_cons, List.sum_cons]
      omega
    · unfold sumN at hle ⊢
      rw [List.map_cons, List.map_cons, List.sum_cons, List.sum_cons]
      omega
theorem Mk.and {n : Nat} (hn : n ≤ 62) {a b : Int} (ha : Mk n a) (hb : Mk n b) : Mk n (andI a b) ∧ (∀ j, tb (andI a b) j = (tb a j && tb b j)) ∧ andI a b ≤ b := by
  have h1 := ha.sm hn
  have h2 := hb.sm hn
  obtain ⟨h3, h4, h5⟩ := andI_testBit ha.1 (by omega) hb.1 (by omega)
  refine ⟨Mk.ofBits h3 fun j hj => ?_, h5, (andI_le ha.1 (by omega) hb.1 (by omega)).2.2⟩
  have e : tb (andI a b) j = (tb a j && tb b j) := h5 j
  rw [e, Bool.and_eq_true] at hj
  exact tb_lt ha hj.1
theorem Mk.andz {n : Nat} (hn : n ≤ 62) {a b : Int} (ha : Mk n a) (hb : Mk n b) : andI a b = 0 ↔ ∀ j, tb a j = true → tb b j = false := by
  obtain ⟨h1, h2, _⟩ := Mk.and hn ha hb
  constructor
  · intro h j hj
    have := h2 j
    rw [h, tb_zero, hj, Bool.true_and] at this
    exact this.symm
  · intro h
    apply tb_ext h1.1 (by omega)
    intro j
    rw [tb_zero, h2 j]
    cases e : tb a j
    · rfl
    · rw [h j e]; rfl

def F_GreatestSimulation_k1 (xp : Int) (yp : Int) (cap00 : Int) (cap01 : List Int) (cap02 : List Int) (cap10 : Int) (cap11 : List Int) (cap12 : List Int) : Bool :=
  F_within (F_Model_truths cap00 cap01 cap02 xp) (F_Model_truths cap10 cap11 cap12 yp)
theorem cf_GreatestSimulation_k1 (args : Array Value) (w : World) : (callFunc 107 args).run Try.prog w = .ok (.enter 107 args) w := by kernel_rfl
set_option maxRecDepth 100000 in
theorem c_GreatestSimulation_k1 (xp : Int) (yp : Int) (cap0B : Nat) (cap00 : Int) (cap01A : Option Addr) (cap01N cap01C : Nat) (cap01 : List Int) (cap02A : Option Addr) (cap02N cap02C : Nat) (cap02 : List Int) (cap1B : Nat) (cap10 : Int) (cap11A : Option Addr) (cap11N cap11C : Nat) (cap11 : List Int) (cap12A : Option Addr) (cap12N cap12C : Nat) (cap12 : List Int) (w : World) (cap01R : RdS w 1 cap01A cap01N cap01C cap01) (cap02R : RdS w 1 cap02A cap02N cap02C cap02) (cap0H : w.heap[cap0B]? = some (.cells #[.int .i64 cap00, .slice cap01A cap01N cap01C, .slice cap02A cap02N cap02C] 38 (0, 0))) (cap11R : RdS w 1 cap11A cap11N cap11C cap11) (cap12R : RdS w 1 cap12A cap12N cap12C cap12) (cap1H : w.heap[cap1B]? = some (.cells #[.int .i64 cap10, .slice cap11A cap11N cap11C, .slice cap12A cap12N cap12C] 38 (0, 0))) (h6m : (cap02.length : Int) = 6) (h6n : (cap12.length : Int) = 6) (hx : 0 ≤ xp) (hy : 0 ≤ yp) :
    Calls Try.prog 107 #[.int .i64 xp, .int .i64 yp, .pointer (some ⟨cap0B, 0, none⟩), .pointer (some ⟨cap1B, 0, none⟩)] w (Ret fun v w' => v = .bool (F_GreatestSimulation_k1 xp yp cap00 cap01 cap02 cap10 cap11 cap12) ∧ Ext w w') := by
  obtain rfl : cap01N = cap01.length := cap01R.len1.symm
  have cap01Le := cap01R.le
  obtain rfl : cap02N = cap02.length := cap02R.len1.symm
  have cap02Le := cap02R.le
  obtain rfl : cap11N = cap11.length := cap11R.len1.symm
  have cap11Le := cap11R.le
  obtain rfl : cap12N = cap12.length := cap12R.len1.symm
  have cap12Le := cap12R.le
  have hS := St.nil w
  have hS1 := St.rd0 hS rfl cap01R; clear hS
  have hS2 := St.rd0 hS1 rfl cap02R; clear hS1
  have hS3 := St.rb0 hS2 rfl cap0H; clear hS2
  have hS4 := St.rd0 hS3 rfl cap11R; clear hS3
  have hS5 := St.rd0 hS4 rfl cap12R; clear hS4
  have hS6 := St.rb0 hS5 rfl cap1H; clear hS5
  refine enter (args := [.int .i64 xp, .int .i64 yp, .pointer (some ⟨cap0B, 0, none⟩), .pointer (some ⟨cap1B, 0, none⟩)]) Try.func107 rfl rfl ?_
  rw [Try.ntmps107]; intro a hE
  have hE := hE.sub (L' := [(0, .int .i64 xp), (1, .int .i64 yp), (2, .pointer (some ⟨cap0B, 0, none⟩)), (3, .pointer (some ⟨cap1B, 0, none⟩))]) ⟨rfl, rfl, rfl, rfl, trivial⟩
  refine c_seq ?_
  refine c_reg ?_
  refine q_step (v := .bool false) hE (y_assign rfl) rfl rfl rfl ?_; intro a7 hE8; clear hE
  refine c_nil ?_
  have hE9 := hE8.sub (L' := [(0, .int .i64 xp), (1, .int .i64 yp), (2, .pointer (some ⟨cap0B, 0, none⟩)), (3, .pointer (some ⟨cap1B, 0, none⟩))]) ⟨rfl, rfl, rfl, rfl, trivial⟩; clear hE8
  refine p_tn ?_
  refine c_seq ?_
  refine d_start (fun w' => w'.heap[cap0B]? = some (.cells #[.int .i64 cap00, .slice cap01A cap01.length cap01C, .slice cap02A cap02.length cap02C] 38 (0, 0)) ∧ w'.heap[cap1B]? = some (.cells #[.int .i64 cap10, .slice cap11A cap11.length cap11C, .slice cap12A cap12.length cap12C] 38 (0, 0)) ∧ True) [0, 3] 8 (by kernel_rfl) rfl ?_
  intro w10 he11; have hS12 := St.go hS6 he11; clear hS6
  refine d_take (v := .agg #[.int .i64 cap00, .slice cap01A cap01.length cap01C, .slice cap02A cap02.length cap02C]) 0 rfl hE9 ⟨(St.rowR (i := 3) hS12 rfl _ (Ext.refl _)), (St.rowR (i := 0) hS12 rfl _ (Ext.refl _)), trivial⟩ (y_loadS Try.underlying38 rfl (by kernel_rfl) rfl (fun _ h => h.1)) rfl rfl (by kernel_rfl) (by kernel_rfl) (by kernel_rfl) rfl rfl (fun _ _ _ h => h) ?_; intro a13 hE14; clear hE9
  refine d_pure (v := .int .i64 xp) 1 rfl hE14 (y_move rfl) rfl (by kernel_rfl) (by kernel_rfl) (by kernel_rfl) rfl rfl (fun _ _ _ h => h) ?_; intro a15 hE16; clear hE14
  refine d_take (v := .agg #[.int .i64 cap10, .slice cap11A cap11.length cap11C, .slice cap12A cap12.length cap12C]) 3 rfl hE16 ⟨(St.rowR (i := 3) hS12 rfl _ (Ext.refl _)), (St.rowR (i := 0) hS12 rfl _ (Ext.refl _)), trivial⟩ (y_loadS Try.underlying38 rfl (by kernel_rfl) rfl (fun _ h => h.2.1)) rfl rfl (by kernel_rfl) (by kernel_rfl) (by kernel_rfl) rfl rfl (fun _ _ _ h => h) ?_; intro a17 hE18; clear hE16
  refine d_pure (v := .int .i64 yp) 4 rfl hE18 (y_move rfl) rfl (by kernel_rfl) (by kernel_rfl) (by kernel_rfl) rfl rfl (fun _ _ _ h => h) ?_; intro a19 hE20; clear hE18
  refine d_only 2 (by kernel_rfl) rfl hE20 rfl (l_call (f := 109) (argv := [.agg #[.int .i64 cap00, .slice cap01A cap01.length cap01C, .slice cap02A cap02.length cap02C], .int .i64 xp]) hE20 (fun _ => cf_Model_truths _ _) rfl rfl (c_Model_truths cap00 cap01A cap01.length cap01C cap01 cap02A cap02.length cap02C cap02 xp w10 (St.rdR (i := 5) hS12 rfl) (St.rdR (i := 4) hS12 rfl) (by omega) (by omega)) ?_)
  rintro _ w22 ⟨rfl, he26⟩ a23 hE24; clear hE20
  have hS25 := St.go hS12 he26; clear hS12
  refine ⟨fun _ _ => ⟨(St.rowR (i := 3) hS25 rfl _ (Ext.refl _)), (St.rowR (i := 0) hS25 rfl _ (Ext.refl _)), trivial⟩, ?_⟩
  refine d_only 5 (by kernel_rfl) rfl hE24 rfl (l_call (f := 109) (argv := [.agg #[.int .i64 cap10, .slice cap11A cap11.length cap11C, .slice cap12A cap12.length cap12C], .int .i64 yp]) hE24 (fun _ => cf_Model_truths _ _) rfl rfl (c_Model_truths cap10 cap11A cap11.length cap11C cap11 cap12A cap12.length cap12C cap12 yp w22 (St.rdR (i := 2) hS25 rfl) (St.rdR (i := 1) hS25 rfl) (by omega) (by omega)) ?_)
  rintro _ w28 ⟨rfl, he32⟩ a29 hE30; clear hE24
  have hS31 := St.go hS25 he32; clear hS25
  refine ⟨fun _ _ => ⟨(St.rowR (i := 3) hS31 rfl _ (Ext.refl _)), (St.rowR (i := 0) hS31 rfl _ (Ext.refl _)), trivial⟩, ?_⟩
  refine d_only 6 (by kernel_rfl) rfl hE30 rfl (l_call (f := 108) (argv := [.int .i64 (F_Model_truths cap00 cap01 cap02 xp), .int .i64 (F_Model_truths cap10 cap11 cap12 yp)]) hE30 (fun _ => cf_within _ _) rfl rfl (c_within (F_Model_truths cap00 cap01 cap02 xp) (F_Model_truths cap10 cap11 cap12 yp) w28) ?_)
  rintro _ _ ⟨rfl, rfl⟩ a35 hE36; clear hE30
  refine ⟨fun _ _ => ⟨(St.rowR (i := 3) hS31 rfl _ (Ext.refl _)), (St.rowR (i := 0) hS31 rfl _ (Ext.refl _)), trivial⟩, ?_⟩
  refine d_pure (v := .bool (F_within (F_Model_truths cap00 cap01 cap02 xp) (F_Model_truths cap10 cap11 cap12 yp))) 7 rfl hE36 (y_assign rfl) rfl (by kernel_rfl) (by kernel_rfl) (by kernel_rfl) rfl rfl (fun _ _ _ h => h) ?_; intro a39 hE40; clear hE36
  refine d_done (by kernel_rfl) ?_
  have hE41 := hE40.sub (L' := [(6, .bool (F_within (F_Model_truths cap00 cap01 cap02 xp) (F_Model_truths cap10 cap11 cap12 yp)))]) ⟨rfl, trivial⟩; clear hE40
  refine p_tn ?_
  refine wp_ret ?_
  have hF : F_GreatestSimulation_k1 xp yp cap00 cap01 cap02 cap10 cap11 cap12 = F_within (F_Model_truths cap00 cap01 cap02 xp) (F_Model_truths cap10 cap11 cap12 yp) := by unfold F_GreatestSimulation_k1; rfl
  refine c_ret1 hE41 rfl rfl ?_
  exact ⟨(by rw [hF]; first | done | rfl), hS31.ext⟩

def F_linkOf_L2b (np0 : Int) (holds : Int → Int → Bool) (t17 : Int) (rec : Int → (List Int) → Int × (List Int)) (t23L2 : Int) (out7L2 : List Int) : Int × (List Int) :=
  bif (decide (t23L2 < np0)) then (rec (t23L2 + 1) (bif (holds t17 t23L2) then sI out7L2 t17 (orI (gI out7L2 t17) (shlI 1 t23L2)) else out7L2)) else (t23L2, out7L2)
def F_linkOf_L2 (np0 : Int) (holds : Int → Int → Bool) (t17 : Int) : Nat → Int → (List Int) → Int × (List Int)
  | 0, t23L2, out7L2 => (t23L2, out7L2)
  | r + 1, t23L2, out7L2 => F_linkOf_L2b np0 holds t17 (F_linkOf_L2 np0 holds t17 r) t23L2 out7L2
def F_linkOf_L1b (mp0 : Int) (np0 : Int) (holds : Int → Int → Bool) (rec : Int → (List Int) → Int × (List Int)) (t17 : Int) (out7 : List Int) : Int × (List Int) :=
  bif (decide (t17 < mp0)) then (rec (t17 + 1) ((F_linkOf_L2 np0 holds t17 (Int.toNat (np0 - 0) + 1) 0 out7).2)) else (t17, out7)
def F_linkOf_L1 (mp0 : Int) (np0 : Int) (holds : Int → Int → Bool) : Nat → Int → (List Int) → Int × (List Int)
  | 0, t17, out7 => (t17, out7)
  | r + 1, t17, out7 => F_linkOf_L1b mp0 np0 holds (F_linkOf_L1 mp0 np0 holds r) t17 out7
def F_linkOf (mp0 : Int) (mp1 : List Int) (mp2 : List Int) (np0 : Int) (np1 : List Int) (np2 : List Int) (holds : Int → Int → Bool) : List Int :=
  (F_linkOf_L1 mp0 np0 holds (Int.toNat (mp0 - 0) + 1) 0 (List.replicate (Int.toNat mp0) 0)).2
theorem cf_linkOf (args : Array Value) (w : World) : (callFunc 106 args).run Try.prog w = .ok (.enter 106 args) w := by kernel_rfl
set_option maxRecDepth 100000 in
theorem c_linkOf (mp0 : Int) (mp1A : Option Addr) (mp1N mp1C : Nat) (mp1 : List Int) (mp2A : Option Addr) (mp2N mp2C : Nat) (mp2 : List Int) (np0 : Int) (np1A : Option Addr) (np1N np1C : Nat) (np1 : List Int) (np2A : Option Addr) (np2N np2C : Nat) (np2 : List Int) (holdsF : FuncId) (holdsC : List Value) (holds : Int → Int → Bool) (holdsD : Int → Int → Prop) (w : World) (mp1R : RdS w 1 mp1A mp1N mp1C mp1) (mp2R : RdS w 1 mp2A mp2N mp2C mp2) (np1R : RdS w 1 np1A np1N np1C np1) (np2R : RdS w 1 np2A np2N np2C np2) (holdsE : ∀ args w, (callFunc holdsF args).run Try.prog w = .ok (.enter holdsF args) w) (holdsH : ∀ (x0 x1 : Int) (w' : World), holdsD x0 x1 → Ext w w' → Calls Try.prog holdsF (([.int .i64 x0, .int .i64 x1] ++ holdsC : List Value).toArray) w' (Ret fun v w'' => v = .bool (holds x0 x1) ∧ Ext w' w'')) (hm : 0 ≤ mp0 ∧ mp0 ≤ 8) (hn : 0 ≤ np0 ∧ np0 ≤ 8) (holdsDom : ∀ x y : Int, 0 ≤ x → x < mp0 → 0 ≤ y → y < np0 → holdsD x y) :
    Calls Try.prog 106 #[.agg #[.int .i64 mp0, .slice mp1A mp1N mp1C, .slice mp2A mp2N mp2C], .agg #[.int .i64 np0, .slice np1A np1N np1C, .slice np2A np2N np2C], .func (.func holdsF) #[] holdsC.toArray] w (Ret fun v w' => ∃ b1 : Option Addr, ∃ c1 : Nat, v = .slice b1 (F_linkOf mp0 mp1 mp2 np0 np1 np2 holds).length c1 ∧ OwnS w' w.heap.size 2 1 b1 (F_linkOf mp0 mp1 mp2 np0 np1 np2 holds).length c1 (F_linkOf mp0 mp1 mp2 np0 np1 np2 holds) ∧ Ext w w') := by
  obtain rfl : mp1N = mp1.length := mp1R.len1.symm
  have mp1Le := mp1R.le
  obtain rfl : mp2N = mp2.length := mp2R.len1.symm
  have mp2Le := mp2R.le
  obtain rfl : np1N = np1.length := np1R.len1.symm
  have np1Le := np1R.le
  obtain rfl : np2N = np2.length := np2R.len1.symm
  have np2Le := np2R.le
  have hS := St.nil w
  have hS1 := St.rd0 hS rfl mp1R; clear hS
  have hS2 := St.rd0 hS1 rfl mp2R; clear hS1
  have hS3 := St.rd0 hS2 rfl np1R; clear hS2
  have hS4 := St.rd0 hS3 rfl np2R; clear hS3
  refine enter (args := [.agg #[.int .i64 mp0, .slice mp1A mp1.length mp1C, .slice mp2A mp2.length mp2C], .agg #[.int .i64 np0, .slice np1A np1.length np1C, .slice np2A np2.length np2C], .func (.func holdsF) #[] holdsC.toArray]) Try.func106 rfl rfl ?_
  rw [Try.ntmps106]; intro a hE
  have hE := hE.sub (L' := [(0, .agg #[.int .i64 mp0, .slice mp1A mp1.length mp1C, .slice mp2A mp2.length mp2C]), (1, .agg #[.int .i64 np0, .slice np1A np1.length np1C, .slice np2A np2.length np2C]), (2, .func (.func holdsF) #[] holdsC.toArray)]) ⟨rfl, rfl, rfl, trivial⟩
  refine c_seq ?_
  refine c_reg ?_
  refine l_step hE rfl (l_box (v := .agg #[.int .i64 mp0, .slice mp1A mp1.length mp1C, .slice mp2A mp2.length mp2C]) (cs := #[.int .i64 mp0, .slice mp1A mp1.length mp1C, .slice mp2A mp2.length mp2C]) hS4 hE rfl rfl rfl ?_)
  intro b5 w6 hS9 he10 a7 hE8; clear hS4 hE
  refine l_step hE8 rfl (l_box (v := .agg #[.int .i64 np0, .slice np1A np1.length np1C, .slice np2A np2.length np2C]) (cs := #[.int .i64 np0, .slice np1A np1.length np1C, .slice np2A np2.length np2C]) hS9 hE8 rfl rfl rfl ?_)
  intro b11 w12 hS15 he16 a13 hE14; clear hS9 hE8
  refine q_step (v := .slice none 0 0) hE14 (y_assign rfl) rfl rfl rfl ?_; intro a17 hE18; clear hE14
  refine c_nil ?_
  have hE19 := hE18.sub (L' := [(2, .func (.func holdsF) #[] holdsC.toArray), (3, .pointer (some ⟨b5, 0, none⟩)), (4, .pointer (some ⟨b11, 0, none⟩))]) ⟨rfl, rfl, rfl, trivial⟩; clear hE18
  refine p_tn ?_
  refine c_seq ?_
  refine c_reg ?_
  refine q_step (v := .pointer (some ⟨b5, 0, none⟩)) hE19 (y_field rfl (fun _ => by kernel_rfl)) rfl rfl rfl ?_; intro a20 hE21; clear hE19
  refine q_step (v := .pointer (some ⟨b5, 0, none⟩)) hE21 (y_field rfl (fun _ => by kernel_rfl)) rfl rfl rfl ?_; intro a22 hE23; clear hE21
  refine q_step (v := .int .i64 mp0) hE23 (y_load (fun _ => by kernel_rfl) rfl (St.cell (i := 1) hS15 rfl rfl)) rfl rfl rfl ?_; intro a24 hE25; clear hE23
  refine l_step hE25 rfl (l_make (e := 2) (m := mp0) hS15 hE25 (by kernel_rfl) (by kernel_rfl) rfl rfl (by omega) (by omega) rfl ?_)
  intro b26 w27 hS30 he31 a28 hE29; clear hS15 hE25
  refine q_step (v := .slice b26 (Int.toNat mp0) (Int.toNat mp0)) hE29 (y_assign rfl) rfl rfl rfl ?_; intro a32 hE33; clear hE29
  refine c_nil ?_
  have hE34 := hE33.sub (L' := [(2, .func (.func holdsF) #[] holdsC.toArray), (3, .pointer (some ⟨b5, 0, none⟩)), (4, .pointer (some ⟨b11, 0, none⟩)), (7, .slice b26 (Int.toNat mp0) (Int.toNat mp0))]) ⟨rfl, rfl, rfl, rfl, trivial⟩; clear hE33
  refine p_tn ?_
  refine c_seq ?_
  refine c_seq ?_
  refine c_reg ?_
  refine q_step (v := .pointer (some ⟨b5, 0, none⟩)) hE34 (y_field rfl (fun _ => by kernel_rfl)) rfl rfl rfl ?_; intro a35 hE36; clear hE34
  refine q_step (v := .pointer (some ⟨b5, 0, none⟩)) hE36 (y_field rfl (fun _ => by kernel_rfl)) rfl rfl rfl ?_; intro a37 hE38; clear hE36
  refine q_step (v := .int .i64 mp0) hE38 (y_load (fun _ => by kernel_rfl) rfl (St.cell (i := 2) hS30 rfl rfl)) rfl rfl rfl ?_; intro a39 hE40; clear hE38
  refine q_step (v := .int .i64 0) hE40 (y_move rfl) rfl rfl rfl ?_; intro a41 hE42; clear hE40
  refine c_nil ?_
  have hE43 := hE42.sub (L' := [(2, .func (.func holdsF) #[] holdsC.toArray), (4, .pointer (some ⟨b11, 0, none⟩)), (7, .slice b26 (Int.toNat mp0) (Int.toNat mp0)), (16, .int .i64 mp0), (17, .int .i64 0)]) ⟨rfl, rfl, rfl, rfl, rfl, trivial⟩; clear hE42
  refine p_tn ?_
  refine c_cut1 (fun a' w' => (0 ≤ ((F_linkOf_L1 mp0 np0 holds (Int.toNat (mp0 - 0) + 1) 0 (List.replicate (Int.toNat mp0) 0)).1)) ∧ ((((F_linkOf_L1 mp0 np0 holds (Int.toNat (mp0 - 0) + 1) 0 (List.replicate (Int.toNat mp0) 0)).2).length : Int) = mp0) ∧ E a' 41 [(2, .func (.func holdsF) #[] holdsC.toArray), (4, .pointer (some ⟨b11, 0, none⟩)), (7, .slice b26 (Int.toNat mp0) (Int.toNat mp0)), (16, .int .i64 mp0), (17, .int .i64 ((F_linkOf_L1 mp0 np0 holds (Int.toNat (mp0 - 0) + 1) 0 (List.replicate (Int.toNat mp0) 0)).1))] ∧ St w w' [.own 2 1 b26 (Int.toNat mp0) (Int.toNat mp0) ((F_linkOf_L1 mp0 np0 holds (Int.toNat (mp0 - 0) + 1) 0 (List.replicate (Int.toNat mp0) 0)).2), .blk b11 #[.int .i64 np0, .slice np1A np1.length np1C, .slice np2A np2.length np2C] 38, .blk b5 #[.int .i64 mp0, .slice mp1A mp1.length mp1C, .slice mp2A mp2.length mp2C] 38, .rd 1 np2A np2.length np2C np2, .rd 1 np1A np1.length np1C np1, .rd 1 mp2A mp2.length mp2C mp2, .rd 1 mp1A mp1.length mp1C mp1]) ?_ ?_
  ·
    refine wp_block ?_
    refine c_loop (fun r a' w' => ∃ t17 : Int, ∃ out7 : List Int, F_linkOf_L1 mp0 np0 holds r t17 out7 = F_linkOf_L1 mp0 np0 holds (Int.toNat (mp0 - 0) + 1) 0 (List.replicate (Int.toNat mp0) 0) ∧ Int.toNat (mp0 - t17) < r ∧ (0 ≤ t17) ∧ ((out7.length : Int) = mp0) ∧ E a' 41 [(2, .func (.func holdsF) #[] holdsC.toArray), (4, .pointer (some ⟨b11, 0, none⟩)), (7, .slice b26 (Int.toNat mp0) (Int.toNat mp0)), (16, .int .i64 mp0), (17, .int .i64 t17)] ∧ St w w' [.own 2 1 b26 (Int.toNat mp0) (Int.toNat mp0) out7, .blk b11 #[.int .i64 np0, .slice np1A np1.length np1C, .slice np2A np2.length np2C] 38, .blk b5 #[.int .i64 mp0, .slice mp1A mp1.length mp1C, .slice mp2A mp2.length mp2C] 38, .rd 1 np2A np2.length np2C np2, .rd 1 np1A np1.length np1C np1, .rd 1 mp2A mp2.length mp2C mp2, .rd 1 mp1A mp1.length mp1C mp1]) (r := (Int.toNat (mp0 - 0) + 1)) ?_ ?_
    · exact ⟨0, List.replicate (Int.toNat mp0) 0, rfl, Nat.lt_succ_self _, (by first | omega | (simp only [List.length_replicate, sI_len]; omega) | (simp only [List.length_append, List.length_cons, List.length_nil, sI_len, cond_true, cond_false]; omega) | (simp only [List.length_append, List.length_cons, List.length_nil, sI_len, cond_eq_ite, apply_ite List.length]; split <;> simp only [List.length_append, List.length_cons, List.length_nil, sI_len] <;> omega) | grind), (by first | omega | (simp only [List.length_replicate, sI_len]; omega) | (simp only [List.length_append, List.length_cons, List.length_nil, sI_len, cond_true, cond_false]; omega) | (simp only [List.length_append, List.length_cons, List.length_nil, sI_len, cond_eq_ite, apply_ite List.length]; split <;> simp only [List.length_append, List.length_cons, List.length_nil, sI_len] <;> omega) | grind), (hE43.sub (L' := [(2, .func (.func holdsF) #[] holdsC.toArray), (4, .pointer (some ⟨b11, 0, none⟩)), (7, .slice b26 (Int.toNat mp0) (Int.toNat mp0)), (16, .int .i64 mp0), (17, .int .i64 0)]) ⟨rfl, rfl, rfl, rfl, rfl, trivial⟩), (St.pick (Γ' := [.own 2 1 b26 (Int.toNat mp0) (Int.toNat mp0) (List.replicate (Int.toNat mp0) 0), .blk b11 #[.int .i64 np0, .slice np1A np1.length np1C, .slice np2A np2.length np2C] 38, .blk b5 #[.int .i64 mp0, .slice mp1A mp1.length mp1C, .slice mp2A mp2.length mp2C] 38, .rd 1 np2A np2.length np2C np2, .rd 1 np1A np1.length np1C np1, .rd 1 mp2A mp2.length mp2C mp2, .rd 1 mp1A mp1.length mp1C mp1]) hS30 [0, 1, 2, 3, 4, 5, 6] (by decide) rfl)⟩
    ·
      clear hE43 hS30
      rintro r53 a45 w46 ⟨t17, out7, hT49, hr50, hi51, hi52, hE47, hS48⟩
      obtain ⟨r53, rfl⟩ : ∃ r', r53 = r' + 1 := ⟨r53 - 1, by omega⟩
      refine c_seq ?_
      refine c_reg ?_
      refine q_step (v := .bool (decide (t17 < mp0))) hE47 (y_lss rfl rfl) rfl rfl rfl ?_; intro a54 hE55; clear hE47
      refine c_nil ?_
      have hE56 := hE55.sub (L' := [(2, .func (.func holdsF) #[] holdsC.toArray), (4, .pointer (some ⟨b11, 0, none⟩)), (7, .slice b26 (Int.toNat mp0) (Int.toNat mp0)), (16, .int .i64 mp0), (17, .int .i64 t17), (18, .bool (decide (t17 < mp0)))]) ⟨rfl, rfl, rfl, rfl, rfl, rfl, trivial⟩; clear hE55
      refine p_tn ?_
      refine c_seq ?_
      refine c_cond hE56 rfl (fun ht57 => ?_) (fun ht57 => ?_)
      ·
        have hp58 := of_decide_eq_true ht57
        have hE59 := hE56; rw [ht57] at hE59; clear hE56
        refine wp_skip ?_
        refine p_tn ?_
        refine c_seq ?_
        refine wp_block ?_
        refine c_seq ?_
        refine c_reg ?_
        refine q_step (v := .int .i64 t17) hE59 (y_move rfl) rfl rfl rfl ?_; intro a60 hE61; clear hE59
        refine q_step (v := .int .i64 t17) hE61 (y_assign rfl) rfl rfl rfl ?_; intro a62 hE63; clear hE61
        refine c_nil ?_
        have hE64 := hE63.sub (L' := [(2, .func (.func holdsF) #[] holdsC.toArray), (4, .pointer (some ⟨b11, 0, none⟩)), (7, .slice b26 (Int.toNat mp0) (Int.toNat mp0)), (8, .int .i64 t17), (16, .int .i64 mp0), (17, .int .i64 t17)]) ⟨rfl, rfl, rfl, rfl, rfl, rfl, trivial⟩; clear hE63
        refine p_tn ?_
        refine c_seq ?_
        refine c_reg ?_
        refine q_step (v := .pointer (some ⟨b11, 0, none⟩)) hE64 (y_field rfl (fun _ => by kernel_rfl)) rfl rfl rfl ?_; intro a65 hE66; clear hE64
        refine q_step (v := .pointer (some ⟨b11, 0, none⟩)) hE66 (y_field rfl (fun _ => by kernel_rfl)) rfl rfl rfl ?_; intro a67 hE68; clear hE66
        refine q_step (v := .int .i64 np0) hE68 (y_load (fun _ => by kernel_rfl) rfl (St.cell (i := 1) hS48 rfl rfl)) rfl rfl rfl ?_; intro a69 hE70; clear hE68
        refine q_step (v := .int .i64 0) hE70 (y_move rfl) rfl rfl rfl ?_; intro a71 hE72; clear hE70
        refine c_nil ?_
        have hE73 := hE72.sub (L' := [(2, .func (.func holdsF) #[] holdsC.toArray), (4, .pointer (some ⟨b11, 0, none⟩)), (7, .slice b26 (Int.toNat mp0) (Int.toNat mp0)), (8, .int .i64 t17), (16, .int .i64 mp0), (17, .int .i64 t17), (22, .int .i64 np0), (23, .int .i64 0)]) ⟨rfl, rfl, rfl, rfl, rfl, rfl, rfl, rfl, trivial⟩; clear hE72
        refine p_tn ?_
        refine c_cut1 (fun a' w' => (0 ≤ ((F_linkOf_L2 np0 holds t17 (Int.toNat (np0 - 0) + 1) 0 out7).1)) ∧ ((((F_linkOf_L2 np0 holds t17 (Int.toNat (np0 - 0) + 1) 0 out7).2).length : Int) = mp0) ∧ E a' 41 [(2, .func (.func holdsF) #[] holdsC.toArray), (4, .pointer (some ⟨b11, 0, none⟩)), (7, .slice b26 (Int.toNat mp0) (Int.toNat mp0)), (8, .int .i64 t17), (16, .int .i64 mp0), (17, .int .i64 t17), (22, .int .i64 np0), (23, .int .i64 ((F_linkOf_L2 np0 holds t17 (Int.toNat (np0 - 0) + 1) 0 out7).1))] ∧ St w w' [.own 2 1 b26 (Int.toNat mp0) (Int.toNat mp0) ((F_linkOf_L2 np0 holds t17 (Int.toNat (np0 - 0) + 1) 0 out7).2), .blk b11 #[.int .i64 np0, .slice np1A np1.length np1C, .slice np2A np2.length np2C] 38, .blk b5 #[.int .i64 mp0, .slice mp1A mp1.length mp1C, .slice mp2A mp2.length mp2C] 38, .rd 1 np2A np2.length np2C np2, .rd 1 np1A np1.length np1C np1, .rd 1 mp2A mp2.length mp2C mp2, .rd 1 mp1A mp1.length mp1C mp1]) ?_ ?_
        ·
          refine wp_block ?_
          refine c_loop (fun r a' w' => ∃ t23L2 : Int, ∃ out7L2 : List Int, F_linkOf_L2 np0 holds t17 r t23L2 out7L2 = F_linkOf_L2 np0 holds t17 (Int.toNat (np0 - 0) + 1) 0 out7 ∧ Int.toNat (np0 - t23L2) < r ∧ (0 ≤ t23L2) ∧ ((out7L2.length : Int) = mp0) ∧ E a' 41 [(2, .func (.func holdsF) #[] holdsC.toArray), (4, .pointer (some ⟨b11, 0, none⟩)), (7, .slice b26 (Int.toNat mp0) (Int.toNat mp0)), (8, .int .i64 t17), (16, .int .i64 mp0), (17, .int .i64 t17), (22, .int .i64 np0), (23, .int .i64 t23L2)] ∧ St w w' [.own 2 1 b26 (Int.toNat mp0) (Int.toNat mp0) out7L2, .blk b11 #[.int .i64 np0, .slice np1A np1.length np1C, .slice np2A np2.length np2C] 38, .blk b5 #[.int .i64 mp0, .slice mp1A mp1.length mp1C, .slice mp2A mp2.length mp2C] 38, .rd 1 np2A np2.length np2C np2, .rd 1 np1A np1.length np1C np1, .rd 1 mp2A mp2.length mp2C mp2, .rd 1 mp1A mp1.length mp1C mp1]) (r := (Int.toNat (np0 - 0) + 1)) ?_ ?_
          · exact ⟨0, out7, rfl, Nat.lt_succ_self _, (by first | omega | (simp only [List.length_replicate, sI_len]; omega) | (simp only [List.length_append, List.length_cons, List.length_nil, sI_len, cond_true, cond_false]; omega) | (simp only [List.length_append, List.length_cons, List.length_nil, sI_len, cond_eq_ite, apply_ite List.length]; split <;> simp only [List.length_append, List.length_cons, List.length_nil, sI_len] <;> omega) | grind), (by first | omega | (simp only [List.length_replicate, sI_len]; omega) | (simp only [List.length_append, List.length_cons, List.length_nil, sI_len, cond_true, cond_false]; omega) | (simp only [List.length_append, List.length_cons, List.length_nil, sI_len, cond_eq_ite, apply_ite List.length]; split <;> simp only [List.length_append, List.length_cons, List.length_nil, sI_len] <;> omega) | grind), (hE73.sub (L' := [(2, .func (.func holdsF) #[] holdsC.toArray), (4, .pointer (some ⟨b11, 0, none⟩)), (7, .slice b26 (Int.toNat mp0) (Int.toNat mp0)), (8, .int .i64 t17), (16, .int .i64 mp0), (17, .int .i64 t17), (22, .int .i64 np0), (23, .int .i64 0)]) ⟨rfl, rfl, rfl, rfl, rfl, rfl, rfl, rfl, trivial⟩), (St.pick (Γ' := [.own 2 1 b26 (Int.toNat mp0) (Int.toNat mp0) out7, .blk b11 #[.int .i64 np0, .slice np1A np1.length np1C, .slice np2A np2.length np2C] 38, .blk b5 #[.int .i64 mp0, .slice mp1A mp1.length mp1C, .slice mp2A mp2.length mp2C] 38, .rd 1 np2A np2.length np2C np2, .rd 1 np1A np1.length np1C np1, .rd 1 mp2A mp2.length mp2C mp2, .rd 1 mp1A mp1.length mp1C mp1]) hS48 [0, 1, 2, 3, 4, 5, 6] (by decide) rfl)⟩
          ·
            clear hE73 hS48
            rintro r83 a75 w76 ⟨t23L2, out7L2, hT79, hr80, hi81, hi82, hE77, hS78⟩
            obtain ⟨r83, rfl⟩ : ∃ r', r83 = r' + 1 := ⟨r83 - 1, by omega⟩
            refine c_seq ?_
            refine c_reg ?_
            refine q_step (v := .bool (decide (t23L2 < np0))) hE77 (y_lss rfl rfl) rfl rfl rfl ?_; intro a84 hE85; clear hE77
            refine c_nil ?_
            have hE86 := hE85.sub (L' := [(2, .func (.func holdsF) #[] holdsC.toArray), (4, .pointer (some ⟨b11, 0, none⟩)), (7, .slice b26 (Int.toNat mp0) (Int.toNat mp0)), (8, .int .i64 t17), (16, .int .i64 mp0), (17, .int .i64 t17), (22, .int .i64 np0), (23, .int .i64 t23L2), (24, .bool (decide (t23L2 < np0)))]) ⟨rfl, rfl, rfl, rfl, rfl, rfl, rfl, rfl, rfl, trivial⟩; clear hE85
            refine p_tn ?_
            refine c_seq ?_
            refine c_cond hE86 rfl (fun ht87 => ?_) (fun ht87 => ?_)
            ·
              have hp88 := of_decide_eq_true ht87
              have hE89 := hE86; rw [ht87] at hE89; clear hE86
              refine wp_skip ?_
              refine p_tn ?_
              refine c_cut (fun a' w' => E a' 41 [(2, .func (.func holdsF) #[] holdsC.toArray), (4, .pointer (some ⟨b11, 0, none⟩)), (7, .slice b26 (Int.toNat mp0) (Int.toNat mp0)), (8, .int .i64 t17), (16, .int .i64 mp0), (17, .int .i64 t17), (22, .int .i64 np0), (23, .int .i64 t23L2)] ∧ St w w' [.own 2 1 b26 (Int.toNat mp0) (Int.toNat mp0) (bif (holds t17 t23L2) then sI out7L2 t17 (orI (gI out7L2 t17) (shlI 1 t23L2)) else out7L2), .rd 1 np1A np1.length np1C np1, .rd 1 np2A np2.length np2C np2, .blk b11 #[.int .i64 np0, .slice np1A np1.length np1C, .slice np2A np2.length np2C] 38, .rd 1 mp1A mp1.length mp1C mp1, .rd 1 mp2A mp2.length mp2C mp2, .blk b5 #[.int .i64 mp0, .slice mp1A mp1.length mp1C, .slice mp2A mp2.length mp2C] 38]) ?_ ?_
              ·
                refine wp_block ?_
                refine c_seq ?_
                refine c_reg ?_
                refine q_step (v := .int .i64 t23L2) hE89 (y_move rfl) rfl rfl rfl ?_; intro a90 hE91; clear hE89
                refine q_step (v := .int .i64 t23L2) hE91 (y_assign rfl) rfl rfl rfl ?_; intro a92 hE93; clear hE91
                refine c_nil ?_
                have hE94 := hE93.sub (L' := [(2, .func (.func holdsF) #[] holdsC.toArray), (4, .pointer (some ⟨b11, 0, none⟩)), (7, .slice b26 (Int.toNat mp0) (Int.toNat mp0)), (8, .int .i64 t17), (9, .int .i64 t23L2), (16, .int .i64 mp0), (17, .int .i64 t17), (22, .int .i64 np0), (23, .int .i64 t23L2)]) ⟨rfl, rfl, rfl, rfl, rfl, rfl, rfl, rfl, rfl, trivial⟩; clear hE93
                refine p_tn ?_
                refine c_seq ?_
                refine c_reg ?_
                refine q_step (v := .func (.func holdsF) #[] holdsC.toArray) hE94 (y_move rfl) rfl rfl rfl ?_; intro a95 hE96; clear hE94
                refine q_step (v := .int .i64 t17) hE96 (y_move rfl) rfl rfl rfl ?_; intro a97 hE98; clear hE96
                refine q_step (v := .int .i64 t23L2) hE98 (y_move rfl) rfl rfl rfl ?_; intro a99 hE100; clear hE98
                refine l_step hE100 rfl (l_callv (f := holdsF) (caps := holdsC) (argv := [.int .i64 t17, .int .i64 t23L2]) hE100 rfl (fun _ => holdsE _ _) rfl rfl (holdsH t17 t23L2 w76 (holdsDom t17 t23L2 (by omega) (by omega) (by omega) (by omega)) hS78.ext) ?_)
                rintro _ w102 ⟨rfl, he106⟩ a103 hE104; clear hE100
                have hS105 := St.go hS78 he106; clear hS78
                refine c_nil ?_
                have hE107 := hE104.sub (L' := [(2, .func (.func holdsF) #[] holdsC.toArray), (4, .pointer (some ⟨b11, 0, none⟩)), (7, .slice b26 (Int.toNat mp0) (Int.toNat mp0)), (8, .int .i64 t17), (9, .int .i64 t23L2), (16, .int .i64 mp0), (17, .int .i64 t17), (22, .int .i64 np0), (23, .int .i64 t23L2), (29, .bool (holds t17 t23L2))]) ⟨rfl, rfl, rfl, rfl, rfl, rfl, rfl, rfl, rfl, rfl, trivial⟩; clear hE104
                refine p_tn ?_
                refine c_cond hE107 rfl (fun ht108 => ?_) (fun ht108 => ?_)
                ·
                  have hE109 := hE107; rw [ht108] at hE109; clear hE107
                  refine d_start (fun w' => w'.cell? (adr b26 (Int.toNat t17)) = some (.int .i64 (gI out7L2 t17)) ∧ True) [3] 9 (by kernel_rfl) rfl ?_
                  intro w110 he111; have hS112 := St.go hS105 he111; clear hS105
                  refine d_pure (v := .slice b26 (Int.toNat mp0) (Int.toNat mp0)) 0 rfl hE109 (y_move rfl) rfl (by kernel_rfl) (by kernel_rfl) (by kernel_rfl) rfl rfl (fun _ _ _ h => h) ?_; intro a113 hE114; clear hE109
                  refine d_pure (v := .int .i64 t17) 1 rfl hE114 (y_move rfl) rfl (by kernel_rfl) (by kernel_rfl) (by kernel_rfl) rfl rfl (fun _ _ _ h => h) ?_; intro a115 hE116; clear hE114
                  refine d_pure (v := .pointer (some (adr b26 (Int.toNat t17)))) 2 rfl hE116 (y_idx (by kernel_rfl) (fun _ => by kernel_rfl) rfl rfl (RdS.isS (m := t17) (St.rdO (i := 0) hS112 rfl) (by omega) (by omega)) (by omega) (by omega) (Nat.mul_one _).symm) rfl (by kernel_rfl) (by kernel_rfl) (by kernel_rfl) rfl rfl (fun _ _ _ h => h) ?_; intro a117 hE118; clear hE116
                  refine d_take (v := .int .i64 (gI out7L2 t17)) 3 rfl hE118 ⟨(RdS.elt (St.rdO (i := 0) hS112 rfl) (by omega) (by omega) _ (Ext.refl _)), trivial⟩ (y_load (fun _ => by kernel_rfl) rfl (fun _ h => h.1)) rfl rfl (by kernel_rfl) (by kernel_rfl) (by kernel_rfl) rfl rfl (fun _ _ _ h => h) ?_; intro a119 hE120; clear hE118
                  refine d_pure (v := .int .i64 t23L2) 4 rfl hE120 (y_move rfl) rfl (by kernel_rfl) (by kernel_rfl) (by kernel_rfl) rfl rfl (fun _ _ _ h => h) ?_; intro a121 hE122; clear hE120
                  refine d_pure (v := .int .i64 (shlI 1 t23L2)) 5 rfl hE122 (y_shl rfl rfl (by omega)) rfl (by kernel_rfl) (by kernel_rfl) (by kernel_rfl) rfl rfl (fun _ _ _ h => h) ?_; intro a123 hE124; clear hE122
                  refine d_pure (v := .int .i64 (orI (gI out7L2 t17) (shlI 1 t23L2))) 6 rfl hE124 (y_or rfl rfl) rfl (by kernel_rfl) (by kernel_rfl) (by kernel_rfl) rfl rfl (fun _ _ _ h => h) ?_; intro a125 hE126; clear hE124
                  refine d_pure (v := .pointer (some (adr b26 (Int.toNat t17)))) 7 rfl hE126 (y_idx (by kernel_rfl) (fun _ => by kernel_rfl) rfl rfl (RdS.isS (m := t17) (St.rdO (i := 0) hS112 rfl) (by omega) (by omega)) (by omega) (by omega) (Nat.mul_one _).symm) rfl (by kernel_rfl) (by kernel_rfl) (by kernel_rfl) rfl rfl (fun _ _ _ h => h) ?_; intro a127 hE128; clear hE126
                  refine d_only 8 (by kernel_rfl) rfl hE128 rfl (l_store (k := 0) hS112 hE128 (fun _ => by kernel_rfl) rfl rfl rfl (by omega) (by omega) ?_)
                  intro w130 hS133 a131 hE132; clear hS112 hE128
                  refine ⟨fun h => Bool.noConfusion (h.symm.trans (show exm _ _ _ = true by kernel_rfl)), ?_⟩
                  refine d_done (by kernel_rfl) ?_
                  have hE135 := hE132.sub (L' := [(2, .func (.func holdsF) #[] holdsC.toArray), (4, .pointer (some ⟨b11, 0, none⟩)), (7, .slice b26 (Int.toNat mp0) (Int.toNat mp0)), (8, .int .i64 t17), (16, .int .i64 mp0), (17, .int .i64 t17), (22, .int .i64 np0), (23, .int .i64 t23L2)]) ⟨rfl, rfl, rfl, rfl, rfl, rfl, rfl, rfl, trivial⟩; clear hE132
                  refine p_bn ?_
                  refine p_tn ?_
                  have hE136 := hE135.sub (L' := [(2, .func (.func holdsF) #[] holdsC.toArray), (4, .pointer (some ⟨b11, 0, none⟩)), (7, .slice b26 (Int.toNat mp0) (Int.toNat mp0)), (8, .int .i64 t17), (16, .int .i64 mp0), (17, .int .i64 t17), (22, .int .i64 np0), (23, .int .i64 t23L2)]) ⟨rfl, rfl, rfl, rfl, rfl, rfl, rfl, rfl, trivial⟩
                  have hS137 := (St.pick (Γ' := [.own 2 1 b26 (Int.toNat mp0) (Int.toNat mp0) (sI out7L2 t17 (orI (gI out7L2 t17) (shlI 1 t23L2))), .rd 1 np1A np1.length np1C np1, .rd 1 np2A np2.length np2C np2, .blk b11 #[.int .i64 np0, .slice np1A np1.length np1C, .slice np2A np2.length np2C] 38, .rd 1 mp1A mp1.length mp1C mp1, .rd 1 mp2A mp2.length mp2C mp2, .blk b5 #[.int .i64 mp0, .slice mp1A mp1.length mp1C, .slice mp2A mp2.length mp2C] 38]) hS133 [0, 4, 3, 1, 6, 5, 2] (by decide) rfl)
                  exact ⟨hE136, (by rw [ht108]; exact hS137)⟩
                ·
                  have hE138 := hE107; rw [ht108] at hE138; clear hE107
                  refine wp_skip ?_
                  refine p_bn ?_
                  refine p_tn ?_
                  have hE139 := hE138.sub (L' := [(2, .func (.func holdsF) #[] holdsC.toArray), (4, .pointer (some ⟨b11, 0, none⟩)), (7, .slice b26 (Int.toNat mp0) (Int.toNat mp0)), (8, .int .i64 t17), (16, .int .i64 mp0), (17, .int .i64 t17), (22, .int .i64 np0), (23, .int .i64 t23L2)]) ⟨rfl, rfl, rfl, rfl, rfl, rfl, rfl, rfl, trivial⟩
                  have hS140 := (St.pick (Γ' := [.own 2 1 b26 (Int.toNat mp0) (Int.toNat mp0) out7L2, .rd 1 np1A np1.length np1C np1, .rd 1 np2A np2.length np2C np2, .blk b11 #[.int .i64 np0, .slice np1A np1.length np1C, .slice np2A np2.length np2C] 38, .rd 1 mp1A mp1.length mp1C mp1, .rd 1 mp2A mp2.length mp2C mp2, .blk b5 #[.int .i64 mp0, .slice mp1A mp1.length mp1C, .slice mp2A mp2.length mp2C] 38]) hS105 [0, 4, 3, 1, 6, 5, 2] (by decide) rfl)
                  exact ⟨hE139, (by rw [ht108]; exact hS140)⟩
              ·
                rintro a141 w142 ⟨hE143, hS144⟩; clear hE89 hS78
                refine c_reg ?_
                refine q_step (v := .int .i64 (t23L2 + 1)) hE143 (y_add rfl rfl ⟨(by omega), (by omega)⟩) rfl rfl rfl ?_; intro a145 hE146; clear hE143
                refine q_step (v := .int .i64 (t23L2 + 1)) hE146 (y_move rfl) rfl rfl rfl ?_; intro a147 hE148; clear hE146
                refine c_nil ?_
                have hE149 := hE148.sub (L' := [(2, .func (.func holdsF) #[] holdsC.toArray), (4, .pointer (some ⟨b11, 0, none⟩)), (7, .slice b26 (Int.toNat mp0) (Int.toNat mp0)), (8, .int .i64 t17), (16, .int .i64 mp0), (17, .int .i64 t17), (22, .int .i64 np0), (23, .int .i64 (t23L2 + 1))]) ⟨rfl, rfl, rfl, rfl, rfl, rfl, rfl, rfl, trivial⟩; clear hE148
                have hl150 := (St.rdO (i := 0) hS144 rfl).len1
                refine p_tn ⟨r83, Nat.lt_succ_self _, t23L2 + 1, bif (holds t17 t23L2) then sI out7L2 t17 (orI (gI out7L2 t17) (shlI 1 t23L2)) else out7L2, (hT79.symm.trans (show F_linkOf_L2b np0 holds t17 (F_linkOf_L2 np0 holds t17 r83) t23L2 out7L2 = F_linkOf_L2 np0 holds t17 r83 (t23L2 + 1) (bif (holds t17 t23L2) then sI out7L2 t17 (orI (gI out7L2 t17) (shlI 1 t23L2)) else out7L2) by unfold F_linkOf_L2b; rw [ht87]; first | done | rfl)).symm, (by omega), (by first | omega | (simp only [List.length_replicate, sI_len]; omega) | (simp only [List.length_append, List.length_cons, List.length_nil, sI_len, cond_true, cond_false]; omega) | (simp only [List.length_append, List.length_cons, List.length_nil, sI_len, cond_eq_ite, apply_ite List.length]; split <;> simp only [List.length_append, List.length_cons, List.length_nil, sI_len] <;> omega) | grind), (by first | omega | (simp only [List.length_replicate, sI_len]; omega) | (simp only [List.length_append, List.length_cons, List.length_nil, sI_len, cond_true, cond_false]; omega) | (simp only [List.length_append, List.length_cons, List.length_nil, sI_len, cond_eq_ite, apply_ite List.length]; split <;> simp only [List.length_append, List.length_cons, List.length_nil, sI_len] <;> omega) | grind), (hE149.sub (L' := [(2, .func (.func holdsF) #[] holdsC.toArray), (4, .pointer (some ⟨b11, 0, none⟩)), (7, .slice b26 (Int.toNat mp0) (Int.toNat mp0)), (8, .int .i64 t17), (16, .int .i64 mp0), (17, .int .i64 t17), (22, .int .i64 np0), (23, .int .i64 (t23L2 + 1))]) ⟨rfl, rfl, rfl, rfl, rfl, rfl, rfl, rfl, trivial⟩), (St.pick (Γ' := [.own 2 1 b26 (Int.toNat mp0) (Int.toNat mp0) (bif (holds t17 t23L2) then sI out7L2 t17 (orI (gI out7L2 t17) (shlI 1 t23L2)) else out7L2), .blk b11 #[.int .i64 np0, .slice np1A np1.length np1C, .slice np2A np2.length np2C] 38, .blk b5 #[.int .i64 mp0, .slice mp1A mp1.length mp1C, .slice mp2A mp2.length mp2C] 38, .rd 1 np2A np2.length np2C np2, .rd 1 np1A np1.length np1C np1, .rd 1 mp2A mp2.length mp2C mp2, .rd 1 mp1A mp1.length mp1C mp1]) hS144 [0, 3, 6, 2, 1, 5, 4] (by decide) rfl)⟩
            ·
              have hp151 := of_decide_eq_false ht87
              have hE152 := hE86; rw [ht87] at hE152; clear hE86
              refine wp_exit ?_
              refine p_te ?_
              have hX153 : F_linkOf_L2 np0 holds t17 (Int.toNat (np0 - 0) + 1) 0 out7 = (t23L2, out7L2) := hT79.symm.trans (show F_linkOf_L2b np0 holds t17 (F_linkOf_L2 np0 holds t17 r83) t23L2 out7L2 = (t23L2, out7L2) by unfold F_linkOf_L2b; rw [ht87]; first | done | rfl)
              refine p_te (p_be (p_tn ?_))
              exact ⟨(by rw [hX153]; exact (show 0 ≤ t23L2 from (by first | omega | (simp only [List.length_replicate, sI_len]; omega) | (simp only [List.length_append, List.length_cons, List.length_nil, sI_len, cond_true, cond_false]; omega) | (simp only [List.length_append, List.length_cons, List.length_nil, sI_len, cond_eq_ite, apply_ite List.length]; split <;> simp only [List.length_append, List.length_cons, List.length_nil, sI_len] <;> omega) | grind))), (by rw [hX153]; exact (show (out7L2.length : Int) = mp0 from (by first | omega | (simp only [List.length_replicate, sI_len]; omega) | (simp only [List.length_append, List.length_cons, List.length_nil, sI_len, cond_true, cond_false]; omega) | (simp only [List.length_append, List.length_cons, List.length_nil, sI_len, cond_eq_ite, apply_ite List.length]; split <;> simp only [List.length_append, List.length_cons, List.length_nil, sI_len] <;> omega) | grind))), (by rw [hX153]; exact (hE152.sub (L' := [(2, .func (.func holdsF) #[] holdsC.toArray), (4, .pointer (some ⟨b11, 0, none⟩)), (7, .slice b26 (Int.toNat mp0) (Int.toNat mp0)), (8, .int .i64 t17), (16, .int .i64 mp0), (17, .int .i64 t17), (22, .int .i64 np0), (23, .int .i64 t23L2)]) ⟨rfl, rfl, rfl, rfl, rfl, rfl, rfl, rfl, trivial⟩)), (by rw [hX153]; exact (St.pick (Γ' := [.own 2 1 b26 (Int.toNat mp0) (Int.toNat mp0) out7L2, .blk b11 #[.int .i64 np0, .slice np1A np1.length np1C, .slice np2A np2.length np2C] 38, .blk b5 #[.int .i64 mp0, .slice mp1A mp1.length mp1C, .slice mp2A mp2.length mp2C] 38, .rd 1 np2A np2.length np2C np2, .rd 1 np1A np1.length np1C np1, .rd 1 mp2A mp2.length mp2C mp2, .rd 1 mp1A mp1.length mp1C mp1]) hS78 [0, 1, 2, 3, 4, 5, 6] (by decide) rfl))⟩
        ·
          rintro a154 w155 ⟨hi159, hi160, hE156, hS157⟩; clear hE73 hS48
          refine p_bn ?_
          refine p_tn ?_
          refine c_reg ?_
          refine q_step (v := .int .i64 (t17 + 1)) hE156 (y_add rfl rfl ⟨(by omega), (by omega)⟩) rfl rfl rfl ?_; intro a161 hE162; clear hE156
          refine q_step (v := .int .i64 (t17 + 1)) hE162 (y_move rfl) rfl rfl rfl ?_; intro a163 hE164; clear hE162
          refine c_nil ?_
          have hE165 := hE164.sub (L' := [(2, .func (.func holdsF) #[] holdsC.toArray), (4, .pointer (some ⟨b11, 0, none⟩)), (7, .slice b26 (Int.toNat mp0) (Int.toNat mp0)), (16, .int .i64 mp0), (17, .int .i64 (t17 + 1))]) ⟨rfl, rfl, rfl, rfl, rfl, trivial⟩; clear hE164
          refine p_tn ⟨r53, Nat.lt_succ_self _, t17 + 1, (F_linkOf_L2 np0 holds t17 (Int.toNat (np0 - 0) + 1) 0 out7).2, (hT49.symm.trans (show F_linkOf_L1b mp0 np0 holds (F_linkOf_L1 mp0 np0 holds r53) t17 out7 = F_linkOf_L1 mp0 np0 holds r53 (t17 + 1) ((F_linkOf_L2 np0 holds t17 (Int.toNat (np0 - 0) + 1) 0 out7).2) by unfold F_linkOf_L1b; rw [ht57]; first | done | rfl)).symm, (by omega), (by first | omega | (simp only [List.length_replicate, sI_len]; omega) | (simp only [List.length_append, List.length_cons, List.length_nil, sI_len, cond_true, cond_false]; omega) | (simp only [List.length_append, List.length_cons, List.length_nil, sI_len, cond_eq_ite, apply_ite List.length]; split <;> simp only [List.length_append, List.length_cons, List.length_nil, sI_len] <;> omega) | grind), (by first | omega | (simp only [List.length_replicate, sI_len]; omega) | (simp only [List.length_append, List.length_cons, List.length_nil, sI_len, cond_true, cond_false]; omega) | (simp only [List.length_append, List.length_cons, List.length_nil, sI_len, cond_eq_ite, apply_ite List.length]; split <;> simp only [List.length_append, List.length_cons, List.length_nil, sI_len] <;> omega) | grind), (hE165.sub (L' := [(2, .func (.func holdsF) #[] holdsC.toArray), (4, .pointer (some ⟨b11, 0, none⟩)), (7, .slice b26 (Int.toNat mp0) (Int.toNat mp0)), (16, .int .i64 mp0), (17, .int .i64 (t17 + 1))]) ⟨rfl, rfl, rfl, rfl, rfl, trivial⟩), (St.pick (Γ' := [.own 2 1 b26 (Int.toNat mp0) (Int.toNat mp0) ((F_linkOf_L2 np0 holds t17 (Int.toNat (np0 - 0) + 1) 0 out7).2), .blk b11 #[.int .i64 np0, .slice np1A np1.length np1C, .slice np2A np2.length np2C] 38, .blk b5 #[.int .i64 mp0, .slice mp1A mp1.length mp1C, .slice mp2A mp2.length mp2C] 38, .rd 1 np2A np2.length np2C np2, .rd 1 np1A np1.length np1C np1, .rd 1 mp2A mp2.length mp2C mp2, .rd 1 mp1A mp1.length mp1C mp1]) hS157 [0, 1, 2, 3, 4, 5, 6] (by decide) rfl)⟩
      ·
        have hp166 := of_decide_eq_false ht57
        have hE167 := hE56; rw [ht57] at hE167; clear hE56
        refine wp_exit ?_
        refine p_te ?_
        have hX168 : F_linkOf_L1 mp0 np0 holds (Int.toNat (mp0 - 0) + 1) 0 (List.replicate (Int.toNat mp0) 0) = (t17, out7) := hT49.symm.trans (show F_linkOf_L1b mp0 np0 holds (F_linkOf_L1 mp0 np0 holds r53) t17 out7 = (t17, out7) by unfold F_linkOf_L1b; rw [ht57]; first | done | rfl)
        refine p_te (p_be (p_tn ?_))
        exact ⟨(by rw [hX168]; exact (show 0 ≤ t17 from (by first | omega | (simp only [List.length_replicate, sI_len]; omega) | (simp only [List.length_append, List.length_cons, List.length_nil, sI_len, cond_true, cond_false]; omega) | (simp only [List.length_append, List.length_cons, List.length_nil, sI_len, cond_eq_ite, apply_ite List.length]; split <;> simp only [List.length_append, List.length_cons, List.length_nil, sI_len] <;> omega) | grind))), (by rw [hX168]; exact (show (out7.length : Int) = mp0 from (by first | omega | (simp only [List.length_replicate, sI_len]; omega) | (simp only [List.length_append, List.length_cons, List.length_nil, sI_len, cond_true, cond_false]; omega) | (simp only [List.length_append, List.length_cons, List.length_nil, sI_len, cond_eq_ite, apply_ite List.length]; split <;> simp only [List.length_append, List.length_cons, List.length_nil, sI_len] <;> omega) | grind))), (by rw [hX168]; exact (hE167.sub (L' := [(2, .func (.func holdsF) #[] holdsC.toArray), (4, .pointer (some ⟨b11, 0, none⟩)), (7, .slice b26 (Int.toNat mp0) (Int.toNat mp0)), (16, .int .i64 mp0), (17, .int .i64 t17)]) ⟨rfl, rfl, rfl, rfl, rfl, trivial⟩)), (by rw [hX168]; exact (St.pick (Γ' := [.own 2 1 b26 (Int.toNat mp0) (Int.toNat mp0) out7, .blk b11 #[.int .i64 np0, .slice np1A np1.length np1C, .slice np2A np2.length np2C] 38, .blk b5 #[.int .i64 mp0, .slice mp1A mp1.length mp1C, .slice mp2A mp2.length mp2C] 38, .rd 1 np2A np2.length np2C np2, .rd 1 np1A np1.length np1C np1, .rd 1 mp2A mp2.length mp2C mp2, .rd 1 mp1A mp1.length mp1C mp1]) hS48 [0, 1, 2, 3, 4, 5, 6] (by decide) rfl))⟩
  ·
    rintro a169 w170 ⟨hi174, hi175, hE171, hS172⟩; clear hE43 hS30
    refine p_tn ?_
    refine c_seq ?_
    refine c_reg ?_
    refine q_step (v := .slice b26 (Int.toNat mp0) (Int.toNat mp0)) hE171 (y_move rfl) rfl rfl rfl ?_; intro a176 hE177; clear hE171
    refine q_step (v := .slice b26 (Int.toNat mp0) (Int.toNat mp0)) hE177 (y_assign rfl) rfl rfl rfl ?_; intro a178 hE179; clear hE177
    refine c_nil ?_
    have hE180 := hE179.sub (L' := [(6, .slice b26 (Int.toNat mp0) (Int.toNat mp0))]) ⟨rfl, trivial⟩; clear hE179
    refine p_tn ?_
    refine wp_ret ?_
    have hF : F_linkOf mp0 mp1 mp2 np0 np1 np2 holds = (F_linkOf_L1 mp0 np0 holds (Int.toNat (mp0 - 0) + 1) 0 (List.replicate (Int.toNat mp0) 0)).2 := by unfold F_linkOf; rfl
    refine c_ret1 hE180 rfl rfl ?_
    exact ⟨b26, Int.toNat mp0, (by rw [hF]; first | rfl | (rw [(St.rdO (i := 0) hS172 rfl).len1])), (by rw [hF, (St.rdO (i := 0) hS172 rfl).len1]; exact hS172.ok 0 _ rfl), hS172.ext⟩

/-- A link: each row a mask. -/
def LkI (m n : Int) (xs : List Int) : Prop := ∀ i : Nat, (i : Int) < m → Mk n.toNat (gI xs (i : Int))
theorem sI_sI (xs : List Int) (t a b : Int) : sI (sI xs t a) t b = sI xs t b := by unfold sI; rw [List.set_set]
theorem linkOf_row (np0 : Int) (h0 : 0 ≤ np0) (h1 : np0 ≤ 8) (holds : Int → Int → Bool) (t : Int) (ht : 0 ≤ t) (out : List Int) (hl : t < (out.length : Int)) : (F_linkOf_L2 np0 holds t (Int.toNat (np0 - 0) + 1) 0 out).2 = sI out t ((List.range np0.toNat).foldl (fun o (y : Nat) => bif holds t (y : Int) then orI o (powI (y : Int)) else o) (gI out t)) := by
  have hg : ∀ a : Int, gI (sI out t a) t = a := fun a => by
    unfold sI; show gi _ _ = _; rw [gi_set (by omega), if_pos rfl]
  rw [rangeLoopR0 np0 h0 (fun o y => bif holds t y then sI o t (orI (gI o t) (shlI 1 y)) else o) (F_linkOf_L2 np0 holds t) (fun _ _ _ => rfl)]
  have key : ∀ (l : List Nat) (a : Int), (∀ y ∈ l, y ≤ 62) → l.foldl (fun o (y : Nat) => bif holds t (y : Int) then sI o t (orI (gI o t) (shlI 1 (y : Int))) else o) (sI out t a) = sI out t (l.foldl (fun o (y : Nat) => bif holds t (y : Int) then orI o (powI (y : Int)) else o) a) := by
    intro l
    induction l with
    | nil => intro a _; rfl
    | cons y l ih =>
      intro a hy
      rw [List.foldl_cons, List.foldl_cons]
      have hyy := hy y (List.mem_cons_self ..)
      cases holds t (y : Int)
      · rw [cond_false, cond_false]; exact ih a fun z hz => hy z (List.mem_cons_of_mem _ hz)
      · rw [cond_true, cond_true, hg, sI_sI, pow_shl (by omega) (by omega)]; exact ih _ fun z hz => hy z (List.mem_cons_of_mem _ hz)
  have e : sI out t (gI out t) = out := by
    apply ext_gi (by rw [sI_len])
    intro j hj
    unfold sI gI
    rw [gi_set (by omega)]
    by_cases e : t.toNat = j
    · rw [if_pos e, e]
    · rw [if_neg e]
  have := key (List.range np0.toNat) (gI out t) fun y hy => by have := List.mem_range.1 hy; omega
  rw [e] at this
  exact this
theorem linkOf_rows {mp0 np0 : Int} (mp1 mp2 np1 np2 : List Int) (hm : 0 ≤ mp0 ∧ mp0 ≤ 8) (hn : 0 ≤ np0 ∧ np0 ≤ 8) (holds : Int → Int → Bool) : ((F_linkOf mp0 mp1 mp2 np0 np1 np2 holds).length : Int) = mp0 ∧ ∀ x : Nat, (x : Int) < mp0 → gI (F_linkOf mp0 mp1 mp2 np0 np1 np2 holds) (x : Int) = (List.range np0.toNat).foldl (fun o (y : Nat) => bif holds (x : Int) (y : Int) then orI o (powI (y : Int)) else o) 0 := by
  unfold F_linkOf
  have := mapLoop mp0 (fun t o => (List.range np0.toNat).foldl (fun o (y : Nat) => bif holds t (y : Int) then orI o (powI (y : Int)) else o) o) (F_linkOf_L1 mp0 np0 holds) (fun r t xs h0 hl => by
    show F_linkOf_L1b mp0 np0 holds _ t xs = _
    unfold F_linkOf_L1b
    by_cases h : t < mp0
    · rw [decide_eq_true h, cond_true, cond_true, linkOf_row np0 hn.1 hn.2 holds t h0 xs (by omega)]
    · rw [decide_eq_false h, cond_false, cond_false]) (List.replicate (Int.toNat mp0) 0) (by rw [List.length_replicate]; omega)
  refine ⟨this.1, fun x hx => ?_⟩
  rw [this.2 x hx, gI_replicate (by omega)]
theorem linkOf_bits {mp0 np0 : Int} (mp1 mp2 np1 np2 : List Int) (hm : 0 ≤ mp0 ∧ mp0 ≤ 8) (hn : 0 ≤ np0 ∧ np0 ≤ 8) (holds : Int → Int → Bool) : LkI mp0 np0 (F_linkOf mp0 mp1 mp2 np0 np1 np2 holds) ∧ ∀ x y : Nat, (x : Int) < mp0 → rb (F_linkOf mp0 mp1 mp2 np0 np1 np2 holds) x y = (decide (y < np0.toNat) && holds (x : Int) (y : Int)) := by
  have h := (linkOf_rows mp1 mp2 np1 np2 hm hn holds).2
  refine ⟨fun x hx => ?_, fun x y hx => ?_⟩
  · rw [h x hx]; exact (pow_fold (n := np0.toNat) (by omega) (fun y => holds (x : Int) (y : Int))).1
  · unfold rb; rw [h x hx]; exact (pow_fold (n := np0.toNat) (by omega) (fun y => holds (x : Int) (y : Int))).2 y
theorem linkOf_len {mp0 np0 : Int} (mp1 mp2 np1 np2 : List Int) (hm : 0 ≤ mp0 ∧ mp0 ≤ 8) (hn : 0 ≤ np0 ∧ np0 ≤ 8) (holds : Int → Int → Bool) : ((F_linkOf mp0 mp1 mp2 np0 np1 np2 holds).length : Int) = mp0 := (linkOf_rows mp1 mp2 np1 np2 hm hn holds).1

def F_GreatestSimulation_k2 (xp : Int) (yp : Int) (cap0 : List Int) (cap10 : Int) (cap11 : List Int) (cap12 : List Int) (cap20 : Int) (cap21 : List Int) (cap22 : List Int) : Bool :=
  ((F_has (gI cap0 xp) yp) && (F_forth cap10 cap11 cap12 cap20 cap21 cap22 cap0 xp yp))
theorem cf_GreatestSimulation_k2 (args : Array Value) (w : World) : (callFunc 110 args).run Try.prog w = .ok (.enter 110 args) w := by kernel_rfl
set_option maxRecDepth 100000 in
theorem c_GreatestSimulation_k2 (xp : Int) (yp : Int) (cap0B : Nat) (cap0A : Option Addr) (cap0N cap0C : Nat) (cap0 : List Int) (cap1B : Nat) (cap10 : Int) (cap11A : Option Addr) (cap11N cap11C : Nat) (cap11 : List Int) (cap12A : Option Addr) (cap12N cap12C : Nat) (cap12 : List Int) (cap2B : Nat) (cap20 : Int) (cap21A : Option Addr) (cap21N cap21C : Nat) (cap21 : List Int) (cap22A : Option Addr) (cap22N cap22C : Nat) (cap22 : List Int) (w : World) (cap0R : RdS w 1 cap0A cap0N cap0C cap0) (cap0H : w.heap[cap0B]? = some (.cells #[.slice cap0A cap0N cap0C] 22 (0, 0))) (cap11R : RdS w 1 cap11A cap11N cap11C cap11) (cap12R : RdS w 1 cap12A cap12N cap12C cap12) (cap1H : w.heap[cap1B]? = some (.cells #[.int .i64 cap10, .slice cap11A cap11N cap11C, .slice cap12A cap12N cap12C] 38 (0, 0))) (cap21R : RdS w 1 cap21A cap21N cap21C cap21) (cap22R : RdS w 1 cap22A cap22N cap22C cap22) (cap2H : w.heap[cap2B]? = some (.cells #[.int .i64 cap20, .slice cap21A cap21N cap21C, .slice cap22A cap22N cap22C] 38 (0, 0))) (hx : 0 ≤ xp ∧ xp < cap10) (hy : 0 ≤ yp ∧ yp < cap20) (hwm : 0 ≤ cap10 ∧ cap10 ≤ 8) (hwn : 0 ≤ cap20 ∧ cap20 ≤ 8) (hlm : (cap11.length : Int) = cap10) (hln : (cap21.length : Int) = cap20) (hll : (cap0.length : Int) = cap10) (hfm : ∀ m : Int, 0 ≤ m → m < (cap11.length : Int) → 0 ≤ gI cap11 m ∧ gI cap11 m ≤ fullI cap10) :
    Calls Try.prog 110 #[.int .i64 xp, .int .i64 yp, .pointer (some ⟨cap0B, 0, none⟩), .pointer (some ⟨cap1B, 0, none⟩), .pointer (some ⟨cap2B, 0, none⟩)] w (Ret fun v w' => v = .bool (F_GreatestSimulation_k2 xp yp cap0 cap10 cap11 cap12 cap20 cap21 cap22) ∧ Ext w w') := by
  obtain rfl : cap0N = cap0.length := cap0R.len1.symm
  have cap0Le := cap0R.le
  obtain rfl : cap11N = cap11.length := cap11R.len1.symm
  have cap11Le := cap11R.le
  obtain rfl : cap12N = cap12.length := cap12R.len1.symm
  have cap12Le := cap12R.le
  obtain rfl : cap21N = cap21.length := cap21R.len1.symm
  have cap21Le := cap21R.le
  obtain rfl : cap22N = cap22.length := cap22R.len1.symm
  have cap22Le := cap22R.le
  have hS := St.nil w
  have hS1 := St.rd0 hS rfl cap0R; clear hS
  have hS2 := St.rb0 hS1 rfl cap0H; clear hS1
  have hS3 := St.rd0 hS2 rfl cap11R; clear hS2
  have hS4 := St.rd0 hS3 rfl cap12R; clear hS3
  have hS5 := St.rb0 hS4 rfl cap1H; clear hS4
  have hS6 := St.rd0 hS5 rfl cap21R; clear hS5
  have hS7 := St.rd0 hS6 rfl cap22R; clear hS6
  have hS8 := St.rb0 hS7 rfl cap2H; clear hS7
  refine enter (args := [.int .i64 xp, .int .i64 yp, .pointer (some ⟨cap0B, 0, none⟩), .pointer (some ⟨cap1B, 0, none⟩), .pointer (some ⟨cap2B, 0, none⟩)]) Try.func110 rfl rfl ?_
  rw [Try.ntmps110]; intro a hE
  have hE := hE.sub (L' := [(0, .int .i64 xp), (1, .int .i64 yp), (2, .pointer (some ⟨cap0B, 0, none⟩)), (3, .pointer (some ⟨cap1B, 0, none⟩)), (4, .pointer (some ⟨cap2B, 0, none⟩))]) ⟨rfl, rfl, rfl, rfl, rfl, trivial⟩
  refine c_seq ?_
  refine c_reg ?_
  refine q_step (v := .bool false) hE (y_assign rfl) rfl rfl rfl ?_; intro a9 hE10; clear hE
  refine c_nil ?_
  have hE11 := hE10.sub (L' := [(0, .int .i64 xp), (1, .int .i64 yp), (2, .pointer (some ⟨cap0B, 0, none⟩)), (3, .pointer (some ⟨cap1B, 0, none⟩)), (4, .pointer (some ⟨cap2B, 0, none⟩))]) ⟨rfl, rfl, rfl, rfl, rfl, trivial⟩; clear hE10
  refine p_tn ?_
  refine c_cut (fun a' w' => E a' 22 [(7, .bool ((F_has (gI cap0 xp) yp) && (F_forth cap10 cap11 cap12 cap20 cap21 cap22 cap0 xp yp)))] ∧ St w w' [.rd 1 cap21A cap21.length cap21C cap21, .rd 1 cap22A cap22.length cap22C cap22, .rb cap2B #[.int .i64 cap20, .slice cap21A cap21.length cap21C, .slice cap22A cap22.length cap22C] 38, .rd 1 cap11A cap11.length cap11C cap11, .rd 1 cap12A cap12.length cap12C cap12, .rb cap1B #[.int .i64 cap10, .slice cap11A cap11.length cap11C, .slice cap12A cap12.length cap12C] 38, .rd 1 cap0A cap0.length cap0C cap0, .rb cap0B #[.slice cap0A cap0.length cap0C] 22]) ?_ ?_
  ·
    refine c_reg ?_
    refine q_step (v := .slice cap0A cap0.length cap0C) hE11 (y_load (fun _ => by kernel_rfl) rfl (St.cellR (i := 6) hS8 rfl rfl)) rfl rfl rfl ?_; intro a12 hE13; clear hE11
    refine q_step (v := .int .i64 xp) hE13 (y_move rfl) rfl rfl rfl ?_; intro a14 hE15; clear hE13
    refine q_step (v := .pointer (some (adr cap0A (Int.toNat xp)))) hE15 (y_idx (by kernel_rfl) (fun _ => by kernel_rfl) rfl rfl (RdS.isS (m := xp) (St.rdR (i := 7) hS8 rfl) (by omega) (by omega)) (by omega) (by omega) (Nat.mul_one _).symm) rfl rfl rfl ?_; intro a16 hE17; clear hE15
    refine q_step (v := .int .i64 (gI cap0 xp)) hE17 (y_load (fun _ => by kernel_rfl) rfl (RdS.elt (St.rdR (i := 7) hS8 rfl) (by omega) (by omega))) rfl rfl rfl ?_; intro a18 hE19; clear hE17
    refine q_step (v := .int .i64 yp) hE19 (y_move rfl) rfl rfl rfl ?_; intro a20 hE21; clear hE19
    refine l_step hE21 rfl (l_call (f := 111) (argv := [.int .i64 (gI cap0 xp), .int .i64 yp]) hE21 (fun _ => cf_has _ _) rfl rfl (c_has (gI cap0 xp) yp w (by omega)) ?_)
    rintro _ _ ⟨rfl, rfl⟩ a24 hE25; clear hE21
    refine q_step (v := .bool (F_has (gI cap0 xp) yp)) hE25 (y_move rfl) rfl rfl rfl ?_; intro a28 hE29; clear hE25
    rcases Bool.eq_false_or_eq_true (F_has (gI cap0 xp) yp) with hb30 | hb30
    ·
      have hE31 := hE29; rw [hb30] at hE31; clear hE29
      refine q_step (v := .agg #[.int .i64 cap10, .slice cap11A cap11.length cap11C, .slice cap12A cap12.length cap12C]) hE31 (y_loadS Try.underlying38 rfl (by kernel_rfl) rfl (St.rowR (i := 3) hS8 rfl)) rfl rfl rfl ?_; intro a32 hE33; clear hE31
      refine q_step (v := .agg #[.int .i64 cap20, .slice cap21A cap21.length cap21C, .slice cap22A cap22.length cap22C]) hE33 (y_loadS Try.underlying38 rfl (by kernel_rfl) rfl (St.rowR (i := 0) hS8 rfl)) rfl rfl rfl ?_; intro a34 hE35; clear hE33
      refine q_step (v := .slice cap0A cap0.length cap0C) hE35 (y_load (fun _ => by kernel_rfl) rfl (St.cellR (i := 6) hS8 rfl rfl)) rfl rfl rfl ?_; intro a36 hE37; clear hE35
      refine q_step (v := .int .i64 xp) hE37 (y_move rfl) rfl rfl rfl ?_; intro a38 hE39; clear hE37
      refine q_step (v := .int .i64 yp) hE39 (y_move rfl) rfl rfl rfl ?_; intro a40 hE41; clear hE39
      refine l_step hE41 rfl (l_call (f := 112) (argv := [.agg #[.int .i64 cap10, .slice cap11A cap11.length cap11C, .slice cap12A cap12.length cap12C], .agg #[.int .i64 cap20, .slice cap21A cap21.length cap21C, .slice cap22A cap22.length cap22C], .slice cap0A cap0.length cap0C, .int .i64 xp, .int .i64 yp]) hE41 (fun _ => cf_forth _ _) rfl rfl (c_forth cap10 cap11A cap11.length cap11C cap11 cap12A cap12.length cap12C cap12 cap20 cap21A cap21.length cap21C cap21 cap22A cap22.length cap22C cap22 cap0A cap0.length cap0C cap0 xp yp w (St.rdR (i := 5) hS8 rfl) (St.rdR (i := 4) hS8 rfl) (St.rdR (i := 2) hS8 rfl) (St.rdR (i := 1) hS8 rfl) (St.rdR (i := 7) hS8 rfl) (by omega) (by omega) (by omega) (by omega) (by omega) (by omega) (by omega) hfm) ?_)
      rintro _ w43 ⟨rfl, he47⟩ a44 hE45; clear hE41
      have hS46 := St.go hS8 he47; clear hS8
      refine q_step (v := .bool (F_forth cap10 cap11 cap12 cap20 cap21 cap22 cap0 xp yp)) hE45 (y_pick (b := true) rfl rfl) rfl rfl rfl ?_; intro a48 hE49; clear hE45
      refine q_step (v := .bool (F_forth cap10 cap11 cap12 cap20 cap21 cap22 cap0 xp yp)) hE49 (y_assign rfl) rfl rfl rfl ?_; intro a50 hE51; clear hE49
      refine c_nil ?_
      have hE52 := hE51.sub (L' := [(7, .bool (F_forth cap10 cap11 cap12 cap20 cap21 cap22 cap0 xp yp))]) ⟨rfl, trivial⟩; clear hE51
      refine p_tn ?_
      have hE53 := hE52.sub (L' := [(7, .bool (F_forth cap10 cap11 cap12 cap20 cap21 cap22 cap0 xp yp))]) ⟨rfl, trivial⟩
      have hS54 := (St.pick (Γ' := [.rd 1 cap21A cap21.length cap21C cap21, .rd 1 cap22A cap22.length cap22C cap22, .rb cap2B #[.int .i64 cap20, .slice cap21A cap21.length cap21C, .slice cap22A cap22.length cap22C] 38, .rd 1 cap11A cap11.length cap11C cap11, .rd 1 cap12A cap12.length cap12C cap12, .rb cap1B #[.int .i64 cap10, .slice cap11A cap11.length cap11C, .slice cap12A cap12.length cap12C] 38, .rd 1 cap0A cap0.length cap0C cap0, .rb cap0B #[.slice cap0A cap0.length cap0C] 22]) hS46 [2, 1, 0, 5, 4, 3, 7, 6] (by decide) rfl)
      exact ⟨(by rw [hb30]; exact hE53), hS54⟩
    ·
      have hE55 := hE29; rw [hb30] at hE55; clear hE29
      refine q_skip hE55 rfl rfl rfl ?_; intro a56 hE57; clear hE55
      refine q_skip hE57 rfl rfl rfl ?_; intro a58 hE59; clear hE57
      refine q_skip hE59 rfl rfl rfl ?_; intro a60 hE61; clear hE59
      refine q_skip hE61 rfl rfl rfl ?_; intro a62 hE63; clear hE61
      refine q_skip hE63 rfl rfl rfl ?_; intro a64 hE65; clear hE63
      refine q_skip hE65 rfl rfl rfl ?_; intro a66 hE67; clear hE65
      refine q_step (v := .bool false) hE67 (y_pick (b := false) rfl rfl) rfl rfl rfl ?_; intro a68 hE69; clear hE67
      refine q_step (v := .bool false) hE69 (y_assign rfl) rfl rfl rfl ?_; intro a70 hE71; clear hE69
      refine c_nil ?_
      have hE72 := hE71.sub (L' := [(7, .bool false)]) ⟨rfl, trivial⟩; clear hE71
      refine p_tn ?_
      have hE73 := hE72.sub (L' := [(7, .bool false)]) ⟨rfl, trivial⟩
      have hS74 := (St.pick (Γ' := [.rd 1 cap21A cap21.length cap21C cap21, .rd 1 cap22A cap22.length cap22C cap22, .rb cap2B #[.int .i64 cap20, .slice cap21A cap21.length cap21C, .slice cap22A cap22.length cap22C] 38, .rd 1 cap11A cap11.length cap11C cap11, .rd 1 cap12A cap12.length cap12C cap12, .rb cap1B #[.int .i64 cap10, .slice cap11A cap11.length cap11C, .slice cap12A cap12.length cap12C] 38, .rd 1 cap0A cap0.length cap0C cap0, .rb cap0B #[.slice cap0A cap0.length cap0C] 22]) hS8 [2, 1, 0, 5, 4, 3, 7, 6] (by decide) rfl)
      exact ⟨(by rw [hb30]; exact hE73), hS74⟩
  ·
    rintro a75 w76 ⟨hE77, hS78⟩; clear hE11 hS8
    refine wp_ret ?_
    have hF : F_GreatestSimulation_k2 xp yp cap0 cap10 cap11 cap12 cap20 cap21 cap22 = ((F_has (gI cap0 xp) yp) && (F_forth cap10 cap11 cap12 cap20 cap21 cap22 cap0 xp yp)) := by unfold F_GreatestSimulation_k2; rfl
    refine c_ret1 hE77 rfl rfl ?_
    exact ⟨(by rw [hF]; first | done | rfl), hS78.ext⟩

def F_z_Equal_L1b (s1 : List Int) (s2 : List Int) (rec : Int → Except (Bool) (Int)) (t13 : Int) : Except (Bool) (Int) :=
  bif (decide (t13 < (s1.length : Int))) then (bif (!decide ((gI s1 t13) = (gI s2 t13))) then (.error false) else (rec (t13 + 1))) else (.ok t13)
def F_z_Equal_L1 (s1 : List Int) (s2 : List Int) : Nat → Int → Except (Bool) (Int)
  | 0, t13 => .ok t13
  | r + 1, t13 => F_z_Equal_L1b s1 s2 (F_z_Equal_L1 s1 s2 r) t13
def F_z_Equal (s1 : List Int) (s2 : List Int) : Bool :=
  bif (!decide ((s1.length : Int) = (s2.length : Int))) then false else (bif (isOk (F_z_Equal_L1 s1 s2 (Int.toNat ((s1.length : Int) - 0) + 1) 0)) then true else (errD (F_z_Equal_L1 s1 s2 (Int.toNat ((s1.length : Int) - 0) + 1) 0)))
theorem cf_z_Equal (args : Array Value) (w : World) : (callFunc 113 args).run Try.prog w = .ok (.enter 113 args) w := by kernel_rfl
set_option maxRecDepth 100000 in
theorem c_z_Equal (s1A : Option Addr) (s1N s1C : Nat) (s1 : List Int) (s2A : Option Addr) (s2N s2C : Nat) (s2 : List Int) (w : World) (s1R : RdS w 1 s1A s1N s1C s1) (s2R : RdS w 1 s2A s2N s2C s2) :
    Calls Try.prog 113 #[.slice s1A s1N s1C, .slice s2A s2N s2C] w (Ret fun v w' => v = .bool (F_z_Equal s1 s2) ∧ Ext w w') := by
  obtain rfl : s1N = s1.length := s1R.len1.symm
  have s1Le := s1R.le
  obtain rfl : s2N = s2.length := s2R.len1.symm
  have s2Le := s2R.le
  have hS := St.nil w
  have hS1 := St.rd0 hS rfl s1R; clear hS
  have hS2 := St.rd0 hS1 rfl s2R; clear hS1
  refine enter (args := [.slice s1A s1.length s1C, .slice s2A s2.length s2C]) Try.func113 rfl rfl ?_
  rw [Try.ntmps113]; intro a hE
  have hE := hE.sub (L' := [(0, .slice s1A s1.length s1C), (1, .slice s2A s2.length s2C)]) ⟨rfl, rfl, trivial⟩
  refine c_seq ?_
  refine c_reg ?_
  refine q_step (v := .bool false) hE (y_assign rfl) rfl rfl rfl ?_; intro a3 hE4; clear hE
  refine c_nil ?_
  have hE5 := hE4.sub (L' := [(0, .slice s1A s1.length s1C), (1, .slice s2A s2.length s2C)]) ⟨rfl, rfl, trivial⟩; clear hE4
  refine p_tn ?_
  refine c_seq ?_
  refine c_seq ?_
  refine c_reg ?_
  refine q_step (v := .slice s1A s1.length s1C) hE5 (y_move rfl) rfl rfl rfl ?_; intro a6 hE7; clear hE5
  refine q_step (v := .int .i64 (s1.length : Int)) hE7 (y_len (e := 2) (by kernel_rfl) rfl) rfl rfl rfl ?_; intro a8 hE9; clear hE7
  refine q_step (v := .slice s2A s2.length s2C) hE9 (y_move rfl) rfl rfl rfl ?_; intro a10 hE11; clear hE9
  refine q_step (v := .int .i64 (s2.length : Int)) hE11 (y_len (e := 2) (by kernel_rfl) rfl) rfl rfl rfl ?_; intro a12 hE13; clear hE11
  refine q_step (v := .bool (!decide ((s1.length : Int) = (s2.length : Int)))) hE13 (y_neq rfl rfl) rfl rfl rfl ?_; intro a14 hE15; clear hE13
  refine c_nil ?_
  have hE16 := hE15.sub (L' := [(0, .slice s1A s1.length s1C), (1, .slice s2A s2.length s2C), (10, .bool (!decide ((s1.length : Int) = (s2.length : Int))))]) ⟨rfl, rfl, rfl, trivial⟩; clear hE15
  refine p_tn ?_
  refine c_cond hE16 rfl (fun ht17 => ?_) (fun ht17 => ?_)
  ·
    have ht18 := bn_t ht17
    have hp19 := of_decide_eq_false ht18
    have hE20 := hE16; rw [ht17] at hE20; clear hE16
    refine c_seq ?_
    refine c_reg ?_
    refine q_step (v := .bool false) hE20 (y_assign rfl) rfl rfl rfl ?_; intro a21 hE22; clear hE20
    refine c_nil ?_
    have hE23 := hE22.sub (L' := [(4, .bool false)]) ⟨rfl, trivial⟩; clear hE22
    refine p_tn ?_
    refine wp_ret ?_
    refine p_tr ?_
    have hF : F_z_Equal s1 s2 = false := by unfold F_z_Equal; rw [ht17]; first | done | rfl
    refine c_ret1 hE23 rfl rfl ?_
    exact ⟨(by rw [hF]; first | done | rfl), hS2.ext⟩
  ·
    have ht24 := bn_f ht17
    have hp25 := of_decide_eq_true ht24
    have hE26 := hE16; rw [ht17] at hE26; clear hE16
    refine wp_skip ?_
    refine p_tn ?_
    refine c_seq ?_
    refine c_seq ?_
    refine c_reg ?_
    refine q_step (v := .slice s1A s1.length s1C) hE26 (y_move rfl) rfl rfl rfl ?_; intro a27 hE28; clear hE26
    refine q_step (v := .int .i64 (s1.length : Int)) hE28 (y_len (e := 2) (by kernel_rfl) rfl) rfl rfl rfl ?_; intro a29 hE30; clear hE28
    refine q_step (v := .int .i64 0) hE30 (y_move rfl) rfl rfl rfl ?_; intro a31 hE32; clear hE30
    refine c_nil ?_
    have hE33 := hE32.sub (L' := [(0, .slice s1A s1.length s1C), (1, .slice s2A s2.length s2C), (12, .int .i64 (s1.length : Int)), (13, .int .i64 0)]) ⟨rfl, rfl, rfl, rfl, trivial⟩; clear hE32
    refine p_tn ?_
    refine c_cut1 (fun a' w' => isOk (F_z_Equal_L1 s1 s2 (Int.toNat ((s1.length : Int) - 0) + 1) 0) = true ∧ (0 ≤ (okD (F_z_Equal_L1 s1 s2 (Int.toNat ((s1.length : Int) - 0) + 1) 0))) ∧ ((okD (F_z_Equal_L1 s1 s2 (Int.toNat ((s1.length : Int) - 0) + 1) 0)) ≤ (s1.length : Int)) ∧ E a' 26 [(0, .slice s1A s1.length s1C), (1, .slice s2A s2.length s2C), (12, .int .i64 (s1.length : Int)), (13, .int .i64 (okD (F_z_Equal_L1 s1 s2 (Int.toNat ((s1.length : Int) - 0) + 1) 0)))] ∧ St w w' [.rd 1 s2A s2.length s2C s2, .rd 1 s1A s1.length s1C s1]) ?_ ?_
    ·
      refine wp_block ?_
      refine c_loop (fun r a' w' => ∃ t13 : Int, F_z_Equal_L1 s1 s2 r t13 = F_z_Equal_L1 s1 s2 (Int.toNat ((s1.length : Int) - 0) + 1) 0 ∧ Int.toNat ((s1.length : Int) - t13) < r ∧ (0 ≤ t13) ∧ (t13 ≤ (s1.length : Int)) ∧ E a' 26 [(0, .slice s1A s1.length s1C), (1, .slice s2A s2.length s2C), (12, .int .i64 (s1.length : Int)), (13, .int .i64 t13)] ∧ St w w' [.rd 1 s2A s2.length s2C s2, .rd 1 s1A s1.length s1C s1]) (r := (Int.toNat ((s1.length : Int) - 0) + 1)) ?_ ?_
      · exact ⟨0, rfl, Nat.lt_succ_self _, (by first | omega | (simp only [List.length_replicate, sI_len]; omega) | (simp only [List.length_append, List.length_cons, List.length_nil, sI_len, cond_true, cond_false]; omega) | (simp only [List.length_append, List.length_cons, List.length_nil, sI_len, cond_eq_ite, apply_ite List.length]; split <;> simp only [List.length_append, List.length_cons, List.length_nil, sI_len] <;> omega) | grind), (by first | omega | (simp only [List.length_replicate, sI_len]; omega) | (simp only [List.length_append, List.length_cons, List.length_nil, sI_len, cond_true, cond_false]; omega) | (simp only [List.length_append, List.length_cons, List.length_nil, sI_len, cond_eq_ite, apply_ite List.length]; split <;> simp only [List.length_append, List.length_cons, List.length_nil, sI_len] <;> omega) | grind), (hE33.sub (L' := [(0, .slice s1A s1.length s1C), (1, .slice s2A s2.length s2C), (12, .int .i64 (s1.length : Int)), (13, .int .i64 0)]) ⟨rfl, rfl, rfl, rfl, trivial⟩), (St.pick (Γ' := [.rd 1 s2A s2.length s2C s2, .rd 1 s1A s1.length s1C s1]) hS2 [0, 1] (by decide) rfl)⟩
      ·
        clear hE33 hS2
        rintro r43 a35 w36 ⟨t13, hT39, hr40, hi41, hi42, hE37, hS38⟩
        obtain ⟨r43, rfl⟩ : ∃ r', r43 = r' + 1 := ⟨r43 - 1, by omega⟩
        refine c_seq ?_
        refine c_reg ?_
        refine q_step (v := .bool (decide (t13 < (s1.length : Int)))) hE37 (y_lss rfl rfl) rfl rfl rfl ?_; intro a44 hE45; clear hE37
        refine c_nil ?_
        have hE46 := hE45.sub (L' := [(0, .slice s1A s1.length s1C), (1, .slice s2A s2.length s2C), (12, .int .i64 (s1.length : Int)), (13, .int .i64 t13), (14, .bool (decide (t13 < (s1.length : Int))))]) ⟨rfl, rfl, rfl, rfl, rfl, trivial⟩; clear hE45
        refine p_tn ?_
        refine c_seq ?_
        refine c_cond hE46 rfl (fun ht47 => ?_) (fun ht47 => ?_)
        ·
          have hp48 := of_decide_eq_true ht47
          have hE49 := hE46; rw [ht47] at hE49; clear hE46
          refine wp_skip ?_
          refine p_tn ?_
          refine c_seq ?_
          refine wp_block ?_
          refine c_seq ?_
          refine c_reg ?_
          refine q_step (v := .int .i64 t13) hE49 (y_move rfl) rfl rfl rfl ?_; intro a50 hE51; clear hE49
          refine q_step (v := .int .i64 t13) hE51 (y_assign rfl) rfl rfl rfl ?_; intro a52 hE53; clear hE51
          refine c_nil ?_
          have hE54 := hE53.sub (L' := [(0, .slice s1A s1.length s1C), (1, .slice s2A s2.length s2C), (5, .int .i64 t13), (12, .int .i64 (s1.length : Int)), (13, .int .i64 t13)]) ⟨rfl, rfl, rfl, rfl, rfl, trivial⟩; clear hE53
          refine p_tn ?_
          refine c_seq ?_
          refine d_start (fun w' => w'.cell? (adr s1A (Int.toNat t13)) = some (.int .i64 (gI s1 t13)) ∧ w'.cell? (adr s2A (Int.toNat t13)) = some (.int .i64 (gI s2 t13)) ∧ True) [3, 7] 9 (by kernel_rfl) rfl ?_
          intro w55 he56; have hS57 := St.go hS38 he56; clear hS38
          refine d_pure (v := .slice s1A s1.length s1C) 0 rfl hE54 (y_move rfl) rfl (by kernel_rfl) (by kernel_rfl) (by kernel_rfl) rfl rfl (fun _ _ _ h => h) ?_; intro a58 hE59; clear hE54
          refine d_pure (v := .int .i64 t13) 1 rfl hE59 (y_move rfl) rfl (by kernel_rfl) (by kernel_rfl) (by kernel_rfl) rfl rfl (fun _ _ _ h => h) ?_; intro a60 hE61; clear hE59
          refine d_pure (v := .pointer (some (adr s1A (Int.toNat t13)))) 2 rfl hE61 (y_idx (by kernel_rfl) (fun _ => by kernel_rfl) rfl rfl (RdS.isS (m := t13) (St.rdR (i := 1) hS57 rfl) (by omega) (by omega)) (by omega) (by omega) (Nat.mul_one _).symm) rfl (by kernel_rfl) (by kernel_rfl) (by kernel_rfl) rfl rfl (fun _ _ _ h => h) ?_; intro a62 hE63; clear hE61
          refine d_take (v := .int .i64 (gI s1 t13)) 3 rfl hE63 ⟨(RdS.elt (St.rdR (i := 1) hS57 rfl) (by omega) (by omega) _ (Ext.refl _)), (RdS.elt (St.rdR (i := 0) hS57 rfl) (by omega) (by omega) _ (Ext.refl _)), trivial⟩ (y_load (fun _ => by kernel_rfl) rfl (fun _ h => h.1)) rfl rfl (by kernel_rfl) (by kernel_rfl) (by kernel_rfl) rfl rfl (fun _ _ _ h => h) ?_; intro a64 hE65; clear hE63
          refine d_pure (v := .slice s2A s2.length s2C) 4 rfl hE65 (y_move rfl) rfl (by kernel_rfl) (by kernel_rfl) (by kernel_rfl) rfl rfl (fun _ _ _ h => h) ?_; intro a66 hE67; clear hE65
          refine d_pure (v := .int .i64 t13) 5 rfl hE67 (y_move rfl) rfl (by kernel_rfl) (by kernel_rfl) (by kernel_rfl) rfl rfl (fun _ _ _ h => h) ?_; intro a68 hE69; clear hE67
          refine d_pure (v := .pointer (some (adr s2A (Int.toNat t13)))) 6 rfl hE69 (y_idx (by kernel_rfl) (fun _ => by kernel_rfl) rfl rfl (RdS.isS (m := t13) (St.rdR (i := 0) hS57 rfl) (by omega) (by omega)) (by omega) (by omega) (Nat.mul_one _).symm) rfl (by kernel_rfl) (by kernel_rfl) (by kernel_rfl) rfl rfl (fun _ _ _ h => h) ?_; intro a70 hE71; clear hE69
          refine d_take (v := .int .i64 (gI s2 t13)) 7 rfl hE71 ⟨(RdS.elt (St.rdR (i := 1) hS57 rfl) (by omega) (by omega) _ (Ext.refl _)), (RdS.elt (St.rdR (i := 0) hS57 rfl) (by omega) (by omega) _ (Ext.refl _)), trivial⟩ (y_load (fun _ => by kernel_rfl) rfl (fun _ h => h.2.1)) rfl rfl (by kernel_rfl) (by kernel_rfl) (by kernel_rfl) rfl rfl (fun _ _ _ h => h) ?_; intro a72 hE73; clear hE71
          refine d_pure (v := .bool (!decide ((gI s1 t13) = (gI s2 t13)))) 8 rfl hE73 (y_neq rfl rfl) rfl (by kernel_rfl) (by kernel_rfl) (by kernel_rfl) rfl rfl (fun _ _ _ h => h) ?_; intro a74 hE75; clear hE73
          refine d_done (by kernel_rfl) ?_
          have hE76 := hE75.sub (L' := [(0, .slice s1A s1.length s1C), (1, .slice s2A s2.length s2C), (12, .int .i64 (s1.length : Int)), (13, .int .i64 t13), (24, .bool (!decide ((gI s1 t13) = (gI s2 t13))))]) ⟨rfl, rfl, rfl, rfl, rfl, trivial⟩; clear hE75
          refine p_tn ?_
          refine c_cond hE76 rfl (fun ht77 => ?_) (fun ht77 => ?_)
          ·
            have ht78 := bn_t ht77
            have hp79 := of_decide_eq_false ht78
            have hE80 := hE76; rw [ht77] at hE80; clear hE76
            refine c_seq ?_
            refine c_reg ?_
            refine q_step (v := .bool false) hE80 (y_assign rfl) rfl rfl rfl ?_; intro a81 hE82; clear hE80
            refine c_nil ?_
            have hE83 := hE82.sub (L' := [(4, .bool false)]) ⟨rfl, trivial⟩; clear hE82
            refine p_tn ?_
            refine wp_ret ?_
            refine p_br ?_
            refine p_tr ?_
            have hX84 : F_z_Equal_L1 s1 s2 (Int.toNat ((s1.length : Int) - 0) + 1) 0 = .error false := hT39.symm.trans (show F_z_Equal_L1b s1 s2 (F_z_Equal_L1 s1 s2 r43) t13 = .error false by unfold F_z_Equal_L1b; rw [ht77, ht47]; first | done | rfl)
            refine p_tr (p_br (p_tr ?_))
            refine p_tr ?_
            have hF : F_z_Equal s1 s2 = false := by unfold F_z_Equal; rw [hX84, ht17]; first | done | rfl
            refine c_ret1 hE83 rfl rfl ?_
            exact ⟨(by rw [hF]; first | done | rfl), hS57.ext⟩
          ·
            have ht85 := bn_f ht77
            have hp86 := of_decide_eq_true ht85
            have hE87 := hE76; rw [ht77] at hE87; clear hE76
            refine wp_skip ?_
            refine p_bn ?_
            refine p_tn ?_
            refine c_reg ?_
            refine q_step (v := .int .i64 (t13 + 1)) hE87 (y_add rfl rfl ⟨(by omega), (by omega)⟩) rfl rfl rfl ?_; intro a88 hE89; clear hE87
            refine q_step (v := .int .i64 (t13 + 1)) hE89 (y_move rfl) rfl rfl rfl ?_; intro a90 hE91; clear hE89
            refine c_nil ?_
            have hE92 := hE91.sub (L' := [(0, .slice s1A s1.length s1C), (1, .slice s2A s2.length s2C), (12, .int .i64 (s1.length : Int)), (13, .int .i64 (t13 + 1))]) ⟨rfl, rfl, rfl, rfl, trivial⟩; clear hE91
            refine p_tn ⟨r43, Nat.lt_succ_self _, t13 + 1, (hT39.symm.trans (show F_z_Equal_L1b s1 s2 (F_z_Equal_L1 s1 s2 r43) t13 = F_z_Equal_L1 s1 s2 r43 (t13 + 1) by unfold F_z_Equal_L1b; rw [ht77, ht47]; first | done | rfl)).symm, (by omega), (by first | omega | (simp only [List.length_replicate, sI_len]; omega) | (simp only [List.length_append, List.length_cons, List.length_nil, sI_len, cond_true, cond_false]; omega) | (simp only [List.length_append, List.length_cons, List.length_nil, sI_len, cond_eq_ite, apply_ite List.length]; split <;> simp only [List.length_append, List.length_cons, List.length_nil, sI_len] <;> omega) | grind), (by first | omega | (simp only [List.length_replicate, sI_len]; omega) | (simp only [List.length_append, List.length_cons, List.length_nil, sI_len, cond_true, cond_false]; omega) | (simp only [List.length_append, List.length_cons, List.length_nil, sI_len, cond_eq_ite, apply_ite List.length]; split <;> simp only [List.length_append, List.length_cons, List.length_nil, sI_len] <;> omega) | grind), (hE92.sub (L' := [(0, .slice s1A s1.length s1C), (1, .slice s2A s2.length s2C), (12, .int .i64 (s1.length : Int)), (13, .int .i64 (t13 + 1))]) ⟨rfl, rfl, rfl, rfl, trivial⟩), (St.pick (Γ' := [.rd 1 s2A s2.length s2C s2, .rd 1 s1A s1.length s1C s1]) hS57 [0, 1] (by decide) rfl)⟩
        ·
          have hp93 := of_decide_eq_false ht47
          have hE94 := hE46; rw [ht47] at hE94; clear hE46
          refine wp_exit ?_
          refine p_te ?_
          have hX95 : F_z_Equal_L1 s1 s2 (Int.toNat ((s1.length : Int) - 0) + 1) 0 = .ok t13 := hT39.symm.trans (show F_z_Equal_L1b s1 s2 (F_z_Equal_L1 s1 s2 r43) t13 = .ok t13 by unfold F_z_Equal_L1b; rw [ht47]; first | done | rfl)
          refine p_te (p_be (p_tn ?_))
          exact ⟨(by rw [hX95]; rfl), (by rw [hX95]; exact (show 0 ≤ t13 from (by first | omega | (simp only [List.length_replicate, sI_len]; omega) | (simp only [List.length_append, List.length_cons, List.length_nil, sI_len, cond_true, cond_false]; omega) | (simp only [List.length_append, List.length_cons, List.length_nil, sI_len, cond_eq_ite, apply_ite List.length]; split <;> simp only [List.length_append, List.length_cons, List.length_nil, sI_len] <;> omega) | grind))), (by rw [hX95]; exact (show t13 ≤ (s1.length : Int) from (by first | omega | (simp only [List.length_replicate, sI_len]; omega) | (simp only [List.length_append, List.length_cons, List.length_nil, sI_len, cond_true, cond_false]; omega) | (simp only [List.length_append, List.length_cons, List.length_nil, sI_len, cond_eq_ite, apply_ite List.length]; split <;> simp only [List.length_append, List.length_cons, List.length_nil, sI_len] <;> omega) | grind))), (by rw [hX95]; exact (hE94.sub (L' := [(0, .slice s1A s1.length s1C), (1, .slice s2A s2.length s2C), (12, .int .i64 (s1.length : Int)), (13, .int .i64 t13)]) ⟨rfl, rfl, rfl, rfl, trivial⟩)), (St.pick (Γ' := [.rd 1 s2A s2.length s2C s2, .rd 1 s1A s1.length s1C s1]) hS38 [0, 1] (by decide) rfl)⟩
    ·
      rintro a96 w97 ⟨hO100, hi101, hi102, hE98, hS99⟩; clear hE33 hS2
      refine p_tn ?_
      refine c_seq ?_
      refine c_reg ?_
      refine q_step (v := .bool true) hE98 (y_assign rfl) rfl rfl rfl ?_; intro a103 hE104; clear hE98
      refine c_nil ?_
      have hE105 := hE104.sub (L' := [(4, .bool true)]) ⟨rfl, trivial⟩; clear hE104
      refine p_tn ?_
      refine wp_ret ?_
      have hF : F_z_Equal s1 s2 = true := by unfold F_z_Equal; rw [hO100, ht17]; first | done | rfl
      refine c_ret1 hE105 rfl rfl ?_
      exact ⟨(by rw [hF]; first | done | rfl), hS99.ext⟩

def F_l01Same_L1b (ap : List Int) (bp : List Int) (rec : Int → Except (Bool) (Int)) (i5 : Int) : Except (Bool) (Int) :=
  bif (decide (i5 < (ap.length : Int))) then (bif (!decide ((gI ap i5) = (gI bp i5))) then (.error false) else (rec (i5 + 1))) else (.ok i5)
def F_l01Same_L1 (ap : List Int) (bp : List Int) : Nat → Int → Except (Bool) (Int)
  | 0, i5 => .ok i5
  | r + 1, i5 => F_l01Same_L1b ap bp (F_l01Same_L1 ap bp r) i5
def F_l01Same (ap : List Int) (bp : List Int) : Bool :=
  bif (!decide ((ap.length : Int) = (bp.length : Int))) then false else (bif (isOk (F_l01Same_L1 ap bp (Int.toNat ((ap.length : Int) - 0) + 1) 0)) then true else (errD (F_l01Same_L1 ap bp (Int.toNat ((ap.length : Int) - 0) + 1) 0)))
theorem cf_l01Same (args : Array Value) (w : World) : (callFunc 105 args).run Try.prog w = .ok (.enter 105 args) w := by kernel_rfl
set_option maxRecDepth 100000 in
theorem c_l01Same (apA : Option Addr) (apN apC : Nat) (ap : List Int) (bpA : Option Addr) (bpN bpC : Nat) (bp : List Int) (w : World) (apR : RdS w 1 apA apN apC ap) (bpR : RdS w 1 bpA bpN bpC bp) :
    Calls Try.prog 105 #[.slice apA apN apC, .slice bpA bpN bpC] w (Ret fun v w' => v = .bool (F_l01Same ap bp) ∧ Ext w w') := by
  obtain rfl : apN = ap.length := apR.len1.symm
  have apLe := apR.le
  obtain rfl : bpN = bp.length := bpR.len1.symm
  have bpLe := bpR.le
  have hS := St.nil w
  have hS1 := St.rd0 hS rfl apR; clear hS
  have hS2 := St.rd0 hS1 rfl bpR; clear hS1
  refine enter (args := [.slice apA ap.length apC, .slice bpA bp.length bpC]) Try.func105 rfl rfl ?_
  rw [Try.ntmps105]; intro a hE
  have hE := hE.sub (L' := [(0, .slice apA ap.length apC), (1, .slice bpA bp.length bpC)]) ⟨rfl, rfl, trivial⟩
  refine c_seq ?_
  refine c_reg ?_
  refine q_step (v := .bool false) hE (y_assign rfl) rfl rfl rfl ?_; intro a3 hE4; clear hE
  refine c_nil ?_
  have hE5 := hE4.sub (L' := [(0, .slice apA ap.length apC), (1, .slice bpA bp.length bpC)]) ⟨rfl, rfl, trivial⟩; clear hE4
  refine p_tn ?_
  refine c_seq ?_
  refine c_seq ?_
  refine c_reg ?_
  refine q_step (v := .slice apA ap.length apC) hE5 (y_move rfl) rfl rfl rfl ?_; intro a6 hE7; clear hE5
  refine q_step (v := .int .i64 (ap.length : Int)) hE7 (y_len (e := 2) (by kernel_rfl) rfl) rfl rfl rfl ?_; intro a8 hE9; clear hE7
  refine q_step (v := .slice bpA bp.length bpC) hE9 (y_move rfl) rfl rfl rfl ?_; intro a10 hE11; clear hE9
  refine q_step (v := .int .i64 (bp.length : Int)) hE11 (y_len (e := 2) (by kernel_rfl) rfl) rfl rfl rfl ?_; intro a12 hE13; clear hE11
  refine q_step (v := .bool (!decide ((ap.length : Int) = (bp.length : Int)))) hE13 (y_neq rfl rfl) rfl rfl rfl ?_; intro a14 hE15; clear hE13
  refine c_nil ?_
  have hE16 := hE15.sub (L' := [(0, .slice apA ap.length apC), (1, .slice bpA bp.length bpC), (10, .bool (!decide ((ap.length : Int) = (bp.length : Int))))]) ⟨rfl, rfl, rfl, trivial⟩; clear hE15
  refine p_tn ?_
  refine c_cond hE16 rfl (fun ht17 => ?_) (fun ht17 => ?_)
  ·
    have ht18 := bn_t ht17
    have hp19 := of_decide_eq_false ht18
    have hE20 := hE16; rw [ht17] at hE20; clear hE16
    refine c_seq ?_
    refine c_reg ?_
    refine q_step (v := .bool false) hE20 (y_assign rfl) rfl rfl rfl ?_; intro a21 hE22; clear hE20
    refine c_nil ?_
    have hE23 := hE22.sub (L' := [(4, .bool false)]) ⟨rfl, trivial⟩; clear hE22
    refine p_tn ?_
    refine wp_ret ?_
    refine p_tr ?_
    have hF : F_l01Same ap bp = false := by unfold F_l01Same; rw [ht17]; first | done | rfl
    refine c_ret1 hE23 rfl rfl ?_
    exact ⟨(by rw [hF]; first | done | rfl), hS2.ext⟩
  ·
    have ht24 := bn_f ht17
    have hp25 := of_decide_eq_true ht24
    have hE26 := hE16; rw [ht17] at hE26; clear hE16
    refine wp_skip ?_
    refine p_tn ?_
    refine c_seq ?_
    refine c_seq ?_
    refine c_reg ?_
    refine q_step (v := .int .i64 0) hE26 (y_assign rfl) rfl rfl rfl ?_; intro a27 hE28; clear hE26
    refine c_nil ?_
    have hE29 := hE28.sub (L' := [(0, .slice apA ap.length apC), (1, .slice bpA bp.length bpC), (5, .int .i64 0)]) ⟨rfl, rfl, rfl, trivial⟩; clear hE28
    refine p_tn ?_
    refine c_cut1 (fun a' w' => isOk (F_l01Same_L1 ap bp (Int.toNat ((ap.length : Int) - 0) + 1) 0) = true ∧ (0 ≤ (okD (F_l01Same_L1 ap bp (Int.toNat ((ap.length : Int) - 0) + 1) 0))) ∧ ((okD (F_l01Same_L1 ap bp (Int.toNat ((ap.length : Int) - 0) + 1) 0)) ≤ (ap.length : Int)) ∧ E a' 26 [(0, .slice apA ap.length apC), (1, .slice bpA bp.length bpC), (5, .int .i64 (okD (F_l01Same_L1 ap bp (Int.toNat ((ap.length : Int) - 0) + 1) 0)))] ∧ St w w' [.rd 1 bpA bp.length bpC bp, .rd 1 apA ap.length apC ap]) ?_ ?_
    ·
      refine wp_block ?_
      refine c_loop (fun r a' w' => ∃ i5 : Int, F_l01Same_L1 ap bp r i5 = F_l01Same_L1 ap bp (Int.toNat ((ap.length : Int) - 0) + 1) 0 ∧ Int.toNat ((ap.length : Int) - i5) < r ∧ (0 ≤ i5) ∧ (i5 ≤ (ap.length : Int)) ∧ E a' 26 [(0, .slice apA ap.length apC), (1, .slice bpA bp.length bpC), (5, .int .i64 i5)] ∧ St w w' [.rd 1 bpA bp.length bpC bp, .rd 1 apA ap.length apC ap]) (r := (Int.toNat ((ap.length : Int) - 0) + 1)) ?_ ?_
      · exact ⟨0, rfl, Nat.lt_succ_self _, (by first | omega | (simp only [List.length_replicate, sI_len]; omega) | (simp only [List.length_append, List.length_cons, List.length_nil, sI_len, cond_true, cond_false]; omega) | (simp only [List.length_append, List.length_cons, List.length_nil, sI_len, cond_eq_ite, apply_ite List.length]; split <;> simp only [List.length_append, List.length_cons, List.length_nil, sI_len] <;> omega) | grind), (by first | omega | (simp only [List.length_replicate, sI_len]; omega) | (simp only [List.length_append, List.length_cons, List.length_nil, sI_len, cond_true, cond_false]; omega) | (simp only [List.length_append, List.length_cons, List.length_nil, sI_len, cond_eq_ite, apply_ite List.length]; split <;> simp only [List.length_append, List.length_cons, List.length_nil, sI_len] <;> omega) | grind), (hE29.sub (L' := [(0, .slice apA ap.length apC), (1, .slice bpA bp.length bpC), (5, .int .i64 0)]) ⟨rfl, rfl, rfl, trivial⟩), (St.pick (Γ' := [.rd 1 bpA bp.length bpC bp, .rd 1 apA ap.length apC ap]) hS2 [0, 1] (by decide) rfl)⟩
      ·
        clear hE29 hS2
        rintro r39 a31 w32 ⟨i5, hT35, hr36, hi37, hi38, hE33, hS34⟩
        obtain ⟨r39, rfl⟩ : ∃ r', r39 = r' + 1 := ⟨r39 - 1, by omega⟩
        refine c_seq ?_
        refine c_seq ?_
        refine c_reg ?_
        refine q_step (v := .int .i64 i5) hE33 (y_move rfl) rfl rfl rfl ?_; intro a40 hE41; clear hE33
        refine q_step (v := .slice apA ap.length apC) hE41 (y_move rfl) rfl rfl rfl ?_; intro a42 hE43; clear hE41
        refine q_step (v := .int .i64 (ap.length : Int)) hE43 (y_len (e := 2) (by kernel_rfl) rfl) rfl rfl rfl ?_; intro a44 hE45; clear hE43
        refine q_step (v := .bool (decide (i5 < (ap.length : Int)))) hE45 (y_lss rfl rfl) rfl rfl rfl ?_; intro a46 hE47; clear hE45
        refine c_nil ?_
        have hE48 := hE47.sub (L' := [(0, .slice apA ap.length apC), (1, .slice bpA bp.length bpC), (5, .int .i64 i5), (14, .bool (decide (i5 < (ap.length : Int))))]) ⟨rfl, rfl, rfl, rfl, trivial⟩; clear hE47
        refine p_tn ?_
        refine c_cond hE48 rfl (fun ht49 => ?_) (fun ht49 => ?_)
        ·
          have hp50 := of_decide_eq_true ht49
          have hE51 := hE48; rw [ht49] at hE51; clear hE48
          refine wp_skip ?_
          refine p_tn ?_
          refine c_seq ?_
          refine wp_block ?_
          refine c_seq ?_
          refine d_start (fun w' => w'.cell? (adr apA (Int.toNat i5)) = some (.int .i64 (gI ap i5)) ∧ w'.cell? (adr bpA (Int.toNat i5)) = some (.int .i64 (gI bp i5)) ∧ True) [3, 7] 9 (by kernel_rfl) rfl ?_
          intro w52 he53; have hS54 := St.go hS34 he53; clear hS34
          refine d_pure (v := .slice apA ap.length apC) 0 rfl hE51 (y_move rfl) rfl (by kernel_rfl) (by kernel_rfl) (by kernel_rfl) rfl rfl (fun _ _ _ h => h) ?_; intro a55 hE56; clear hE51
          refine d_pure (v := .int .i64 i5) 1 rfl hE56 (y_move rfl) rfl (by kernel_rfl) (by kernel_rfl) (by kernel_rfl) rfl rfl (fun _ _ _ h => h) ?_; intro a57 hE58; clear hE56
          refine d_pure (v := .pointer (some (adr apA (Int.toNat i5)))) 2 rfl hE58 (y_idx (by kernel_rfl) (fun _ => by kernel_rfl) rfl rfl (RdS.isS (m := i5) (St.rdR (i := 1) hS54 rfl) (by omega) (by omega)) (by omega) (by omega) (Nat.mul_one _).symm) rfl (by kernel_rfl) (by kernel_rfl) (by kernel_rfl) rfl rfl (fun _ _ _ h => h) ?_; intro a59 hE60; clear hE58
          refine d_take (v := .int .i64 (gI ap i5)) 3 rfl hE60 ⟨(RdS.elt (St.rdR (i := 1) hS54 rfl) (by omega) (by omega) _ (Ext.refl _)), (RdS.elt (St.rdR (i := 0) hS54 rfl) (by omega) (by omega) _ (Ext.refl _)), trivial⟩ (y_load (fun _ => by kernel_rfl) rfl (fun _ h => h.1)) rfl rfl (by kernel_rfl) (by kernel_rfl) (by kernel_rfl) rfl rfl (fun _ _ _ h => h) ?_; intro a61 hE62; clear hE60
          refine d_pure (v := .slice bpA bp.length bpC) 4 rfl hE62 (y_move rfl) rfl (by kernel_rfl) (by kernel_rfl) (by kernel_rfl) rfl rfl (fun _ _ _ h => h) ?_; intro a63 hE64; clear hE62
          refine d_pure (v := .int .i64 i5) 5 rfl hE64 (y_move rfl) rfl (by kernel_rfl) (by kernel_rfl) (by kernel_rfl) rfl rfl (fun _ _ _ h => h) ?_; intro a65 hE66; clear hE64
          refine d_pure (v := .pointer (some (adr bpA (Int.toNat i5)))) 6 rfl hE66 (y_idx (by kernel_rfl) (fun _ => by kernel_rfl) rfl rfl (RdS.isS (m := i5) (St.rdR (i := 0) hS54 rfl) (by omega) (by omega)) (by omega) (by omega) (Nat.mul_one _).symm) rfl (by kernel_rfl) (by kernel_rfl) (by kernel_rfl) rfl rfl (fun _ _ _ h => h) ?_; intro a67 hE68; clear hE66
          refine d_take (v := .int .i64 (gI bp i5)) 7 rfl hE68 ⟨(RdS.elt (St.rdR (i := 1) hS54 rfl) (by omega) (by omega) _ (Ext.refl _)), (RdS.elt (St.rdR (i := 0) hS54 rfl) (by omega) (by omega) _ (Ext.refl _)), trivial⟩ (y_load (fun _ => by kernel_rfl) rfl (fun _ h => h.2.1)) rfl rfl (by kernel_rfl) (by kernel_rfl) (by kernel_rfl) rfl rfl (fun _ _ _ h => h) ?_; intro a69 hE70; clear hE68
          refine d_pure (v := .bool (!decide ((gI ap i5) = (gI bp i5)))) 8 rfl hE70 (y_neq rfl rfl) rfl (by kernel_rfl) (by kernel_rfl) (by kernel_rfl) rfl rfl (fun _ _ _ h => h) ?_; intro a71 hE72; clear hE70
          refine d_done (by kernel_rfl) ?_
          have hE73 := hE72.sub (L' := [(0, .slice apA ap.length apC), (1, .slice bpA bp.length bpC), (5, .int .i64 i5), (25, .bool (!decide ((gI ap i5) = (gI bp i5))))]) ⟨rfl, rfl, rfl, rfl, trivial⟩; clear hE72
          refine p_tn ?_
          refine c_cond hE73 rfl (fun ht74 => ?_) (fun ht74 => ?_)
          ·
            have ht75 := bn_t ht74
            have hp76 := of_decide_eq_false ht75
            have hE77 := hE73; rw [ht74] at hE77; clear hE73
            refine c_seq ?_
            refine c_reg ?_
            refine q_step (v := .bool false) hE77 (y_assign rfl) rfl rfl rfl ?_; intro a78 hE79; clear hE77
            refine c_nil ?_
            have hE80 := hE79.sub (L' := [(4, .bool false)]) ⟨rfl, trivial⟩; clear hE79
            refine p_tn ?_
            refine wp_ret ?_
            refine p_br ?_
            refine p_tr ?_
            have hX81 : F_l01Same_L1 ap bp (Int.toNat ((ap.length : Int) - 0) + 1) 0 = .error false := hT35.symm.trans (show F_l01Same_L1b ap bp (F_l01Same_L1 ap bp r39) i5 = .error false by unfold F_l01Same_L1b; rw [ht74, ht49]; first | done | rfl)
            refine p_tr (p_br (p_tr ?_))
            refine p_tr ?_
            have hF : F_l01Same ap bp = false := by unfold F_l01Same; rw [hX81, ht17]; first | done | rfl
            refine c_ret1 hE80 rfl rfl ?_
            exact ⟨(by rw [hF]; first | done | rfl), hS54.ext⟩
          ·
            have ht82 := bn_f ht74
            have hp83 := of_decide_eq_true ht82
            have hE84 := hE73; rw [ht74] at hE84; clear hE73
            refine wp_skip ?_
            refine p_bn ?_
            refine p_tn ?_
            refine c_reg ?_
            refine q_step (v := .int .i64 i5) hE84 (y_move rfl) rfl rfl rfl ?_; intro a85 hE86; clear hE84
            refine q_step (v := .int .i64 (i5 + 1)) hE86 (y_add rfl rfl ⟨(by omega), (by omega)⟩) rfl rfl rfl ?_; intro a87 hE88; clear hE86
            refine q_step (v := .int .i64 (i5 + 1)) hE88 (y_assign rfl) rfl rfl rfl ?_; intro a89 hE90; clear hE88
            refine c_nil ?_
            have hE91 := hE90.sub (L' := [(0, .slice apA ap.length apC), (1, .slice bpA bp.length bpC), (5, .int .i64 (i5 + 1))]) ⟨rfl, rfl, rfl, trivial⟩; clear hE90
            refine p_tn ⟨r39, Nat.lt_succ_self _, i5 + 1, (hT35.symm.trans (show F_l01Same_L1b ap bp (F_l01Same_L1 ap bp r39) i5 = F_l01Same_L1 ap bp r39 (i5 + 1) by unfold F_l01Same_L1b; rw [ht74, ht49]; first | done | rfl)).symm, (by omega), (by first | omega | (simp only [List.length_replicate, sI_len]; omega) | (simp only [List.length_append, List.length_cons, List.length_nil, sI_len, cond_true, cond_false]; omega) | (simp only [List.length_append, List.length_cons, List.length_nil, sI_len, cond_eq_ite, apply_ite List.length]; split <;> simp only [List.length_append, List.length_cons, List.length_nil, sI_len] <;> omega) | grind), (by first | omega | (simp only [List.length_replicate, sI_len]; omega) | (simp only [List.length_append, List.length_cons, List.length_nil, sI_len, cond_true, cond_false]; omega) | (simp only [List.length_append, List.length_cons, List.length_nil, sI_len, cond_eq_ite, apply_ite List.length]; split <;> simp only [List.length_append, List.length_cons, List.length_nil, sI_len] <;> omega) | grind), (hE91.sub (L' := [(0, .slice apA ap.length apC), (1, .slice bpA bp.length bpC), (5, .int .i64 (i5 + 1))]) ⟨rfl, rfl, rfl, trivial⟩), (St.pick (Γ' := [.rd 1 bpA bp.length bpC bp, .rd 1 apA ap.length apC ap]) hS54 [0, 1] (by decide) rfl)⟩
        ·
          have hp92 := of_decide_eq_false ht49
          have hE93 := hE48; rw [ht49] at hE93; clear hE48
          refine wp_exit ?_
          refine p_te ?_
          have hX94 : F_l01Same_L1 ap bp (Int.toNat ((ap.length : Int) - 0) + 1) 0 = .ok i5 := hT35.symm.trans (show F_l01Same_L1b ap bp (F_l01Same_L1 ap bp r39) i5 = .ok i5 by unfold F_l01Same_L1b; rw [ht49]; first | done | rfl)
          refine p_te (p_be (p_tn ?_))
          exact ⟨(by rw [hX94]; rfl), (by rw [hX94]; exact (show 0 ≤ i5 from (by first | omega | (simp only [List.length_replicate, sI_len]; omega) | (simp only [List.length_append, List.length_cons, List.length_nil, sI_len, cond_true, cond_false]; omega) | (simp only [List.length_append, List.length_cons, List.length_nil, sI_len, cond_eq_ite, apply_ite List.length]; split <;> simp only [List.length_append, List.length_cons, List.length_nil, sI_len] <;> omega) | grind))), (by rw [hX94]; exact (show i5 ≤ (ap.length : Int) from (by first | omega | (simp only [List.length_replicate, sI_len]; omega) | (simp only [List.length_append, List.length_cons, List.length_nil, sI_len, cond_true, cond_false]; omega) | (simp only [List.length_append, List.length_cons, List.length_nil, sI_len, cond_eq_ite, apply_ite List.length]; split <;> simp only [List.length_append, List.length_cons, List.length_nil, sI_len] <;> omega) | grind))), (by rw [hX94]; exact (hE93.sub (L' := [(0, .slice apA ap.length apC), (1, .slice bpA bp.length bpC), (5, .int .i64 i5)]) ⟨rfl, rfl, rfl, trivial⟩)), (St.pick (Γ' := [.rd 1 bpA bp.length bpC bp, .rd 1 apA ap.length apC ap]) hS34 [0, 1] (by decide) rfl)⟩
    ·
      rintro a95 w96 ⟨hO99, hi100, hi101, hE97, hS98⟩; clear hE29 hS2
      refine p_tn ?_
      refine c_seq ?_
      refine c_reg ?_
      refine q_step (v := .bool true) hE97 (y_assign rfl) rfl rfl rfl ?_; intro a102 hE103; clear hE97
      refine c_nil ?_
      have hE104 := hE103.sub (L' := [(4, .bool true)]) ⟨rfl, trivial⟩; clear hE103
      refine p_tn ?_
      refine wp_ret ?_
      have hF : F_l01Same ap bp = true := by unfold F_l01Same; rw [hO99, ht17]; first | done | rfl
      refine c_ret1 hE104 rfl rfl ?_
      exact ⟨(by rw [hF]; first | done | rfl), hS98.ext⟩

theorem l01Same_eq (a b : List Int) : F_l01Same a b = decide (a = b) := eq_of_loop a b (F_l01Same_L1 a b) (fun _ _ => rfl)
theorem z_Equal_eq (a b : List Int) : F_z_Equal a b = decide (a = b) := eq_of_loop a b (F_z_Equal_L1 a b) (fun _ _ => rfl)


def F_s_GreatestSimulation_L1b (mp0 : Int) (np0 : Int) (rec : (List Int) → Int → (List Int) × Int) (link7 : List Int) (x8 : Int) : (List Int) × Int :=
  bif (decide (x8 < mp0)) then (rec (link7 ++ ([fullI np0])) (x8 + 1)) else (link7, x8)
def F_s_GreatestSimulation_L1 (mp0 : Int) (np0 : Int) : Nat → (List Int) → Int → (List Int) × Int
  | 0, link7, x8 => (link7, x8)
  | r + 1, link7, x8 => F_s_GreatestSimulation_L1b mp0 np0 (F_s_GreatestSimulation_L1 mp0 np0 r) link7 x8
def F_s_GreatestSimulation_L3b (mp0 : Int) (mp1 : List Int) (mp2 : List Int) (np0 : Int) (np1 : List Int) (np2 : List Int) (link7L2 : List Int) (rec : Int → (List Int) → Int × (List Int)) (x10L3 : Int) (next9L3 : List Int) : Int × (List Int) :=
  bif (decide (x10L3 < ((F_l07Below mp0 mp1 mp2 np0 np1 np2 link7L2).length : Int))) then (rec (x10L3 + 1) (sI next9L3 x10L3 (andI (gI next9L3 x10L3) (gI link7L2 x10L3)))) else (x10L3, next9L3)
def F_s_GreatestSimulation_L3 (mp0 : Int) (mp1 : List Int) (mp2 : List Int) (np0 : Int) (np1 : List Int) (np2 : List Int) (link7L2 : List Int) : Nat → Int → (List Int) → Int × (List Int)
  | 0, x10L3, next9L3 => (x10L3, next9L3)
  | r + 1, x10L3, next9L3 => F_s_GreatestSimulation_L3b mp0 mp1 mp2 np0 np1 np2 link7L2 (F_s_GreatestSimulation_L3 mp0 mp1 mp2 np0 np1 np2 link7L2 r) x10L3 next9L3
def F_s_GreatestSimulation_L2b (mp0 : Int) (mp1 : List Int) (mp2 : List Int) (np0 : Int) (np1 : List Int) (np2 : List Int) (rec : (List Int) → Except ((List Int) × (Int)) ((List Int))) (link7L2 : List Int) : Except ((List Int) × (Int)) ((List Int)) :=
  bif (F_l01Same ((F_s_GreatestSimulation_L3 mp0 mp1 mp2 np0 np1 np2 link7L2 (Int.toNat (((F_l07Below mp0 mp1 mp2 np0 np1 np2 link7L2).length : Int) - 0) + 1) 0 (F_l07Below mp0 mp1 mp2 np0 np1 np2 link7L2)).2) link7L2) then (.error (link7L2, 0)) else (rec ((F_s_GreatestSimulation_L3 mp0 mp1 mp2 np0 np1 np2 link7L2 (Int.toNat (((F_l07Below mp0 mp1 mp2 np0 np1 np2 link7L2).length : Int) - 0) + 1) 0 (F_l07Below mp0 mp1 mp2 np0 np1 np2 link7L2)).2))
def F_s_GreatestSimulation_L2 (mp0 : Int) (mp1 : List Int) (mp2 : List Int) (np0 : Int) (np1 : List Int) (np2 : List Int) : Nat → (List Int) → Except ((List Int) × (Int)) ((List Int))
  | 0, link7L2 => .ok link7L2
  | r + 1, link7L2 => F_s_GreatestSimulation_L2b mp0 mp1 mp2 np0 np1 np2 (F_s_GreatestSimulation_L2 mp0 mp1 mp2 np0 np1 np2 r) link7L2
def F_s_GreatestSimulation (mp0 : Int) (mp1 : List Int) (mp2 : List Int) (np0 : Int) (np1 : List Int) (np2 : List Int) : (List Int) × (Int) :=
  bif (!decide ((F_l07Two mp0 mp1 mp2 np0 np1 np2) = 0)) then ([], F_l07Two mp0 mp1 mp2 np0 np1 np2) else (errD (F_s_GreatestSimulation_L2 mp0 mp1 mp2 np0 np1 np2 (sumN ((F_s_GreatestSimulation_L1 mp0 np0 (Int.toNat (mp0 - 0) + 1) ([]) 0).1) + 1) ((F_s_GreatestSimulation_L1 mp0 np0 (Int.toNat (mp0 - 0) + 1) ([]) 0).1)))
theorem cf_s_GreatestSimulation (args : Array Value) (w : World) : (callFunc 50 args).run Try.prog w = .ok (.enter 50 args) w := by kernel_rfl
theorem GSs_next {mp0 np0 : Int} {mp1 mp2 np1 np2 : List Int} (hm : 0 ≤ mp0 ∧ mp0 ≤ 8) (hn : 0 ≤ np0 ∧ np0 ≤ 8) {link : List Int} (hl : (link.length : Int) = mp0) (hk : LkI mp0 np0 link) : (((F_s_GreatestSimulation_L3 mp0 mp1 mp2 np0 np1 np2 link (Int.toNat (((F_l07Below mp0 mp1 mp2 np0 np1 np2 link).length : Int) - 0) + 1) 0 (F_l07Below mp0 mp1 mp2 np0 np1 np2 link)).2).length : Int) = mp0 ∧ ∀ x : Nat, (x : Int) < mp0 → gI ((F_s_GreatestSimulation_L3 mp0 mp1 mp2 np0 np1 np2 link (Int.toNat (((F_l07Below mp0 mp1 mp2 np0 np1 np2 link).length : Int) - 0) + 1) 0 (F_l07Below mp0 mp1 mp2 np0 np1 np2 link)).2) (x : Int) = andI (gI (F_l07Below mp0 mp1 mp2 np0 np1 np2 link) (x : Int)) (gI link (x : Int)) := by
  have hb : ((F_l07Below mp0 mp1 mp2 np0 np1 np2 link).length : Int) = mp0 := by rw [l07Below_len]; omega
  rw [hb]
  exact mapLoop mp0 (fun t o => andI o (gI link t)) (F_s_GreatestSimulation_L3 mp0 mp1 mp2 np0 np1 np2 link) (fun r t xs h0 h1 => by
    show F_s_GreatestSimulation_L3b mp0 mp1 mp2 np0 np1 np2 link _ t xs = _
    unfold F_s_GreatestSimulation_L3b
    rw [hb]) (F_l07Below mp0 mp1 mp2 np0 np1 np2 link) hb
theorem below_bits {mp0 np0 : Int} {mp1 mp2 np1 np2 : List Int} (hm : 0 ≤ mp0 ∧ mp0 ≤ 8) (hn : 0 ≤ np0 ∧ np0 ≤ 8) (link : List Int) (x : Nat) (hx : (x : Int) < mp0) : Mk np0.toNat (gI (F_l07Below mp0 mp1 mp2 np0 np1 np2 link) (x : Int)) ∧ ∀ y, tb (gI (F_l07Below mp0 mp1 mp2 np0 np1 np2 link) (x : Int)) y = (decide (y < np0.toNat) && goodB mp1 mp2 np1 np2 link x y) := by
  rw [l07Below_map _ _ _ _ _ _ _ hm.1, gI_map (by omega), l07Below_row hn.1]
  exact pow_fold (n := np0.toNat) (by omega) (goodB mp1 mp2 np1 np2 link x)
theorem GSs_bits {mp0 np0 : Int} {mp1 mp2 np1 np2 : List Int} (hm : 0 ≤ mp0 ∧ mp0 ≤ 8) (hn : 0 ≤ np0 ∧ np0 ≤ 8) {link : List Int} (hl : (link.length : Int) = mp0) (hk : LkI mp0 np0 link) : LkI mp0 np0 ((F_s_GreatestSimulation_L3 mp0 mp1 mp2 np0 np1 np2 link (Int.toNat (((F_l07Below mp0 mp1 mp2 np0 np1 np2 link).length : Int) - 0) + 1) 0 (F_l07Below mp0 mp1 mp2 np0 np1 np2 link)).2) ∧ ∀ x y : Nat, (x : Int) < mp0 → rb ((F_s_GreatestSimulation_L3 mp0 mp1 mp2 np0 np1 np2 link (Int.toNat (((F_l07Below mp0 mp1 mp2 np0 np1 np2 link).length : Int) - 0) + 1) 0 (F_l07Below mp0 mp1 mp2 np0 np1 np2 link)).2) x y = (goodB mp1 mp2 np1 np2 link x y && rb link x y) := by
  have h := (GSs_next (mp1 := mp1) (mp2 := mp2) (np1 := np1) (np2 := np2) hm hn hl hk).2
  refine ⟨fun x hx => ?_, fun x y hx => ?_⟩
  · rw [h x hx]
    exact (Mk.and (n := np0.toNat) (by omega) (below_bits hm hn link x hx).1 (hk x hx)).1
  · unfold rb
    rw [h x hx, (Mk.and (n := np0.toNat) (by omega) (below_bits hm hn link x hx).1 (hk x hx)).2.1 y, (below_bits hm hn link x hx).2 y]
    cases e : tb (gI link (x : Int)) y
    · rw [Bool.and_false, Bool.and_false]
    · rw [decide_eq_true (tb_lt (hk x hx) e), Bool.true_and]
theorem GSs_step {mp0 np0 : Int} {mp1 mp2 np1 np2 : List Int} (hm : 0 ≤ mp0 ∧ mp0 ≤ 8) (hn : 0 ≤ np0 ∧ np0 ≤ 8) {link : List Int} (hl : (link.length : Int) = mp0) (hk : LkI mp0 np0 link) : (((F_s_GreatestSimulation_L3 mp0 mp1 mp2 np0 np1 np2 link (Int.toNat (((F_l07Below mp0 mp1 mp2 np0 np1 np2 link).length : Int) - 0) + 1) 0 (F_l07Below mp0 mp1 mp2 np0 np1 np2 link)).2).length : Int) = mp0 ∧ LkI mp0 np0 ((F_s_GreatestSimulation_L3 mp0 mp1 mp2 np0 np1 np2 link (Int.toNat (((F_l07Below mp0 mp1 mp2 np0 np1 np2 link).length : Int) - 0) + 1) 0 (F_l07Below mp0 mp1 mp2 np0 np1 np2 link)).2) ∧ (F_l01Same ((F_s_GreatestSimulation_L3 mp0 mp1 mp2 np0 np1 np2 link (Int.toNat (((F_l07Below mp0 mp1 mp2 np0 np1 np2 link).length : Int) - 0) + 1) 0 (F_l07Below mp0 mp1 mp2 np0 np1 np2 link)).2) link = false → sumN ((F_s_GreatestSimulation_L3 mp0 mp1 mp2 np0 np1 np2 link (Int.toNat (((F_l07Below mp0 mp1 mp2 np0 np1 np2 link).length : Int) - 0) + 1) 0 (F_l07Below mp0 mp1 mp2 np0 np1 np2 link)).2) < sumN link) := by
  obtain ⟨h1, h2⟩ := GSs_next (mp1 := mp1) (mp2 := mp2) (np1 := np1) (np2 := np2) hm hn hl hk
  have h3 := (GSs_bits (mp1 := mp1) (mp2 := mp2) (np1 := np1) (np2 := np2) hm hn hl hk).1
  refine ⟨h1, h3, fun h => sumN_lt (by omega) (fun j hj => ⟨(h3 j (by omega)).1, ?_⟩) fun e => ?_⟩
  · rw [h2 j (by omega)]
    exact (Mk.and (n := np0.toNat) (by omega) (below_bits hm hn link j (by omega)).1 (hk j (by omega))).2.2
  · rw [l01Same_eq, decide_eq_true e] at h; cases h
theorem GSs_start {mp0 np0 : Int} (hm : 0 ≤ mp0 ∧ mp0 ≤ 8) (hn : 0 ≤ np0 ∧ np0 ≤ 8) : ((F_s_GreatestSimulation_L1 mp0 np0 (Int.toNat (mp0 - 0) + 1) ([]) 0).1.length : Int) = mp0 ∧ LkI mp0 np0 (F_s_GreatestSimulation_L1 mp0 np0 (Int.toNat (mp0 - 0) + 1) ([]) 0).1 ∧ ∀ x y : Nat, (x : Int) < mp0 → (y : Int) < np0 → rb (F_s_GreatestSimulation_L1 mp0 np0 (Int.toNat (mp0 - 0) + 1) ([]) 0).1 x y = true := by
  rw [mapLoop0 mp0 hm.1 (fun _ => fullI np0) (F_s_GreatestSimulation_L1 mp0 np0) (fun _ _ _ => rfl)]
  have hf := fullI_bd (n := np0) (by omega) (by omega)
  refine ⟨by simp; omega, fun x hx => ?_, fun x y hx hy => ?_⟩
  · rw [gI_map (by omega)]; exact ⟨hf.1, by rw [show ((np0.toNat : Nat) : Int) = np0 by omega]; exact Int.le_refl _⟩
  · unfold rb
    rw [gI_map (by omega)]
    unfold tb fullI
    have : ((2 : Int) ^ np0.toNat) = ((2 ^ np0.toNat : Nat) : Int) := by norm_cast
    rw [this, show ((((2 ^ np0.toNat : Nat) : Int) - 1).toNat) = 2 ^ np0.toNat - 1 by omega, Nat.testBit_two_pow_sub_one, decide_eq_true_iff]
    omega
set_option maxRecDepth 100000 in
theorem c_s_GreatestSimulation (mp0 : Int) (mp1A : Option Addr) (mp1N mp1C : Nat) (mp1 : List Int) (mp2A : Option Addr) (mp2N mp2C : Nat) (mp2 : List Int) (np0 : Int) (np1A : Option Addr) (np1N np1C : Nat) (np1 : List Int) (np2A : Option Addr) (np2N np2C : Nat) (np2 : List Int) (w : World) (mp1R : RdS w 1 mp1A mp1N mp1C mp1) (mp2R : RdS w 1 mp2A mp2N mp2C mp2) (np1R : RdS w 1 np1A np1N np1C np1) (np2R : RdS w 1 np2A np2N np2C np2) :
    Calls Try.prog 50 #[.agg #[.int .i64 mp0, .slice mp1A mp1N mp1C, .slice mp2A mp2N mp2C], .agg #[.int .i64 np0, .slice np1A np1N np1C, .slice np2A np2N np2C]] w (Ret fun v w' => ∃ b1 : Option Addr, ∃ c1 : Nat, v = .tuple #[.slice b1 ((F_s_GreatestSimulation mp0 mp1 mp2 np0 np1 np2).1).length c1, .int .i64 ((F_s_GreatestSimulation mp0 mp1 mp2 np0 np1 np2).2)] ∧ OwnS w' w.heap.size 2 1 b1 ((F_s_GreatestSimulation mp0 mp1 mp2 np0 np1 np2).1).length c1 ((F_s_GreatestSimulation mp0 mp1 mp2 np0 np1 np2).1) ∧ Ext w w') := by
  obtain rfl : mp1N = mp1.length := mp1R.len1.symm
  have mp1Le := mp1R.le
  obtain rfl : mp2N = mp2.length := mp2R.len1.symm
  have mp2Le := mp2R.le
  obtain rfl : np1N = np1.length := np1R.len1.symm
  have np1Le := np1R.le
  obtain rfl : np2N = np2.length := np2R.len1.symm
  have np2Le := np2R.le
  have hS := St.nil w
  have hS1 := St.rd0 hS rfl mp1R; clear hS
  have hS2 := St.rd0 hS1 rfl mp2R; clear hS1
  have hS3 := St.rd0 hS2 rfl np1R; clear hS2
  have hS4 := St.rd0 hS3 rfl np2R; clear hS3
  refine enter (args := [.agg #[.int .i64 mp0, .slice mp1A mp1.length mp1C, .slice mp2A mp2.length mp2C], .agg #[.int .i64 np0, .slice np1A np1.length np1C, .slice np2A np2.length np2C]]) Try.func50 rfl rfl ?_
  rw [Try.ntmps50]; intro a hE
  have hE := hE.sub (L' := [(0, .agg #[.int .i64 mp0, .slice mp1A mp1.length mp1C, .slice mp2A mp2.length mp2C]), (1, .agg #[.int .i64 np0, .slice np1A np1.length np1C, .slice np2A np2.length np2C])]) ⟨rfl, rfl, trivial⟩
  refine c_seq ?_
  refine c_reg ?_
  refine l_step hE rfl (l_box (v := .agg #[.int .i64 mp0, .slice mp1A mp1.length mp1C, .slice mp2A mp2.length mp2C]) (cs := #[.int .i64 mp0, .slice mp1A mp1.length mp1C, .slice mp2A mp2.length mp2C]) hS4 hE rfl rfl rfl ?_)
  intro b5 w6 hS9 he10 a7 hE8; clear hS4 hE
  refine l_step hE8 rfl (l_box (v := .agg #[.int .i64 np0, .slice np1A np1.length np1C, .slice np2A np2.length np2C]) (cs := #[.int .i64 np0, .slice np1A np1.length np1C, .slice np2A np2.length np2C]) hS9 hE8 rfl rfl rfl ?_)
  intro b11 w12 hS15 he16 a13 hE14; clear hS9 hE8
  refine q_step (v := .slice none 0 0) hE14 (y_assign rfl) rfl rfl rfl ?_; intro a17 hE18; clear hE14
  refine q_step (v := .int .i64 0) hE18 (y_assign rfl) rfl rfl rfl ?_; intro a19 hE20; clear hE18
  refine c_nil ?_
  have hE21 := hE20.sub (L' := [(2, .pointer (some ⟨b5, 0, none⟩)), (3, .pointer (some ⟨b11, 0, none⟩))]) ⟨rfl, rfl, trivial⟩; clear hE20
  refine p_tn ?_
  refine c_seq ?_
  refine c_seq ?_
  refine c_reg ?_
  refine q_step (v := .agg #[.int .i64 mp0, .slice mp1A mp1.length mp1C, .slice mp2A mp2.length mp2C]) hE21 (y_loadS Try.underlying38 rfl (by kernel_rfl) rfl (St.row (i := 1) hS15 rfl)) rfl rfl rfl ?_; intro a22 hE23; clear hE21
  refine q_step (v := .agg #[.int .i64 np0, .slice np1A np1.length np1C, .slice np2A np2.length np2C]) hE23 (y_loadS Try.underlying38 rfl (by kernel_rfl) rfl (St.row (i := 0) hS15 rfl)) rfl rfl rfl ?_; intro a24 hE25; clear hE23
  refine l_step hE25 rfl (l_call (f := 103) (argv := [.agg #[.int .i64 mp0, .slice mp1A mp1.length mp1C, .slice mp2A mp2.length mp2C], .agg #[.int .i64 np0, .slice np1A np1.length np1C, .slice np2A np2.length np2C]]) hE25 (fun _ => cf_l07Two _ _) rfl rfl (c_l07Two mp0 mp1A mp1.length mp1C mp1 mp2A mp2.length mp2C mp2 np0 np1A np1.length np1C np1 np2A np2.length np2C np2 w12 (St.rdR (i := 5) hS15 rfl) (St.rdR (i := 4) hS15 rfl) (St.rdR (i := 3) hS15 rfl) (St.rdR (i := 2) hS15 rfl)) ?_)
  rintro _ w27 ⟨rfl, he31⟩ a28 hE29; clear hE25
  have hS30 := St.go hS15 he31; clear hS15
  refine q_step (v := .int .i64 (F_l07Two mp0 mp1 mp2 np0 np1 np2)) hE29 (y_assign rfl) rfl rfl rfl ?_; intro a32 hE33; clear hE29
  refine c_nil ?_
  have hE34 := hE33.sub (L' := [(2, .pointer (some ⟨b5, 0, none⟩)), (3, .pointer (some ⟨b11, 0, none⟩)), (6, .int .i64 (F_l07Two mp0 mp1 mp2 np0 np1 np2))]) ⟨rfl, rfl, rfl, trivial⟩; clear hE33
  refine p_tn ?_
  refine c_seq ?_
  refine c_reg ?_
  refine q_step (v := .int .i64 (F_l07Two mp0 mp1 mp2 np0 np1 np2)) hE34 (y_move rfl) rfl rfl rfl ?_; intro a35 hE36; clear hE34
  refine q_step (v := .bool (!decide ((F_l07Two mp0 mp1 mp2 np0 np1 np2) = 0))) hE36 (y_neq rfl rfl) rfl rfl rfl ?_; intro a37 hE38; clear hE36
  refine c_nil ?_
  have hE39 := hE38.sub (L' := [(2, .pointer (some ⟨b5, 0, none⟩)), (3, .pointer (some ⟨b11, 0, none⟩)), (6, .int .i64 (F_l07Two mp0 mp1 mp2 np0 np1 np2)), (15, .bool (!decide ((F_l07Two mp0 mp1 mp2 np0 np1 np2) = 0)))]) ⟨rfl, rfl, rfl, rfl, trivial⟩; clear hE38
  refine p_tn ?_
  refine c_cond hE39 rfl (fun ht40 => ?_) (fun ht40 => ?_)
  ·
    have ht41 := bn_t ht40
    have hp42 := of_decide_eq_false ht41
    have hE43 := hE39; rw [ht40] at hE43; clear hE39
    refine c_seq ?_
    refine c_reg ?_
    refine q_step (v := .int .i64 (F_l07Two mp0 mp1 mp2 np0 np1 np2)) hE43 (y_move rfl) rfl rfl rfl ?_; intro a44 hE45; clear hE43
    refine q_step (v := .slice none 0 0) hE45 (y_assign rfl) rfl rfl rfl ?_; intro a46 hE47; clear hE45
    refine q_step (v := .int .i64 (F_l07Two mp0 mp1 mp2 np0 np1 np2)) hE47 (y_assign rfl) rfl rfl rfl ?_; intro a48 hE49; clear hE47
    refine c_nil ?_
    have hE50 := hE49.sub (L' := [(4, .slice none 0 0), (5, .int .i64 (F_l07Two mp0 mp1 mp2 np0 np1 np2))]) ⟨rfl, rfl, trivial⟩; clear hE49
    refine p_tn ?_
    refine wp_ret ?_
    refine p_tr ?_
    have hF : F_s_GreatestSimulation mp0 mp1 mp2 np0 np1 np2 = ([], F_l07Two mp0 mp1 mp2 np0 np1 np2) := by unfold F_s_GreatestSimulation; rw [ht40]; first | done | rfl
    refine c_ret2 hE50 rfl rfl rfl ?_
    exact ⟨none, 0, (by rw [hF]; first | done | rfl), (by rw [hF]; exact OwnS.nilS _ _ _ _), hS30.ext⟩
  ·
    have ht51 := bn_f ht40
    have hp52 := of_decide_eq_true ht51
    have hq53 := l07Two_t hp52
    have hE54 := hE39; rw [ht40] at hE54; clear hE39
    refine wp_skip ?_
    refine p_tn ?_
    refine c_seq ?_
    refine c_reg ?_
    refine l_step hE54 rfl (l_lit (e := 2) (s := 1) (xs := []) (vs := []) hS30 hE54 rfl (fun _ => by kernel_rfl) rfl rfl rfl ?_)
    intro b55 w56 hS59 he60 a57 hE58; clear hS30 hE54
    refine q_step (v := .slice (some ⟨b55, 0, none⟩) 0 0) hE58 (y_assign rfl) rfl rfl rfl ?_; intro a61 hE62; clear hE58
    refine c_nil ?_
    have hE63 := hE62.sub (L' := [(2, .pointer (some ⟨b5, 0, none⟩)), (3, .pointer (some ⟨b11, 0, none⟩)), (7, .slice (some ⟨b55, 0, none⟩) 0 0)]) ⟨rfl, rfl, rfl, trivial⟩; clear hE62
    refine p_tn ?_
    refine c_seq ?_
    refine c_seq ?_
    refine c_reg ?_
    refine q_step (v := .int .i64 0) hE63 (y_assign rfl) rfl rfl rfl ?_; intro a64 hE65; clear hE63
    refine c_nil ?_
    have hE66 := hE65.sub (L' := [(2, .pointer (some ⟨b5, 0, none⟩)), (3, .pointer (some ⟨b11, 0, none⟩)), (7, .slice (some ⟨b55, 0, none⟩) 0 0), (8, .int .i64 0)]) ⟨rfl, rfl, rfl, rfl, trivial⟩; clear hE65
    refine p_tn ?_
    refine c_cut1 (fun a' w' => ∃ link7A_67 : Option Addr, ∃ link7C_67 : Nat, (0 ≤ ((F_s_GreatestSimulation_L1 mp0 np0 (Int.toNat (mp0 - 0) + 1) ([]) 0).2)) ∧ ((((F_s_GreatestSimulation_L1 mp0 np0 (Int.toNat (mp0 - 0) + 1) ([]) 0).1).length : Int) ≤ ((F_s_GreatestSimulation_L1 mp0 np0 (Int.toNat (mp0 - 0) + 1) ([]) 0).2)) ∧ E a' 59 [(2, .pointer (some ⟨b5, 0, none⟩)), (3, .pointer (some ⟨b11, 0, none⟩)), (7, .slice link7A_67 (((F_s_GreatestSimulation_L1 mp0 np0 (Int.toNat (mp0 - 0) + 1) ([]) 0).1).length) link7C_67), (8, .int .i64 ((F_s_GreatestSimulation_L1 mp0 np0 (Int.toNat (mp0 - 0) + 1) ([]) 0).2))] ∧ St w w' [.own 2 1 link7A_67 (((F_s_GreatestSimulation_L1 mp0 np0 (Int.toNat (mp0 - 0) + 1) ([]) 0).1).length) link7C_67 ((F_s_GreatestSimulation_L1 mp0 np0 (Int.toNat (mp0 - 0) + 1) ([]) 0).1), .blk b11 #[.int .i64 np0, .slice np1A np1.length np1C, .slice np2A np2.length np2C] 38, .blk b5 #[.int .i64 mp0, .slice mp1A mp1.length mp1C, .slice mp2A mp2.length mp2C] 38, .rd 1 np2A np2.length np2C np2, .rd 1 np1A np1.length np1C np1, .rd 1 mp2A mp2.length mp2C mp2, .rd 1 mp1A mp1.length mp1C mp1]) ?_ ?_
    ·
      refine wp_block ?_
      refine c_loop (fun r a' w' => ∃ link7 : List Int, ∃ x8 : Int, ∃ link7A : Option Addr, ∃ link7C : Nat, F_s_GreatestSimulation_L1 mp0 np0 r link7 x8 = F_s_GreatestSimulation_L1 mp0 np0 (Int.toNat (mp0 - 0) + 1) ([]) 0 ∧ Int.toNat (mp0 - x8) < r ∧ (0 ≤ x8) ∧ ((link7.length : Int) ≤ x8) ∧ E a' 59 [(2, .pointer (some ⟨b5, 0, none⟩)), (3, .pointer (some ⟨b11, 0, none⟩)), (7, .slice link7A ((link7).length) link7C), (8, .int .i64 x8)] ∧ St w w' [.own 2 1 link7A ((link7).length) link7C link7, .blk b11 #[.int .i64 np0, .slice np1A np1.length np1C, .slice np2A np2.length np2C] 38, .blk b5 #[.int .i64 mp0, .slice mp1A mp1.length mp1C, .slice mp2A mp2.length mp2C] 38, .rd 1 np2A np2.length np2C np2, .rd 1 np1A np1.length np1C np1, .rd 1 mp2A mp2.length mp2C mp2, .rd 1 mp1A mp1.length mp1C mp1]) (r := (Int.toNat (mp0 - 0) + 1)) ?_ ?_
      · exact ⟨[], 0, some ⟨b55, 0, none⟩, 0, rfl, Nat.lt_succ_self _, (by first | omega | (simp only [List.length_replicate, sI_len]; omega) | (simp only [List.length_append, List.length_cons, List.length_nil, sI_len, cond_true, cond_false]; omega) | (simp only [List.length_append, List.length_cons, List.length_nil, sI_len, cond_eq_ite, apply_ite List.length]; split <;> simp only [List.length_append, List.length_cons, List.length_nil, sI_len] <;> omega) | grind), (by first | omega | (simp only [List.length_replicate, sI_len]; omega) | (simp only [List.length_append, List.length_cons, List.length_nil, sI_len, cond_true, cond_false]; omega) | (simp only [List.length_append, List.length_cons, List.length_nil, sI_len, cond_eq_ite, apply_ite List.length]; split <;> simp only [List.length_append, List.length_cons, List.length_nil, sI_len] <;> omega) | grind), (by rw [(St.rdO (i := 0) hS59 rfl).len1]; exact (hE66.sub (L' := [(2, .pointer (some ⟨b5, 0, none⟩)), (3, .pointer (some ⟨b11, 0, none⟩)), (7, .slice (some ⟨b55, 0, none⟩) 0 0), (8, .int .i64 0)]) ⟨rfl, rfl, rfl, rfl, trivial⟩)), (by rw [(St.rdO (i := 0) hS59 rfl).len1]; exact (St.pick (Γ' := [.own 2 1 (some ⟨b55, 0, none⟩) 0 0 ([]), .blk b11 #[.int .i64 np0, .slice np1A np1.length np1C, .slice np2A np2.length np2C] 38, .blk b5 #[.int .i64 mp0, .slice mp1A mp1.length mp1C, .slice mp2A mp2.length mp2C] 38, .rd 1 np2A np2.length np2C np2, .rd 1 np1A np1.length np1C np1, .rd 1 mp2A mp2.length mp2C mp2, .rd 1 mp1A mp1.length mp1C mp1]) hS59 [0, 1, 2, 3, 4, 5, 6] (by decide) rfl))⟩
      ·
        clear hE66 hS59
        rintro r76 a68 w69 ⟨link7, x8, link7A, link7C, hT72, hr73, hi74, hi75, hE70, hS71⟩
        obtain ⟨r76, rfl⟩ : ∃ r', r76 = r' + 1 := ⟨r76 - 1, by omega⟩
        refine c_seq ?_
        refine c_seq ?_
        refine c_reg ?_
        refine q_step (v := .int .i64 x8) hE70 (y_move rfl) rfl rfl rfl ?_; intro a77 hE78; clear hE70
        refine q_step (v := .pointer (some ⟨b5, 0, none⟩)) hE78 (y_field rfl (fun _ => by kernel_rfl)) rfl rfl rfl ?_; intro a79 hE80; clear hE78
        refine q_step (v := .pointer (some ⟨b5, 0, none⟩)) hE80 (y_field rfl (fun _ => by kernel_rfl)) rfl rfl rfl ?_; intro a81 hE82; clear hE80
        refine q_step (v := .int .i64 mp0) hE82 (y_load (fun _ => by kernel_rfl) rfl (St.cell (i := 2) hS71 rfl rfl)) rfl rfl rfl ?_; intro a83 hE84; clear hE82
        refine q_step (v := .bool (decide (x8 < mp0))) hE84 (y_lss rfl rfl) rfl rfl rfl ?_; intro a85 hE86; clear hE84
        refine c_nil ?_
        have hE87 := hE86.sub (L' := [(2, .pointer (some ⟨b5, 0, none⟩)), (3, .pointer (some ⟨b11, 0, none⟩)), (7, .slice link7A ((link7).length) link7C), (8, .int .i64 x8), (22, .bool (decide (x8 < mp0)))]) ⟨rfl, rfl, rfl, rfl, rfl, trivial⟩; clear hE86
        refine p_tn ?_
        refine c_cond hE87 rfl (fun ht88 => ?_) (fun ht88 => ?_)
        ·
          have hp89 := of_decide_eq_true ht88
          have hE90 := hE87; rw [ht88] at hE90; clear hE87
          refine wp_skip ?_
          refine p_tn ?_
          refine c_seq ?_
          refine wp_block ?_
          refine c_reg ?_
          refine q_step (v := .slice link7A ((link7).length) link7C) hE90 (y_move rfl) rfl rfl rfl ?_; intro a91 hE92; clear hE90
          refine q_step (v := .pointer (some ⟨b11, 0, none⟩)) hE92 (y_field rfl (fun _ => by kernel_rfl)) rfl rfl rfl ?_; intro a93 hE94; clear hE92
          refine q_step (v := .pointer (some ⟨b11, 0, none⟩)) hE94 (y_field rfl (fun _ => by kernel_rfl)) rfl rfl rfl ?_; intro a95 hE96; clear hE94
          refine q_step (v := .int .i64 np0) hE96 (y_load (fun _ => by kernel_rfl) rfl (St.cell (i := 1) hS71 rfl rfl)) rfl rfl rfl ?_; intro a97 hE98; clear hE96
          refine l_step hE98 rfl (l_call (f := 78) (argv := [.int .i64 np0]) hE98 (fun _ => cf_l01Full _ _) rfl rfl (d_l01Full np0 w69 (by omega) (by omega)) ?_)
          rintro _ _ ⟨rfl, rfl⟩ a101 hE102; clear hE98
          refine l_step hE102 rfl (l_lit (e := 2) (s := 1) (xs := [fullI np0]) (vs := [.int .i64 (fullI np0)]) hS71 hE102 rfl (fun _ => by kernel_rfl) rfl rfl rfl ?_)
          intro b105 w106 hS109 he110 a107 hE108; clear hS71 hE102
          obtain ⟨_, hi1, hi2, hi3, hi4⟩ := info_parts (show (Try.prog.info? 2).map (fun i => (i.zero, i.size, i.bytes)) = some (some (.int .i64 0), 1, 8) by kernel_rfl)
          refine l_step hE108 rfl (l_append (k := 1) (n' := (link7 ++ ([fullI np0])).length) hS109 hE108 (by kernel_rfl) hi1 hi2 hi3 rfl (by decide) (by rw [hi4]; decide) rfl rfl rfl (St.rdO (i := 0) hS109 rfl) (by first | omega | (simp only [List.length_append, List.length_cons, List.length_nil]; omega)) (by have h1 := (St.rdO (i := 1) hS109 rfl).len1; have h2 := (St.rdO (i := 0) hS109 rfl).len1; rw [List.length_append, h1, h2]) rfl ?_)
          intro b111 c117 w112 hS115 a113 hE114; clear hS109 hE108 hi1 hi2 hi3 hi4
          refine q_step (v := .slice b111 ((link7 ++ ([fullI np0])).length) c117) hE114 (y_assign rfl) rfl rfl rfl ?_; intro a118 hE119; clear hE114
          refine c_nil ?_
          have hE120 := hE119.sub (L' := [(2, .pointer (some ⟨b5, 0, none⟩)), (3, .pointer (some ⟨b11, 0, none⟩)), (7, .slice b111 ((link7 ++ ([fullI np0])).length) c117), (8, .int .i64 x8)]) ⟨rfl, rfl, rfl, rfl, trivial⟩; clear hE119
          refine p_bn ?_
          refine p_tn ?_
          refine c_reg ?_
          refine q_step (v := .int .i64 x8) hE120 (y_move rfl) rfl rfl rfl ?_; intro a121 hE122; clear hE120
          refine q_step (v := .int .i64 (x8 + 1)) hE122 (y_add rfl rfl ⟨(by omega), (by omega)⟩) rfl rfl rfl ?_; intro a123 hE124; clear hE122
          refine q_step (v := .int .i64 (x8 + 1)) hE124 (y_assign rfl) rfl rfl rfl ?_; intro a125 hE126; clear hE124
          refine c_nil ?_
          have hE127 := hE126.sub (L' := [(2, .pointer (some ⟨b5, 0, none⟩)), (3, .pointer (some ⟨b11, 0, none⟩)), (7, .slice b111 ((link7 ++ ([fullI np0])).length) c117), (8, .int .i64 (x8 + 1))]) ⟨rfl, rfl, rfl, rfl, trivial⟩; clear hE126
          refine p_tn ⟨r76, Nat.lt_succ_self _, link7 ++ ([fullI np0]), x8 + 1, b111, c117, (hT72.symm.trans (show F_s_GreatestSimulation_L1b mp0 np0 (F_s_GreatestSimulation_L1 mp0 np0 r76) link7 x8 = F_s_GreatestSimulation_L1 mp0 np0 r76 (link7 ++ ([fullI np0])) (x8 + 1) by unfold F_s_GreatestSimulation_L1b; rw [ht88]; first | done | rfl)).symm, (by omega), (by first | omega | (simp only [List.length_replicate, sI_len]; omega) | (simp only [List.length_append, List.length_cons, List.length_nil, sI_len, cond_true, cond_false]; omega) | (simp only [List.length_append, List.length_cons, List.length_nil, sI_len, cond_eq_ite, apply_ite List.length]; split <;> simp only [List.length_append, List.length_cons, List.length_nil, sI_len] <;> omega) | grind), (by first | omega | (simp only [List.length_replicate, sI_len]; omega) | (simp only [List.length_append, List.length_cons, List.length_nil, sI_len, cond_true, cond_false]; omega) | (simp only [List.length_append, List.length_cons, List.length_nil, sI_len, cond_eq_ite, apply_ite List.length]; split <;> simp only [List.length_append, List.length_cons, List.length_nil, sI_len] <;> omega) | grind), (hE127.sub (L' := [(2, .pointer (some ⟨b5, 0, none⟩)), (3, .pointer (some ⟨b11, 0, none⟩)), (7, .slice b111 ((link7 ++ ([fullI np0])).length) c117), (8, .int .i64 (x8 + 1))]) ⟨rfl, rfl, rfl, rfl, trivial⟩), (St.pick (Γ' := [.own 2 1 b111 ((link7 ++ ([fullI np0])).length) c117 (link7 ++ ([fullI np0])), .blk b11 #[.int .i64 np0, .slice np1A np1.length np1C, .slice np2A np2.length np2C] 38, .blk b5 #[.int .i64 mp0, .slice mp1A mp1.length mp1C, .slice mp2A mp2.length mp2C] 38, .rd 1 np2A np2.length np2C np2, .rd 1 np1A np1.length np1C np1, .rd 1 mp2A mp2.length mp2C mp2, .rd 1 mp1A mp1.length mp1C mp1]) hS115 [1, 2, 3, 4, 5, 6, 7] (by decide) rfl)⟩
        ·
          have hp128 := of_decide_eq_false ht88
          have hE129 := hE87; rw [ht88] at hE129; clear hE87
          refine wp_exit ?_
          refine p_te ?_
          have hX130 : F_s_GreatestSimulation_L1 mp0 np0 (Int.toNat (mp0 - 0) + 1) ([]) 0 = (link7, x8) := hT72.symm.trans (show F_s_GreatestSimulation_L1b mp0 np0 (F_s_GreatestSimulation_L1 mp0 np0 r76) link7 x8 = (link7, x8) by unfold F_s_GreatestSimulation_L1b; rw [ht88]; first | done | rfl)
          refine p_te (p_be (p_tn ?_))
          exact ⟨link7A, link7C, (by rw [hX130]; exact (show 0 ≤ x8 from (by first | omega | (simp only [List.length_replicate, sI_len]; omega) | (simp only [List.length_append, List.length_cons, List.length_nil, sI_len, cond_true, cond_false]; omega) | (simp only [List.length_append, List.length_cons, List.length_nil, sI_len, cond_eq_ite, apply_ite List.length]; split <;> simp only [List.length_append, List.length_cons, List.length_nil, sI_len] <;> omega) | grind))), (by rw [hX130]; exact (show (link7.length : Int) ≤ x8 from (by first | omega | (simp only [List.length_replicate, sI_len]; omega) | (simp only [List.length_append, List.length_cons, List.length_nil, sI_len, cond_true, cond_false]; omega) | (simp only [List.length_append, List.length_cons, List.length_nil, sI_len, cond_eq_ite, apply_ite List.length]; split <;> simp only [List.length_append, List.length_cons, List.length_nil, sI_len] <;> omega) | grind))), (by rw [hX130]; exact (hE129.sub (L' := [(2, .pointer (some ⟨b5, 0, none⟩)), (3, .pointer (some ⟨b11, 0, none⟩)), (7, .slice link7A ((link7).length) link7C), (8, .int .i64 x8)]) ⟨rfl, rfl, rfl, rfl, trivial⟩)), (by rw [hX130]; exact (St.pick (Γ' := [.own 2 1 link7A ((link7).length) link7C link7, .blk b11 #[.int .i64 np0, .slice np1A np1.length np1C, .slice np2A np2.length np2C] 38, .blk b5 #[.int .i64 mp0, .slice mp1A mp1.length mp1C, .slice mp2A mp2.length mp2C] 38, .rd 1 np2A np2.length np2C np2, .rd 1 np1A np1.length np1C np1, .rd 1 mp2A mp2.length mp2C mp2, .rd 1 mp1A mp1.length mp1C mp1]) hS71 [0, 1, 2, 3, 4, 5, 6] (by decide) rfl))⟩
    ·
      rintro a131 w132 ⟨link7A_67, link7C_67, hi136, hi137, hE133, hS134⟩; clear hE66 hS59
      have hst0 := GSs_start (mp0 := mp0) (np0 := np0) (by omega) (by omega)
      refine p_tn ?_
      refine c_cut1 (fun a' w' => False) ?_ ?_
      ·
        refine wp_block ?_
        refine c_loop (fun r a' w' => ∃ link7L2 : List Int, ∃ link7L2A : Option Addr, ∃ link7L2C : Nat, F_s_GreatestSimulation_L2 mp0 mp1 mp2 np0 np1 np2 r link7L2 = F_s_GreatestSimulation_L2 mp0 mp1 mp2 np0 np1 np2 (sumN ((F_s_GreatestSimulation_L1 mp0 np0 (Int.toNat (mp0 - 0) + 1) ([]) 0).1) + 1) ((F_s_GreatestSimulation_L1 mp0 np0 (Int.toNat (mp0 - 0) + 1) ([]) 0).1) ∧ sumN link7L2 < r ∧ ((link7L2.length : Int) = mp0) ∧ (LkI mp0 np0 link7L2) ∧ E a' 59 [(2, .pointer (some ⟨b5, 0, none⟩)), (3, .pointer (some ⟨b11, 0, none⟩)), (7, .slice link7L2A ((link7L2).length) link7L2C)] ∧ St w w' [.own 2 1 link7L2A ((link7L2).length) link7L2C link7L2, .blk b11 #[.int .i64 np0, .slice np1A np1.length np1C, .slice np2A np2.length np2C] 38, .blk b5 #[.int .i64 mp0, .slice mp1A mp1.length mp1C, .slice mp2A mp2.length mp2C] 38, .rd 1 np2A np2.length np2C np2, .rd 1 np1A np1.length np1C np1, .rd 1 mp2A mp2.length mp2C mp2, .rd 1 mp1A mp1.length mp1C mp1]) (r := (sumN ((F_s_GreatestSimulation_L1 mp0 np0 (Int.toNat (mp0 - 0) + 1) ([]) 0).1) + 1)) ?_ ?_
        · exact ⟨(F_s_GreatestSimulation_L1 mp0 np0 (Int.toNat (mp0 - 0) + 1) ([]) 0).1, link7A_67, link7C_67, rfl, Nat.lt_succ_self _, hst0.1, hst0.2.1, (hE133.sub (L' := [(2, .pointer (some ⟨b5, 0, none⟩)), (3, .pointer (some ⟨b11, 0, none⟩)), (7, .slice link7A_67 (((F_s_GreatestSimulation_L1 mp0 np0 (Int.toNat (mp0 - 0) + 1) ([]) 0).1).length) link7C_67)]) ⟨rfl, rfl, rfl, trivial⟩), (St.pick (Γ' := [.own 2 1 link7A_67 (((F_s_GreatestSimulation_L1 mp0 np0 (Int.toNat (mp0 - 0) + 1) ([]) 0).1).length) link7C_67 ((F_s_GreatestSimulation_L1 mp0 np0 (Int.toNat (mp0 - 0) + 1) ([]) 0).1), .blk b11 #[.int .i64 np0, .slice np1A np1.length np1C, .slice np2A np2.length np2C] 38, .blk b5 #[.int .i64 mp0, .slice mp1A mp1.length mp1C, .slice mp2A mp2.length mp2C] 38, .rd 1 np2A np2.length np2C np2, .rd 1 np1A np1.length np1C np1, .rd 1 mp2A mp2.length mp2C mp2, .rd 1 mp1A mp1.length mp1C mp1]) hS134 [0, 1, 2, 3, 4, 5, 6] (by decide) rfl)⟩
        ·
          clear hE133 hS134
          rintro r147 a139 w140 ⟨link7L2, link7L2A, link7L2C, hT143, hr144, hi145, hi146, hE141, hS142⟩
          obtain ⟨r147, rfl⟩ : ∃ r', r147 = r' + 1 := ⟨r147 - 1, by omega⟩
          have hst := GSs_step (mp1 := mp1) (mp2 := mp2) (np1 := np1) (np2 := np2) (mp0 := mp0) (np0 := np0) (link := link7L2) (by omega) (by omega) (by omega) (by assumption)
          refine wp_block ?_
          refine c_seq ?_
          refine c_reg ?_
          refine q_step (v := .agg #[.int .i64 mp0, .slice mp1A mp1.length mp1C, .slice mp2A mp2.length mp2C]) hE141 (y_loadS Try.underlying38 rfl (by kernel_rfl) rfl (St.row (i := 2) hS142 rfl)) rfl rfl rfl ?_; intro a148 hE149; clear hE141
          refine q_step (v := .agg #[.int .i64 np0, .slice np1A np1.length np1C, .slice np2A np2.length np2C]) hE149 (y_loadS Try.underlying38 rfl (by kernel_rfl) rfl (St.row (i := 1) hS142 rfl)) rfl rfl rfl ?_; intro a150 hE151; clear hE149
          refine q_step (v := .slice link7L2A ((link7L2).length) link7L2C) hE151 (y_move rfl) rfl rfl rfl ?_; intro a152 hE153; clear hE151
          refine l_step hE153 rfl (l_call (f := 104) (argv := [.agg #[.int .i64 mp0, .slice mp1A mp1.length mp1C, .slice mp2A mp2.length mp2C], .agg #[.int .i64 np0, .slice np1A np1.length np1C, .slice np2A np2.length np2C], .slice link7L2A ((link7L2).length) link7L2C]) hE153 (fun _ => cf_l07Below _ _) rfl rfl (c_l07Below mp0 mp1A mp1.length mp1C mp1 mp2A mp2.length mp2C mp2 np0 np1A np1.length np1C np1 np2A np2.length np2C np2 link7L2A ((link7L2).length) link7L2C link7L2 w140 (St.rdR (i := 6) hS142 rfl) (St.rdR (i := 5) hS142 rfl) (St.rdR (i := 4) hS142 rfl) (St.rdR (i := 3) hS142 rfl) (St.rdO (i := 0) hS142 rfl) (by omega) (by omega) (by omega) (by omega) (by omega) (by omega) (by omega)) ?_)
          rintro _ w155 ⟨b160, c161, rfl, ho162, he159⟩ a156 hE157; clear hE153
          have hf163 := l07Below_len mp0 mp1 mp2 np0 np1 np2 link7L2
          have hS158 := St.own hS142 he159 ho162; clear hS142
          refine q_step (v := .slice b160 ((F_l07Below mp0 mp1 mp2 np0 np1 np2 link7L2).length) c161) hE157 (y_assign rfl) rfl rfl rfl ?_; intro a164 hE165; clear hE157
          refine c_nil ?_
          have hE166 := hE165.sub (L' := [(2, .pointer (some ⟨b5, 0, none⟩)), (3, .pointer (some ⟨b11, 0, none⟩)), (7, .slice link7L2A ((link7L2).length) link7L2C), (9, .slice b160 ((F_l07Below mp0 mp1 mp2 np0 np1 np2 link7L2).length) c161)]) ⟨rfl, rfl, rfl, rfl, trivial⟩; clear hE165
          refine p_tn ?_
          refine c_seq ?_
          refine c_seq ?_
          refine c_reg ?_
          refine q_step (v := .int .i64 0) hE166 (y_assign rfl) rfl rfl rfl ?_; intro a167 hE168; clear hE166
          refine c_nil ?_
          have hE169 := hE168.sub (L' := [(2, .pointer (some ⟨b5, 0, none⟩)), (3, .pointer (some ⟨b11, 0, none⟩)), (7, .slice link7L2A ((link7L2).length) link7L2C), (9, .slice b160 ((F_l07Below mp0 mp1 mp2 np0 np1 np2 link7L2).length) c161), (10, .int .i64 0)]) ⟨rfl, rfl, rfl, rfl, rfl, trivial⟩; clear hE168
          refine p_tn ?_
          refine c_cut1 (fun a' w' => (0 ≤ ((F_s_GreatestSimulation_L3 mp0 mp1 mp2 np0 np1 np2 link7L2 (Int.toNat (((F_l07Below mp0 mp1 mp2 np0 np1 np2 link7L2).length : Int) - 0) + 1) 0 (F_l07Below mp0 mp1 mp2 np0 np1 np2 link7L2)).1)) ∧ ((((F_s_GreatestSimulation_L3 mp0 mp1 mp2 np0 np1 np2 link7L2 (Int.toNat (((F_l07Below mp0 mp1 mp2 np0 np1 np2 link7L2).length : Int) - 0) + 1) 0 (F_l07Below mp0 mp1 mp2 np0 np1 np2 link7L2)).2).length : Int) = mp0) ∧ (((F_s_GreatestSimulation_L3 mp0 mp1 mp2 np0 np1 np2 link7L2 (Int.toNat (((F_l07Below mp0 mp1 mp2 np0 np1 np2 link7L2).length : Int) - 0) + 1) 0 (F_l07Below mp0 mp1 mp2 np0 np1 np2 link7L2)).1) ≤ ((F_l07Below mp0 mp1 mp2 np0 np1 np2 link7L2).length : Int)) ∧ E a' 59 [(2, .pointer (some ⟨b5, 0, none⟩)), (3, .pointer (some ⟨b11, 0, none⟩)), (7, .slice link7L2A ((link7L2).length) link7L2C), (9, .slice b160 ((F_l07Below mp0 mp1 mp2 np0 np1 np2 link7L2).length) c161), (10, .int .i64 ((F_s_GreatestSimulation_L3 mp0 mp1 mp2 np0 np1 np2 link7L2 (Int.toNat (((F_l07Below mp0 mp1 mp2 np0 np1 np2 link7L2).length : Int) - 0) + 1) 0 (F_l07Below mp0 mp1 mp2 np0 np1 np2 link7L2)).1))] ∧ St w w' [.own 2 1 b160 ((F_l07Below mp0 mp1 mp2 np0 np1 np2 link7L2).length) c161 ((F_s_GreatestSimulation_L3 mp0 mp1 mp2 np0 np1 np2 link7L2 (Int.toNat (((F_l07Below mp0 mp1 mp2 np0 np1 np2 link7L2).length : Int) - 0) + 1) 0 (F_l07Below mp0 mp1 mp2 np0 np1 np2 link7L2)).2), .own 2 1 link7L2A ((link7L2).length) link7L2C link7L2, .blk b11 #[.int .i64 np0, .slice np1A np1.length np1C, .slice np2A np2.length np2C] 38, .blk b5 #[.int .i64 mp0, .slice mp1A mp1.length mp1C, .slice mp2A mp2.length mp2C] 38, .rd 1 np2A np2.length np2C np2, .rd 1 np1A np1.length np1C np1, .rd 1 mp2A mp2.length mp2C mp2, .rd 1 mp1A mp1.length mp1C mp1]) ?_ ?_
          ·
            refine wp_block ?_
            refine c_loop (fun r a' w' => ∃ x10L3 : Int, ∃ next9L3 : List Int, F_s_GreatestSimulation_L3 mp0 mp1 mp2 np0 np1 np2 link7L2 r x10L3 next9L3 = F_s_GreatestSimulation_L3 mp0 mp1 mp2 np0 np1 np2 link7L2 (Int.toNat (((F_l07Below mp0 mp1 mp2 np0 np1 np2 link7L2).length : Int) - 0) + 1) 0 (F_l07Below mp0 mp1 mp2 np0 np1 np2 link7L2) ∧ Int.toNat (((F_l07Below mp0 mp1 mp2 np0 np1 np2 link7L2).length : Int) - x10L3) < r ∧ (0 ≤ x10L3) ∧ ((next9L3.length : Int) = mp0) ∧ (x10L3 ≤ ((F_l07Below mp0 mp1 mp2 np0 np1 np2 link7L2).length : Int)) ∧ E a' 59 [(2, .pointer (some ⟨b5, 0, none⟩)), (3, .pointer (some ⟨b11, 0, none⟩)), (7, .slice link7L2A ((link7L2).length) link7L2C), (9, .slice b160 ((F_l07Below mp0 mp1 mp2 np0 np1 np2 link7L2).length) c161), (10, .int .i64 x10L3)] ∧ St w w' [.own 2 1 b160 ((F_l07Below mp0 mp1 mp2 np0 np1 np2 link7L2).length) c161 next9L3, .own 2 1 link7L2A ((link7L2).length) link7L2C link7L2, .blk b11 #[.int .i64 np0, .slice np1A np1.length np1C, .slice np2A np2.length np2C] 38, .blk b5 #[.int .i64 mp0, .slice mp1A mp1.length mp1C, .slice mp2A mp2.length mp2C] 38, .rd 1 np2A np2.length np2C np2, .rd 1 np1A np1.length np1C np1, .rd 1 mp2A mp2.length mp2C mp2, .rd 1 mp1A mp1.length mp1C mp1]) (r := (Int.toNat (((F_l07Below mp0 mp1 mp2 np0 np1 np2 link7L2).length : Int) - 0) + 1)) ?_ ?_
            · exact ⟨0, F_l07Below mp0 mp1 mp2 np0 np1 np2 link7L2, rfl, Nat.lt_succ_self _, (by first | omega | (simp only [List.length_replicate, sI_len]; omega) | (simp only [List.length_append, List.length_cons, List.length_nil, sI_len, cond_true, cond_false]; omega) | (simp only [List.length_append, List.length_cons, List.length_nil, sI_len, cond_eq_ite, apply_ite List.length]; split <;> simp only [List.length_append, List.length_cons, List.length_nil, sI_len] <;> omega) | grind), (by first | omega | (simp only [List.length_replicate, sI_len]; omega) | (simp only [List.length_append, List.length_cons, List.length_nil, sI_len, cond_true, cond_false]; omega) | (simp only [List.length_append, List.length_cons, List.length_nil, sI_len, cond_eq_ite, apply_ite List.length]; split <;> simp only [List.length_append, List.length_cons, List.length_nil, sI_len] <;> omega) | grind), (by first | omega | (simp only [List.length_replicate, sI_len]; omega) | (simp only [List.length_append, List.length_cons, List.length_nil, sI_len, cond_true, cond_false]; omega) | (simp only [List.length_append, List.length_cons, List.length_nil, sI_len, cond_eq_ite, apply_ite List.length]; split <;> simp only [List.length_append, List.length_cons, List.length_nil, sI_len] <;> omega) | grind), (hE169.sub (L' := [(2, .pointer (some ⟨b5, 0, none⟩)), (3, .pointer (some ⟨b11, 0, none⟩)), (7, .slice link7L2A ((link7L2).length) link7L2C), (9, .slice b160 ((F_l07Below mp0 mp1 mp2 np0 np1 np2 link7L2).length) c161), (10, .int .i64 0)]) ⟨rfl, rfl, rfl, rfl, rfl, trivial⟩), (St.pick (Γ' := [.own 2 1 b160 ((F_l07Below mp0 mp1 mp2 np0 np1 np2 link7L2).length) c161 (F_l07Below mp0 mp1 mp2 np0 np1 np2 link7L2), .own 2 1 link7L2A ((link7L2).length) link7L2C link7L2, .blk b11 #[.int .i64 np0, .slice np1A np1.length np1C, .slice np2A np2.length np2C] 38, .blk b5 #[.int .i64 mp0, .slice mp1A mp1.length mp1C, .slice mp2A mp2.length mp2C] 38, .rd 1 np2A np2.length np2C np2, .rd 1 np1A np1.length np1C np1, .rd 1 mp2A mp2.length mp2C mp2, .rd 1 mp1A mp1.length mp1C mp1]) hS158 [0, 1, 2, 3, 4, 5, 6, 7] (by decide) rfl)⟩
            ·
              clear hE169 hS158
              rintro r180 a171 w172 ⟨x10L3, next9L3, hT175, hr176, hi177, hi178, hi179, hE173, hS174⟩
              obtain ⟨r180, rfl⟩ : ∃ r', r180 = r' + 1 := ⟨r180 - 1, by omega⟩
              refine c_seq ?_
              refine c_seq ?_
              refine c_reg ?_
              refine q_step (v := .int .i64 x10L3) hE173 (y_move rfl) rfl rfl rfl ?_; intro a181 hE182; clear hE173
              refine q_step (v := .slice b160 ((F_l07Below mp0 mp1 mp2 np0 np1 np2 link7L2).length) c161) hE182 (y_move rfl) rfl rfl rfl ?_; intro a183 hE184; clear hE182
              refine q_step (v := .int .i64 ((F_l07Below mp0 mp1 mp2 np0 np1 np2 link7L2).length : Int)) hE184 (y_len (e := 2) (by kernel_rfl) rfl) rfl rfl rfl ?_; intro a185 hE186; clear hE184
              refine q_step (v := .bool (decide (x10L3 < ((F_l07Below mp0 mp1 mp2 np0 np1 np2 link7L2).length : Int)))) hE186 (y_lss rfl rfl) rfl rfl rfl ?_; intro a187 hE188; clear hE186
              refine c_nil ?_
              have hE189 := hE188.sub (L' := [(2, .pointer (some ⟨b5, 0, none⟩)), (3, .pointer (some ⟨b11, 0, none⟩)), (7, .slice link7L2A ((link7L2).length) link7L2C), (9, .slice b160 ((F_l07Below mp0 mp1 mp2 np0 np1 np2 link7L2).length) c161), (10, .int .i64 x10L3), (39, .bool (decide (x10L3 < ((F_l07Below mp0 mp1 mp2 np0 np1 np2 link7L2).length : Int))))]) ⟨rfl, rfl, rfl, rfl, rfl, rfl, trivial⟩; clear hE188
              refine p_tn ?_
              refine c_cond hE189 rfl (fun ht190 => ?_) (fun ht190 => ?_)
              ·
                have hp191 := of_decide_eq_true ht190
                have hE192 := hE189; rw [ht190] at hE192; clear hE189
                refine wp_skip ?_
                refine p_tn ?_
                refine c_seq ?_
                refine wp_block ?_
                refine d_start (fun w' => w'.cell? (adr b160 (Int.toNat x10L3)) = some (.int .i64 (gI next9L3 x10L3)) ∧ w'.cell? (adr link7L2A (Int.toNat x10L3)) = some (.int .i64 (gI link7L2 x10L3)) ∧ True) [5, 9] 13 (by kernel_rfl) rfl ?_
                intro w193 he194; have hS195 := St.go hS174 he194; clear hS174
                refine d_pure (v := .slice b160 ((F_l07Below mp0 mp1 mp2 np0 np1 np2 link7L2).length) c161) 0 rfl hE192 (y_move rfl) rfl (by kernel_rfl) (by kernel_rfl) (by kernel_rfl) rfl rfl (fun _ _ _ h => h) ?_; intro a196 hE197; clear hE192
                refine d_pure (v := .int .i64 x10L3) 1 rfl hE197 (y_move rfl) rfl (by kernel_rfl) (by kernel_rfl) (by kernel_rfl) rfl rfl (fun _ _ _ h => h) ?_; intro a198 hE199; clear hE197
                refine d_pure (v := .slice b160 ((F_l07Below mp0 mp1 mp2 np0 np1 np2 link7L2).length) c161) 2 rfl hE199 (y_move rfl) rfl (by kernel_rfl) (by kernel_rfl) (by kernel_rfl) rfl rfl (fun _ _ _ h => h) ?_; intro a200 hE201; clear hE199
                refine d_pure (v := .int .i64 x10L3) 3 rfl hE201 (y_move rfl) rfl (by kernel_rfl) (by kernel_rfl) (by kernel_rfl) rfl rfl (fun _ _ _ h => h) ?_; intro a202 hE203; clear hE201
                refine d_pure (v := .pointer (some (adr b160 (Int.toNat x10L3)))) 4 rfl hE203 (y_idx (by kernel_rfl) (fun _ => by kernel_rfl) rfl rfl (RdS.isS (m := x10L3) (St.rdO (i := 0) hS195 rfl) (by omega) (by omega)) (by omega) (by omega) (Nat.mul_one _).symm) rfl (by kernel_rfl) (by kernel_rfl) (by kernel_rfl) rfl rfl (fun _ _ _ h => h) ?_; intro a204 hE205; clear hE203
                refine d_take (v := .int .i64 (gI next9L3 x10L3)) 5 rfl hE205 ⟨(RdS.elt (St.rdO (i := 0) hS195 rfl) (by omega) (by omega) _ (Ext.refl _)), (RdS.elt (St.rdO (i := 1) hS195 rfl) (by omega) (by omega) _ (Ext.refl _)), trivial⟩ (y_load (fun _ => by kernel_rfl) rfl (fun _ h => h.1)) rfl rfl (by kernel_rfl) (by kernel_rfl) (by kernel_rfl) rfl rfl (fun _ _ _ h => h) ?_; intro a206 hE207; clear hE205
                refine d_pure (v := .slice link7L2A ((link7L2).length) link7L2C) 6 rfl hE207 (y_move rfl) rfl (by kernel_rfl) (by kernel_rfl) (by kernel_rfl) rfl rfl (fun _ _ _ h => h) ?_; intro a208 hE209; clear hE207
                refine d_pure (v := .int .i64 x10L3) 7 rfl hE209 (y_move rfl) rfl (by kernel_rfl) (by kernel_rfl) (by kernel_rfl) rfl rfl (fun _ _ _ h => h) ?_; intro a210 hE211; clear hE209
                refine d_pure (v := .pointer (some (adr link7L2A (Int.toNat x10L3)))) 8 rfl hE211 (y_idx (by kernel_rfl) (fun _ => by kernel_rfl) rfl rfl (RdS.isS (m := x10L3) (St.rdO (i := 1) hS195 rfl) (by omega) (by omega)) (by omega) (by omega) (Nat.mul_one _).symm) rfl (by kernel_rfl) (by kernel_rfl) (by kernel_rfl) rfl rfl (fun _ _ _ h => h) ?_; intro a212 hE213; clear hE211
                refine d_take (v := .int .i64 (gI link7L2 x10L3)) 9 rfl hE213 ⟨(RdS.elt (St.rdO (i := 0) hS195 rfl) (by omega) (by omega) _ (Ext.refl _)), (RdS.elt (St.rdO (i := 1) hS195 rfl) (by omega) (by omega) _ (Ext.refl _)), trivial⟩ (y_load (fun _ => by kernel_rfl) rfl (fun _ h => h.2.1)) rfl rfl (by kernel_rfl) (by kernel_rfl) (by kernel_rfl) rfl rfl (fun _ _ _ h => h) ?_; intro a214 hE215; clear hE213
                refine d_pure (v := .int .i64 (andI (gI next9L3 x10L3) (gI link7L2 x10L3))) 10 rfl hE215 (y_and rfl rfl) rfl (by kernel_rfl) (by kernel_rfl) (by kernel_rfl) rfl rfl (fun _ _ _ h => h) ?_; intro a216 hE217; clear hE215
                refine d_pure (v := .pointer (some (adr b160 (Int.toNat x10L3)))) 11 rfl hE217 (y_idx (by kernel_rfl) (fun _ => by kernel_rfl) rfl rfl (RdS.isS (m := x10L3) (St.rdO (i := 0) hS195 rfl) (by omega) (by omega)) (by omega) (by omega) (Nat.mul_one _).symm) rfl (by kernel_rfl) (by kernel_rfl) (by kernel_rfl) rfl rfl (fun _ _ _ h => h) ?_; intro a218 hE219; clear hE217
                refine d_only 12 (by kernel_rfl) rfl hE219 rfl (l_store (k := 0) hS195 hE219 (fun _ => by kernel_rfl) rfl rfl rfl (by omega) (by omega) ?_)
                intro w221 hS224 a222 hE223; clear hS195 hE219
                refine ⟨fun h => Bool.noConfusion (h.symm.trans (show exm _ _ _ = true by kernel_rfl)), ?_⟩
                refine d_done (by kernel_rfl) ?_
                have hE226 := hE223.sub (L' := [(2, .pointer (some ⟨b5, 0, none⟩)), (3, .pointer (some ⟨b11, 0, none⟩)), (7, .slice link7L2A ((link7L2).length) link7L2C), (9, .slice b160 ((F_l07Below mp0 mp1 mp2 np0 np1 np2 link7L2).length) c161), (10, .int .i64 x10L3)]) ⟨rfl, rfl, rfl, rfl, rfl, trivial⟩; clear hE223
                refine p_bn ?_
                refine p_tn ?_
                refine c_reg ?_
                refine q_step (v := .int .i64 x10L3) hE226 (y_move rfl) rfl rfl rfl ?_; intro a227 hE228; clear hE226
                refine q_step (v := .int .i64 (x10L3 + 1)) hE228 (y_add rfl rfl ⟨(by omega), (by omega)⟩) rfl rfl rfl ?_; intro a229 hE230; clear hE228
                refine q_step (v := .int .i64 (x10L3 + 1)) hE230 (y_assign rfl) rfl rfl rfl ?_; intro a231 hE232; clear hE230
                refine c_nil ?_
                have hE233 := hE232.sub (L' := [(2, .pointer (some ⟨b5, 0, none⟩)), (3, .pointer (some ⟨b11, 0, none⟩)), (7, .slice link7L2A ((link7L2).length) link7L2C), (9, .slice b160 ((F_l07Below mp0 mp1 mp2 np0 np1 np2 link7L2).length) c161), (10, .int .i64 (x10L3 + 1))]) ⟨rfl, rfl, rfl, rfl, rfl, trivial⟩; clear hE232
                refine p_tn ⟨r180, Nat.lt_succ_self _, x10L3 + 1, sI next9L3 x10L3 (andI (gI next9L3 x10L3) (gI link7L2 x10L3)), (hT175.symm.trans (show F_s_GreatestSimulation_L3b mp0 mp1 mp2 np0 np1 np2 link7L2 (F_s_GreatestSimulation_L3 mp0 mp1 mp2 np0 np1 np2 link7L2 r180) x10L3 next9L3 = F_s_GreatestSimulation_L3 mp0 mp1 mp2 np0 np1 np2 link7L2 r180 (x10L3 + 1) (sI next9L3 x10L3 (andI (gI next9L3 x10L3) (gI link7L2 x10L3))) by unfold F_s_GreatestSimulation_L3b; rw [ht190]; first | done | rfl)).symm, (by omega), (by first | omega | (simp only [List.length_replicate, sI_len]; omega) | (simp only [List.length_append, List.length_cons, List.length_nil, sI_len, cond_true, cond_false]; omega) | (simp only [List.length_append, List.length_cons, List.length_nil, sI_len, cond_eq_ite, apply_ite List.length]; split <;> simp only [List.length_append, List.length_cons, List.length_nil, sI_len] <;> omega) | grind), (by first | omega | (simp only [List.length_replicate, sI_len]; omega) | (simp only [List.length_append, List.length_cons, List.length_nil, sI_len, cond_true, cond_false]; omega) | (simp only [List.length_append, List.length_cons, List.length_nil, sI_len, cond_eq_ite, apply_ite List.length]; split <;> simp only [List.length_append, List.length_cons, List.length_nil, sI_len] <;> omega) | grind), (by first | omega | (simp only [List.length_replicate, sI_len]; omega) | (simp only [List.length_append, List.length_cons, List.length_nil, sI_len, cond_true, cond_false]; omega) | (simp only [List.length_append, List.length_cons, List.length_nil, sI_len, cond_eq_ite, apply_ite List.length]; split <;> simp only [List.length_append, List.length_cons, List.length_nil, sI_len] <;> omega) | grind), (hE233.sub (L' := [(2, .pointer (some ⟨b5, 0, none⟩)), (3, .pointer (some ⟨b11, 0, none⟩)), (7, .slice link7L2A ((link7L2).length) link7L2C), (9, .slice b160 ((F_l07Below mp0 mp1 mp2 np0 np1 np2 link7L2).length) c161), (10, .int .i64 (x10L3 + 1))]) ⟨rfl, rfl, rfl, rfl, rfl, trivial⟩), (St.pick (Γ' := [.own 2 1 b160 ((F_l07Below mp0 mp1 mp2 np0 np1 np2 link7L2).length) c161 (sI next9L3 x10L3 (andI (gI next9L3 x10L3) (gI link7L2 x10L3))), .own 2 1 link7L2A ((link7L2).length) link7L2C link7L2, .blk b11 #[.int .i64 np0, .slice np1A np1.length np1C, .slice np2A np2.length np2C] 38, .blk b5 #[.int .i64 mp0, .slice mp1A mp1.length mp1C, .slice mp2A mp2.length mp2C] 38, .rd 1 np2A np2.length np2C np2, .rd 1 np1A np1.length np1C np1, .rd 1 mp2A mp2.length mp2C mp2, .rd 1 mp1A mp1.length mp1C mp1]) hS224 [0, 1, 2, 3, 4, 5, 6, 7] (by decide) rfl)⟩
              ·
                have hp234 := of_decide_eq_false ht190
                have hE235 := hE189; rw [ht190] at hE235; clear hE189
                refine wp_exit ?_
                refine p_te ?_
                have hX236 : F_s_GreatestSimulation_L3 mp0 mp1 mp2 np0 np1 np2 link7L2 (Int.toNat (((F_l07Below mp0 mp1 mp2 np0 np1 np2 link7L2).length : Int) - 0) + 1) 0 (F_l07Below mp0 mp1 mp2 np0 np1 np2 link7L2) = (x10L3, next9L3) := hT175.symm.trans (show F_s_GreatestSimulation_L3b mp0 mp1 mp2 np0 np1 np2 link7L2 (F_s_GreatestSimulation_L3 mp0 mp1 mp2 np0 np1 np2 link7L2 r180) x10L3 next9L3 = (x10L3, next9L3) by unfold F_s_GreatestSimulation_L3b; rw [ht190]; first | done | rfl)
                refine p_te (p_be (p_tn ?_))
                exact ⟨(by rw [hX236]; exact (show 0 ≤ x10L3 from (by first | omega | (simp only [List.length_replicate, sI_len]; omega) | (simp only [List.length_append, List.length_cons, List.length_nil, sI_len, cond_true, cond_false]; omega) | (simp only [List.length_append, List.length_cons, List.length_nil, sI_len, cond_eq_ite, apply_ite List.length]; split <;> simp only [List.length_append, List.length_cons, List.length_nil, sI_len] <;> omega) | grind))), (by rw [hX236]; exact (show (next9L3.length : Int) = mp0 from (by first | omega | (simp only [List.length_replicate, sI_len]; omega) | (simp only [List.length_append, List.length_cons, List.length_nil, sI_len, cond_true, cond_false]; omega) | (simp only [List.length_append, List.length_cons, List.length_nil, sI_len, cond_eq_ite, apply_ite List.length]; split <;> simp only [List.length_append, List.length_cons, List.length_nil, sI_len] <;> omega) | grind))), (by rw [hX236]; exact (show x10L3 ≤ ((F_l07Below mp0 mp1 mp2 np0 np1 np2 link7L2).length : Int) from (by first | omega | (simp only [List.length_replicate, sI_len]; omega) | (simp only [List.length_append, List.length_cons, List.length_nil, sI_len, cond_true, cond_false]; omega) | (simp only [List.length_append, List.length_cons, List.length_nil, sI_len, cond_eq_ite, apply_ite List.length]; split <;> simp only [List.length_append, List.length_cons, List.length_nil, sI_len] <;> omega) | grind))), (by rw [hX236]; exact (hE235.sub (L' := [(2, .pointer (some ⟨b5, 0, none⟩)), (3, .pointer (some ⟨b11, 0, none⟩)), (7, .slice link7L2A ((link7L2).length) link7L2C), (9, .slice b160 ((F_l07Below mp0 mp1 mp2 np0 np1 np2 link7L2).length) c161), (10, .int .i64 x10L3)]) ⟨rfl, rfl, rfl, rfl, rfl, trivial⟩)), (by rw [hX236]; exact (St.pick (Γ' := [.own 2 1 b160 ((F_l07Below mp0 mp1 mp2 np0 np1 np2 link7L2).length) c161 next9L3, .own 2 1 link7L2A ((link7L2).length) link7L2C link7L2, .blk b11 #[.int .i64 np0, .slice np1A np1.length np1C, .slice np2A np2.length np2C] 38, .blk b5 #[.int .i64 mp0, .slice mp1A mp1.length mp1C, .slice mp2A mp2.length mp2C] 38, .rd 1 np2A np2.length np2C np2, .rd 1 np1A np1.length np1C np1, .rd 1 mp2A mp2.length mp2C mp2, .rd 1 mp1A mp1.length mp1C mp1]) hS174 [0, 1, 2, 3, 4, 5, 6, 7] (by decide) rfl))⟩
          ·
            rintro a237 w238 ⟨hi242, hi243, hi244, hE239, hS240⟩; clear hE169 hS158
            refine p_tn ?_
            refine c_seq ?_
            refine c_seq ?_
            refine c_reg ?_
            refine q_step (v := .slice b160 ((F_l07Below mp0 mp1 mp2 np0 np1 np2 link7L2).length) c161) hE239 (y_move rfl) rfl rfl rfl ?_; intro a245 hE246; clear hE239
            refine q_step (v := .slice link7L2A ((link7L2).length) link7L2C) hE246 (y_move rfl) rfl rfl rfl ?_; intro a247 hE248; clear hE246
            refine l_step hE248 rfl (l_call (f := 105) (argv := [.slice b160 ((F_l07Below mp0 mp1 mp2 np0 np1 np2 link7L2).length) c161, .slice link7L2A ((link7L2).length) link7L2C]) hE248 (fun _ => cf_l01Same _ _) rfl rfl (c_l01Same b160 ((F_l07Below mp0 mp1 mp2 np0 np1 np2 link7L2).length) c161 ((F_s_GreatestSimulation_L3 mp0 mp1 mp2 np0 np1 np2 link7L2 (Int.toNat (((F_l07Below mp0 mp1 mp2 np0 np1 np2 link7L2).length : Int) - 0) + 1) 0 (F_l07Below mp0 mp1 mp2 np0 np1 np2 link7L2)).2) link7L2A ((link7L2).length) link7L2C link7L2 w238 (St.rdO (i := 0) hS240 rfl) (St.rdO (i := 1) hS240 rfl)) ?_)
            rintro _ w250 ⟨rfl, he254⟩ a251 hE252; clear hE248
            have hS253 := St.go hS240 he254; clear hS240
            refine c_nil ?_
            have hE255 := hE252.sub (L' := [(2, .pointer (some ⟨b5, 0, none⟩)), (3, .pointer (some ⟨b11, 0, none⟩)), (7, .slice link7L2A ((link7L2).length) link7L2C), (9, .slice b160 ((F_l07Below mp0 mp1 mp2 np0 np1 np2 link7L2).length) c161), (56, .bool (F_l01Same ((F_s_GreatestSimulation_L3 mp0 mp1 mp2 np0 np1 np2 link7L2 (Int.toNat (((F_l07Below mp0 mp1 mp2 np0 np1 np2 link7L2).length : Int) - 0) + 1) 0 (F_l07Below mp0 mp1 mp2 np0 np1 np2 link7L2)).2) link7L2))]) ⟨rfl, rfl, rfl, rfl, rfl, trivial⟩; clear hE252
            refine p_tn ?_
            refine c_cond hE255 rfl (fun ht256 => ?_) (fun ht256 => ?_)
            ·
              have hE257 := hE255; rw [ht256] at hE257; clear hE255
              refine c_seq ?_
              refine c_reg ?_
              refine q_step (v := .slice link7L2A ((link7L2).length) link7L2C) hE257 (y_move rfl) rfl rfl rfl ?_; intro a258 hE259; clear hE257
              refine q_step (v := .slice link7L2A ((link7L2).length) link7L2C) hE259 (y_assign rfl) rfl rfl rfl ?_; intro a260 hE261; clear hE259
              refine q_step (v := .int .i64 0) hE261 (y_assign rfl) rfl rfl rfl ?_; intro a262 hE263; clear hE261
              refine c_nil ?_
              have hE264 := hE263.sub (L' := [(4, .slice link7L2A ((link7L2).length) link7L2C), (5, .int .i64 0)]) ⟨rfl, rfl, trivial⟩; clear hE263
              refine p_tn ?_
              refine wp_ret ?_
              refine p_tr ?_
              refine p_br ?_
              have hX265 : F_s_GreatestSimulation_L2 mp0 mp1 mp2 np0 np1 np2 (sumN ((F_s_GreatestSimulation_L1 mp0 np0 (Int.toNat (mp0 - 0) + 1) ([]) 0).1) + 1) ((F_s_GreatestSimulation_L1 mp0 np0 (Int.toNat (mp0 - 0) + 1) ([]) 0).1) = .error (link7L2, 0) := hT143.symm.trans (show F_s_GreatestSimulation_L2b mp0 mp1 mp2 np0 np1 np2 (F_s_GreatestSimulation_L2 mp0 mp1 mp2 np0 np1 np2 r147) link7L2 = .error (link7L2, 0) by unfold F_s_GreatestSimulation_L2b; rw [ht256]; first | done | rfl)
              refine p_tr (p_br (p_tr ?_))
              have hF : F_s_GreatestSimulation mp0 mp1 mp2 np0 np1 np2 = (link7L2, 0) := by unfold F_s_GreatestSimulation; rw [hX265, ht40]; first | done | rfl
              refine c_ret2 hE264 rfl rfl rfl ?_
              exact ⟨link7L2A, link7L2C, (by rw [hF]; first | done | rfl), (by rw [hF]; exact hS253.ok 1 _ rfl), hS253.ext⟩
            ·
              have hE266 := hE255; rw [ht256] at hE266; clear hE255
              refine wp_skip ?_
              refine p_tn ?_
              refine c_reg ?_
              refine q_step (v := .slice b160 ((F_l07Below mp0 mp1 mp2 np0 np1 np2 link7L2).length) c161) hE266 (y_move rfl) rfl rfl rfl ?_; intro a267 hE268; clear hE266
              refine q_step (v := .slice b160 ((F_l07Below mp0 mp1 mp2 np0 np1 np2 link7L2).length) c161) hE268 (y_assign rfl) rfl rfl rfl ?_; intro a269 hE270; clear hE268
              refine c_nil ?_
              have hE271 := hE270.sub (L' := [(2, .pointer (some ⟨b5, 0, none⟩)), (3, .pointer (some ⟨b11, 0, none⟩)), (7, .slice b160 ((F_l07Below mp0 mp1 mp2 np0 np1 np2 link7L2).length) c161)]) ⟨rfl, rfl, rfl, trivial⟩; clear hE270
              refine p_bn ?_
              refine p_tn ⟨r147, Nat.lt_succ_self _, (F_s_GreatestSimulation_L3 mp0 mp1 mp2 np0 np1 np2 link7L2 (Int.toNat (((F_l07Below mp0 mp1 mp2 np0 np1 np2 link7L2).length : Int) - 0) + 1) 0 (F_l07Below mp0 mp1 mp2 np0 np1 np2 link7L2)).2, b160, c161, (hT143.symm.trans (show F_s_GreatestSimulation_L2b mp0 mp1 mp2 np0 np1 np2 (F_s_GreatestSimulation_L2 mp0 mp1 mp2 np0 np1 np2 r147) link7L2 = F_s_GreatestSimulation_L2 mp0 mp1 mp2 np0 np1 np2 r147 ((F_s_GreatestSimulation_L3 mp0 mp1 mp2 np0 np1 np2 link7L2 (Int.toNat (((F_l07Below mp0 mp1 mp2 np0 np1 np2 link7L2).length : Int) - 0) + 1) 0 (F_l07Below mp0 mp1 mp2 np0 np1 np2 link7L2)).2) by unfold F_s_GreatestSimulation_L2b; rw [ht256]; first | done | rfl)).symm, (by have := hst.2.2 (by assumption); omega), hst.1, hst.2.1, (by rw [(St.rdO (i := 0) hS253 rfl).len1]; exact (hE271.sub (L' := [(2, .pointer (some ⟨b5, 0, none⟩)), (3, .pointer (some ⟨b11, 0, none⟩)), (7, .slice b160 ((F_l07Below mp0 mp1 mp2 np0 np1 np2 link7L2).length) c161)]) ⟨rfl, rfl, rfl, trivial⟩)), (by rw [(St.rdO (i := 0) hS253 rfl).len1]; exact (St.pick (Γ' := [.own 2 1 b160 ((F_l07Below mp0 mp1 mp2 np0 np1 np2 link7L2).length) c161 ((F_s_GreatestSimulation_L3 mp0 mp1 mp2 np0 np1 np2 link7L2 (Int.toNat (((F_l07Below mp0 mp1 mp2 np0 np1 np2 link7L2).length : Int) - 0) + 1) 0 (F_l07Below mp0 mp1 mp2 np0 np1 np2 link7L2)).2), .blk b11 #[.int .i64 np0, .slice np1A np1.length np1C, .slice np2A np2.length np2C] 38, .blk b5 #[.int .i64 mp0, .slice mp1A mp1.length mp1C, .slice mp2A mp2.length mp2C] 38, .rd 1 np2A np2.length np2C np2, .rd 1 np1A np1.length np1C np1, .rd 1 mp2A mp2.length mp2C mp2, .rd 1 mp1A mp1.length mp1C mp1]) hS253 [0, 2, 3, 4, 5, 6, 7] (by decide) rfl))⟩
      ·
        intro _ _ h; exact h.elim


def F_GreatestSimulation_L1b (mp0 : Int) (mp1 : List Int) (mp2 : List Int) (np0 : Int) (np1 : List Int) (np2 : List Int) (rec : (List Int) → Except ((List Int) × (Int)) ((List Int))) (q8_0 : List Int) : Except ((List Int) × (Int)) ((List Int)) :=
  bif (F_z_Equal (F_linkOf mp0 mp1 mp2 np0 np1 np2 (fun x0 x1 => F_GreatestSimulation_k2 x0 x1 q8_0 mp0 mp1 mp2 np0 np1 np2)) q8_0) then (.error (q8_0, 0)) else (rec (F_linkOf mp0 mp1 mp2 np0 np1 np2 (fun x0 x1 => F_GreatestSimulation_k2 x0 x1 q8_0 mp0 mp1 mp2 np0 np1 np2)))
def F_GreatestSimulation_L1 (mp0 : Int) (mp1 : List Int) (mp2 : List Int) (np0 : Int) (np1 : List Int) (np2 : List Int) : Nat → (List Int) → Except ((List Int) × (Int)) ((List Int))
  | 0, q8_0 => .ok q8_0
  | r + 1, q8_0 => F_GreatestSimulation_L1b mp0 mp1 mp2 np0 np1 np2 (F_GreatestSimulation_L1 mp0 mp1 mp2 np0 np1 np2 r) q8_0
def F_GreatestSimulation (mp0 : Int) (mp1 : List Int) (mp2 : List Int) (np0 : Int) (np1 : List Int) (np2 : List Int) : (List Int) × (Int) :=
  bif ((!(F_isModel mp0 mp1 mp2)) || (!(F_isModel np0 np1 np2))) then ([], 1) else (errD (F_GreatestSimulation_L1 mp0 mp1 mp2 np0 np1 np2 (sumN (F_linkOf mp0 mp1 mp2 np0 np1 np2 (fun x0 x1 => F_GreatestSimulation_k1 x0 x1 mp0 mp1 mp2 np0 np1 np2)) + 1) (F_linkOf mp0 mp1 mp2 np0 np1 np2 (fun x0 x1 => F_GreatestSimulation_k1 x0 x1 mp0 mp1 mp2 np0 np1 np2))))
theorem cf_GreatestSimulation (args : Array Value) (w : World) : (callFunc 51 args).run Try.prog w = .ok (.enter 51 args) w := by kernel_rfl
theorem GSi_bits {mp0 np0 : Int} {mp1 mp2 np1 np2 : List Int} (hm : 0 ≤ mp0 ∧ mp0 ≤ 8) (hn : 0 ≤ np0 ∧ np0 ≤ 8) {link : List Int} (hk : LkI mp0 np0 link) : LkI mp0 np0 (F_linkOf mp0 mp1 mp2 np0 np1 np2 (fun x0 x1 => F_GreatestSimulation_k2 x0 x1 link mp0 mp1 mp2 np0 np1 np2)) ∧ ∀ x y : Nat, (x : Int) < mp0 → rb (F_linkOf mp0 mp1 mp2 np0 np1 np2 (fun x0 x1 => F_GreatestSimulation_k2 x0 x1 link mp0 mp1 mp2 np0 np1 np2)) x y = (rb link x y && F_forth mp0 mp1 mp2 np0 np1 np2 link (x : Int) (y : Int)) := by
  obtain ⟨h1, h2⟩ := linkOf_bits mp1 mp2 np1 np2 hm hn (fun x0 x1 => F_GreatestSimulation_k2 x0 x1 link mp0 mp1 mp2 np0 np1 np2)
  refine ⟨h1, fun x y hx => ?_⟩
  rw [h2 x y hx]
  show (decide (y < np0.toNat) && (F_has (gI link (x : Int)) (y : Int) && F_forth mp0 mp1 mp2 np0 np1 np2 link (x : Int) (y : Int))) = _
  by_cases hy : y < np0.toNat
  · rw [decide_eq_true hy, Bool.true_and, tb_has (n := np0.toNat) (by omega) (hk x hx) (by omega)]; rfl
  · rw [decide_eq_false hy, Bool.false_and]
    cases e : rb link x y
    · rfl
    · exact absurd (tb_lt (hk x hx) e) hy
theorem GSi_step {mp0 np0 : Int} {mp1 mp2 np1 np2 : List Int} (hm : 0 ≤ mp0 ∧ mp0 ≤ 8) (hn : 0 ≤ np0 ∧ np0 ≤ 8) {link : List Int} (hl : (link.length : Int) = mp0) (hk : LkI mp0 np0 link) : ((F_linkOf mp0 mp1 mp2 np0 np1 np2 (fun x0 x1 => F_GreatestSimulation_k2 x0 x1 link mp0 mp1 mp2 np0 np1 np2)).length : Int) = mp0 ∧ LkI mp0 np0 (F_linkOf mp0 mp1 mp2 np0 np1 np2 (fun x0 x1 => F_GreatestSimulation_k2 x0 x1 link mp0 mp1 mp2 np0 np1 np2)) ∧ (F_z_Equal (F_linkOf mp0 mp1 mp2 np0 np1 np2 (fun x0 x1 => F_GreatestSimulation_k2 x0 x1 link mp0 mp1 mp2 np0 np1 np2)) link = false → sumN (F_linkOf mp0 mp1 mp2 np0 np1 np2 (fun x0 x1 => F_GreatestSimulation_k2 x0 x1 link mp0 mp1 mp2 np0 np1 np2)) < sumN link) := by
  have h1 := linkOf_len mp1 mp2 np1 np2 hm hn (fun x0 x1 => F_GreatestSimulation_k2 x0 x1 link mp0 mp1 mp2 np0 np1 np2)
  obtain ⟨h2, h3⟩ := GSi_bits (mp1 := mp1) (mp2 := mp2) (np1 := np1) (np2 := np2) hm hn hk
  refine ⟨h1, h2, fun h => sumN_lt (by omega) (fun j hj => ⟨(h2 j (by omega)).1, ?_⟩) fun e => ?_⟩
  · have hsub : ∀ y, tb (gI (F_linkOf mp0 mp1 mp2 np0 np1 np2 (fun x0 x1 => F_GreatestSimulation_k2 x0 x1 link mp0 mp1 mp2 np0 np1 np2)) (j : Int)) y = true → tb (gI link (j : Int)) y = true := fun y hy => by
      have := h3 j y (by omega)
      unfold rb at this
      rw [this, Bool.and_eq_true] at hy; exact hy.1
    have a1 := h2 j (by omega)
    have a2 := hk j (by omega)
    have e : (gI (F_linkOf mp0 mp1 mp2 np0 np1 np2 (fun x0 x1 => F_GreatestSimulation_k2 x0 x1 link mp0 mp1 mp2 np0 np1 np2)) (j : Int)).toNat = (gI (F_linkOf mp0 mp1 mp2 np0 np1 np2 (fun x0 x1 => F_GreatestSimulation_k2 x0 x1 link mp0 mp1 mp2 np0 np1 np2)) (j : Int)).toNat &&& (gI link (j : Int)).toNat := by
      apply Nat.eq_of_testBit_eq; intro i
      rw [Nat.testBit_and]
      cases ht : (gI (F_linkOf mp0 mp1 mp2 np0 np1 np2 (fun x0 x1 => F_GreatestSimulation_k2 x0 x1 link mp0 mp1 mp2 np0 np1 np2)) (j : Int)).toNat.testBit i
      · rfl
      · exact (hsub i ht).symm
    have : (gI (F_linkOf mp0 mp1 mp2 np0 np1 np2 (fun x0 x1 => F_GreatestSimulation_k2 x0 x1 link mp0 mp1 mp2 np0 np1 np2)) (j : Int)).toNat ≤ (gI link (j : Int)).toNat := by rw [e]; exact Nat.and_le_right
    have := a1.1; have := a2.1; omega
  · rw [z_Equal_eq, decide_eq_true e] at h; cases h
set_option maxRecDepth 100000 in
theorem c_GreatestSimulation (mp0 : Int) (mp1A : Option Addr) (mp1N mp1C : Nat) (mp1 : List Int) (mp2A : Option Addr) (mp2N mp2C : Nat) (mp2 : List Int) (np0 : Int) (np1A : Option Addr) (np1N np1C : Nat) (np1 : List Int) (np2A : Option Addr) (np2N np2C : Nat) (np2 : List Int) (w : World) (mp1R : RdS w 1 mp1A mp1N mp1C mp1) (mp2R : RdS w 1 mp2A mp2N mp2C mp2) (np1R : RdS w 1 np1A np1N np1C np1) (np2R : RdS w 1 np2A np2N np2C np2) :
    Calls Try.prog 51 #[.agg #[.int .i64 mp0, .slice mp1A mp1N mp1C, .slice mp2A mp2N mp2C], .agg #[.int .i64 np0, .slice np1A np1N np1C, .slice np2A np2N np2C]] w (Ret fun v w' => ∃ b1 : Option Addr, ∃ c1 : Nat, v = .tuple #[.slice b1 ((F_GreatestSimulation mp0 mp1 mp2 np0 np1 np2).1).length c1, .int .i64 ((F_GreatestSimulation mp0 mp1 mp2 np0 np1 np2).2)] ∧ OwnS w' w.heap.size 2 1 b1 ((F_GreatestSimulation mp0 mp1 mp2 np0 np1 np2).1).length c1 ((F_GreatestSimulation mp0 mp1 mp2 np0 np1 np2).1) ∧ Ext w w') := by
  obtain rfl : mp1N = mp1.length := mp1R.len1.symm
  have mp1Le := mp1R.le
  obtain rfl : mp2N = mp2.length := mp2R.len1.symm
  have mp2Le := mp2R.le
  obtain rfl : np1N = np1.length := np1R.len1.symm
  have np1Le := np1R.le
  obtain rfl : np2N = np2.length := np2R.len1.symm
  have np2Le := np2R.le
  have hS := St.nil w
  have hS1 := St.rd0 hS rfl mp1R; clear hS
  have hS2 := St.rd0 hS1 rfl mp2R; clear hS1
  have hS3 := St.rd0 hS2 rfl np1R; clear hS2
  have hS4 := St.rd0 hS3 rfl np2R; clear hS3
  refine enter (args := [.agg #[.int .i64 mp0, .slice mp1A mp1.length mp1C, .slice mp2A mp2.length mp2C], .agg #[.int .i64 np0, .slice np1A np1.length np1C, .slice np2A np2.length np2C]]) Try.func51 rfl rfl ?_
  rw [Try.ntmps51]; intro a hE
  have hE := hE.sub (L' := [(0, .agg #[.int .i64 mp0, .slice mp1A mp1.length mp1C, .slice mp2A mp2.length mp2C]), (1, .agg #[.int .i64 np0, .slice np1A np1.length np1C, .slice np2A np2.length np2C])]) ⟨rfl, rfl, trivial⟩
  refine c_seq ?_
  refine c_reg ?_
  refine l_step hE rfl (l_box (v := .agg #[.int .i64 mp0, .slice mp1A mp1.length mp1C, .slice mp2A mp2.length mp2C]) (cs := #[.int .i64 mp0, .slice mp1A mp1.length mp1C, .slice mp2A mp2.length mp2C]) hS4 hE rfl rfl rfl ?_)
  intro b5 w6 hS9 he10 a7 hE8; clear hS4 hE
  refine l_step hE8 rfl (l_box (v := .agg #[.int .i64 np0, .slice np1A np1.length np1C, .slice np2A np2.length np2C]) (cs := #[.int .i64 np0, .slice np1A np1.length np1C, .slice np2A np2.length np2C]) hS9 hE8 rfl rfl rfl ?_)
  intro b11 w12 hS15 he16 a13 hE14; clear hS9 hE8
  refine q_step (v := .slice none 0 0) hE14 (y_assign rfl) rfl rfl rfl ?_; intro a17 hE18; clear hE14
  refine q_step (v := .int .i64 0) hE18 (y_assign rfl) rfl rfl rfl ?_; intro a19 hE20; clear hE18
  refine c_nil ?_
  have hE21 := hE20.sub (L' := [(2, .pointer (some ⟨b5, 0, none⟩)), (3, .pointer (some ⟨b11, 0, none⟩))]) ⟨rfl, rfl, trivial⟩; clear hE20
  refine p_tn ?_
  refine c_seq ?_
  refine c_cut (fun a' w' => E a' 29 [(2, .pointer (some ⟨b5, 0, none⟩)), (3, .pointer (some ⟨b11, 0, none⟩)), (15, .bool ((!(F_isModel mp0 mp1 mp2)) || (!(F_isModel np0 np1 np2))))] ∧ St w w' [.rd 1 np1A np1.length np1C np1, .rd 1 np2A np2.length np2C np2, .blk b11 #[.int .i64 np0, .slice np1A np1.length np1C, .slice np2A np2.length np2C] 38, .rd 1 mp1A mp1.length mp1C mp1, .rd 1 mp2A mp2.length mp2C mp2, .blk b5 #[.int .i64 mp0, .slice mp1A mp1.length mp1C, .slice mp2A mp2.length mp2C] 38]) ?_ ?_
  ·
    refine c_reg ?_
    refine q_step (v := .agg #[.int .i64 mp0, .slice mp1A mp1.length mp1C, .slice mp2A mp2.length mp2C]) hE21 (y_loadS Try.underlying38 rfl (by kernel_rfl) rfl (St.row (i := 1) hS15 rfl)) rfl rfl rfl ?_; intro a22 hE23; clear hE21
    refine l_step hE23 rfl (l_call (f := 65) (argv := [.agg #[.int .i64 mp0, .slice mp1A mp1.length mp1C, .slice mp2A mp2.length mp2C]]) hE23 (fun _ => cf_isModel _ _) rfl rfl (c_isModel mp0 mp1A mp1.length mp1C mp1 mp2A mp2.length mp2C mp2 w12 (St.rdR (i := 5) hS15 rfl) (St.rdR (i := 4) hS15 rfl)) ?_)
    rintro _ w25 ⟨rfl, he29⟩ a26 hE27; clear hE23
    have hS28 := St.go hS15 he29; clear hS15
    refine q_step (v := .bool (!(F_isModel mp0 mp1 mp2))) hE27 (y_not rfl) rfl rfl rfl ?_; intro a30 hE31; clear hE27
    refine q_step (v := .bool (!(F_isModel mp0 mp1 mp2))) hE31 (y_move rfl) rfl rfl rfl ?_; intro a32 hE33; clear hE31
    rcases Bool.eq_false_or_eq_true (!(F_isModel mp0 mp1 mp2)) with hb34 | hb34
    ·
      have hE35 := hE33; rw [hb34] at hE35; clear hE33
      have ht36 := bn_t hb34
      refine q_skip hE35 rfl rfl rfl ?_; intro a37 hE38; clear hE35
      refine q_skip hE38 rfl rfl rfl ?_; intro a39 hE40; clear hE38
      refine q_skip hE40 rfl rfl rfl ?_; intro a41 hE42; clear hE40
      refine q_step (v := .bool true) hE42 (y_pick (b := true) rfl rfl) rfl rfl rfl ?_; intro a43 hE44; clear hE42
      refine c_nil ?_
      have hE45 := hE44.sub (L' := [(2, .pointer (some ⟨b5, 0, none⟩)), (3, .pointer (some ⟨b11, 0, none⟩)), (15, .bool true)]) ⟨rfl, rfl, rfl, trivial⟩; clear hE44
      refine p_tn ?_
      have hE46 := hE45.sub (L' := [(2, .pointer (some ⟨b5, 0, none⟩)), (3, .pointer (some ⟨b11, 0, none⟩)), (15, .bool true)]) ⟨rfl, rfl, rfl, trivial⟩
      have hS47 := (St.pick (Γ' := [.rd 1 np1A np1.length np1C np1, .rd 1 np2A np2.length np2C np2, .blk b11 #[.int .i64 np0, .slice np1A np1.length np1C, .slice np2A np2.length np2C] 38, .rd 1 mp1A mp1.length mp1C mp1, .rd 1 mp2A mp2.length mp2C mp2, .blk b5 #[.int .i64 mp0, .slice mp1A mp1.length mp1C, .slice mp2A mp2.length mp2C] 38]) hS28 [3, 2, 0, 5, 4, 1] (by decide) rfl)
      exact ⟨(by rw [hb34]; exact hE46), hS47⟩
    ·
      have hE48 := hE33; rw [hb34] at hE48; clear hE33
      have ht49 := bn_f hb34
      have hp50 := isModel_t ht49
      refine q_step (v := .agg #[.int .i64 np0, .slice np1A np1.length np1C, .slice np2A np2.length np2C]) hE48 (y_loadS Try.underlying38 rfl (by kernel_rfl) rfl (St.row (i := 0) hS28 rfl)) rfl rfl rfl ?_; intro a51 hE52; clear hE48
      refine l_step hE52 rfl (l_call (f := 65) (argv := [.agg #[.int .i64 np0, .slice np1A np1.length np1C, .slice np2A np2.length np2C]]) hE52 (fun _ => cf_isModel _ _) rfl rfl (c_isModel np0 np1A np1.length np1C np1 np2A np2.length np2C np2 w25 (St.rdR (i := 3) hS28 rfl) (St.rdR (i := 2) hS28 rfl)) ?_)
      rintro _ w54 ⟨rfl, he58⟩ a55 hE56; clear hE52
      have hS57 := St.go hS28 he58; clear hS28
      refine q_step (v := .bool (!(F_isModel np0 np1 np2))) hE56 (y_not rfl) rfl rfl rfl ?_; intro a59 hE60; clear hE56
      refine q_step (v := .bool (!(F_isModel np0 np1 np2))) hE60 (y_pick (b := false) rfl rfl) rfl rfl rfl ?_; intro a61 hE62; clear hE60
      refine c_nil ?_
      have hE63 := hE62.sub (L' := [(2, .pointer (some ⟨b5, 0, none⟩)), (3, .pointer (some ⟨b11, 0, none⟩)), (15, .bool (!(F_isModel np0 np1 np2)))]) ⟨rfl, rfl, rfl, trivial⟩; clear hE62
      refine p_tn ?_
      have hE64 := hE63.sub (L' := [(2, .pointer (some ⟨b5, 0, none⟩)), (3, .pointer (some ⟨b11, 0, none⟩)), (15, .bool (!(F_isModel np0 np1 np2)))]) ⟨rfl, rfl, rfl, trivial⟩
      have hS65 := (St.pick (Γ' := [.rd 1 np1A np1.length np1C np1, .rd 1 np2A np2.length np2C np2, .blk b11 #[.int .i64 np0, .slice np1A np1.length np1C, .slice np2A np2.length np2C] 38, .rd 1 mp1A mp1.length mp1C mp1, .rd 1 mp2A mp2.length mp2C mp2, .blk b5 #[.int .i64 mp0, .slice mp1A mp1.length mp1C, .slice mp2A mp2.length mp2C] 38]) hS57 [3, 2, 0, 5, 4, 1] (by decide) rfl)
      exact ⟨(by rw [hb34]; exact hE64), hS65⟩
  ·
    rintro a66 w67 ⟨hE68, hS69⟩; clear hE21 hS15
    refine c_cond hE68 rfl (fun ht70 => ?_) (fun ht70 => ?_)
    ·
      have hE71 := hE68; rw [ht70] at hE71; clear hE68
      refine c_seq ?_
      refine c_reg ?_
      refine q_step (v := .slice none 0 0) hE71 (y_assign rfl) rfl rfl rfl ?_; intro a72 hE73; clear hE71
      refine q_step (v := .int .i64 1) hE73 (y_assign rfl) rfl rfl rfl ?_; intro a74 hE75; clear hE73
      refine c_nil ?_
      have hE76 := hE75.sub (L' := [(4, .slice none 0 0), (5, .int .i64 1)]) ⟨rfl, rfl, trivial⟩; clear hE75
      refine p_tn ?_
      refine wp_ret ?_
      refine p_tr ?_
      have hF : F_GreatestSimulation mp0 mp1 mp2 np0 np1 np2 = ([], 1) := by unfold F_GreatestSimulation; rw [ht70]; first | done | rfl
      refine c_ret2 hE76 rfl rfl rfl ?_
      exact ⟨none, 0, (by rw [hF]; first | done | rfl), (by rw [hF]; exact OwnS.nilS _ _ _ _), hS69.ext⟩
    ·
      obtain ⟨ht77, ht78⟩ := bor_f ht70
      have ht79 := bn_f ht77
      have hp80 := isModel_t ht79
      have ht81 := bn_f ht78
      have hp82 := isModel_t ht81
      have hE83 := hE68; rw [ht70] at hE83; clear hE68
      refine wp_skip ?_
      refine p_tn ?_
      refine c_seq ?_
      refine c_reg ?_
      refine q_step (v := .agg #[.int .i64 mp0, .slice mp1A mp1.length mp1C, .slice mp2A mp2.length mp2C]) hE83 (y_loadS Try.underlying38 rfl (by kernel_rfl) rfl (St.row (i := 5) hS69 rfl)) rfl rfl rfl ?_; intro a84 hE85; clear hE83
      refine q_step (v := .agg #[.int .i64 np0, .slice np1A np1.length np1C, .slice np2A np2.length np2C]) hE85 (y_loadS Try.underlying38 rfl (by kernel_rfl) rfl (St.row (i := 2) hS69 rfl)) rfl rfl rfl ?_; intro a86 hE87; clear hE85
      refine q_step (v := .func (.func 107) #[] #[.pointer (some ⟨b5, 0, none⟩), .pointer (some ⟨b11, 0, none⟩)]) hE87 (y_makeFunc (vs := [.pointer (some ⟨b5, 0, none⟩), .pointer (some ⟨b11, 0, none⟩)]) rfl) rfl rfl rfl ?_; intro a88 hE89; clear hE87
      refine l_step hE89 rfl (l_call (f := 106) (argv := [.agg #[.int .i64 mp0, .slice mp1A mp1.length mp1C, .slice mp2A mp2.length mp2C], .agg #[.int .i64 np0, .slice np1A np1.length np1C, .slice np2A np2.length np2C], .func (.func 107) #[] #[.pointer (some ⟨b5, 0, none⟩), .pointer (some ⟨b11, 0, none⟩)]]) hE89 (fun _ => cf_linkOf _ _) rfl rfl (c_linkOf mp0 mp1A mp1.length mp1C mp1 mp2A mp2.length mp2C mp2 np0 np1A np1.length np1C np1 np2A np2.length np2C np2 107 [.pointer (some ⟨b5, 0, none⟩), .pointer (some ⟨b11, 0, none⟩)] (fun x0 x1 => F_GreatestSimulation_k1 x0 x1 mp0 mp1 mp2 np0 np1 np2) (fun x y => (0 ≤ x ∧ x < mp0) ∧ 0 ≤ y ∧ y < np0) w67 (St.rdR (i := 3) hS69 rfl) (St.rdR (i := 4) hS69 rfl) (St.rdR (i := 0) hS69 rfl) (St.rdR (i := 1) hS69 rfl) (fun _ _ => cf_GreatestSimulation_k1 _ _) (fun x0 x1 w' hx he => c_GreatestSimulation_k1 x0 x1 b5 mp0 mp1A mp1.length mp1C mp1 mp2A mp2.length mp2C mp2 b11 np0 np1A np1.length np1C np1 np2A np2.length np2C np2 w' (RdS.ext (St.rdR (i := 3) hS69 rfl) he) (RdS.ext (St.rdR (i := 4) hS69 rfl) he) (St.row (i := 5) hS69 rfl w' he) (RdS.ext (St.rdR (i := 0) hS69 rfl) he) (RdS.ext (St.rdR (i := 1) hS69 rfl) he) (St.row (i := 2) hS69 rfl w' he) (by omega) (by omega) hx.1.1 hx.2.1) (by omega) (by omega) (fun x y h0 h1 h2 h3 => ⟨⟨h0, h1⟩, h2, h3⟩)) ?_)
      rintro _ w91 ⟨b96, c97, rfl, ho98, he95⟩ a92 hE93; clear hE89
      have hS94 := St.own hS69 he95 ho98; clear hS69
      refine l_step hE93 rfl (l_alloc (z := .slice none 0 0) (cs := #[.slice none 0 0]) hS94 hE93 (fun _ => by kernel_rfl) rfl rfl ?_)
      intro b99 w100 hS103 he104 a101 hE102; clear hS94 hE93
      refine l_step hE102 rfl (l_storeB (k := 0) (cs' := #[.slice b96 ((F_linkOf mp0 mp1 mp2 np0 np1 np2 (fun x0 x1 => F_GreatestSimulation_k1 x0 x1 mp0 mp1 mp2 np0 np1 np2)).length) c97]) hS103 hE102 (fun _ => by kernel_rfl) rfl rfl rfl rfl rfl rfl rfl ?_)
      intro w106 hS109 a107 hE108; clear hS103 hE102
      refine c_nil ?_
      have hE111 := hE108.sub (L' := [(2, .pointer (some ⟨b5, 0, none⟩)), (3, .pointer (some ⟨b11, 0, none⟩)), (6, .pointer (some ⟨b99, 0, none⟩))]) ⟨rfl, rfl, rfl, trivial⟩; clear hE108
      refine p_tn ?_
      refine c_cut1 (fun a' w' => False) ?_ ?_
      ·
        refine wp_block ?_
        refine c_loop (fun r a' w' => ∃ q8_0 : List Int, ∃ q8_0A : Option Addr, ∃ q8_0C : Nat, F_GreatestSimulation_L1 mp0 mp1 mp2 np0 np1 np2 r q8_0 = F_GreatestSimulation_L1 mp0 mp1 mp2 np0 np1 np2 (sumN (F_linkOf mp0 mp1 mp2 np0 np1 np2 (fun x0 x1 => F_GreatestSimulation_k1 x0 x1 mp0 mp1 mp2 np0 np1 np2)) + 1) (F_linkOf mp0 mp1 mp2 np0 np1 np2 (fun x0 x1 => F_GreatestSimulation_k1 x0 x1 mp0 mp1 mp2 np0 np1 np2)) ∧ sumN q8_0 < r ∧ ((q8_0.length : Int) = mp0) ∧ (LkI mp0 np0 q8_0) ∧ E a' 29 [(2, .pointer (some ⟨b5, 0, none⟩)), (3, .pointer (some ⟨b11, 0, none⟩)), (6, .pointer (some ⟨b99, 0, none⟩))] ∧ St w w' [.blk b99 #[.slice q8_0A ((q8_0).length) q8_0C] 22, .own 2 1 q8_0A ((q8_0).length) q8_0C q8_0, .rd 1 np1A np1.length np1C np1, .rd 1 np2A np2.length np2C np2, .blk b11 #[.int .i64 np0, .slice np1A np1.length np1C, .slice np2A np2.length np2C] 38, .rd 1 mp1A mp1.length mp1C mp1, .rd 1 mp2A mp2.length mp2C mp2, .blk b5 #[.int .i64 mp0, .slice mp1A mp1.length mp1C, .slice mp2A mp2.length mp2C] 38]) (r := (sumN (F_linkOf mp0 mp1 mp2 np0 np1 np2 (fun x0 x1 => F_GreatestSimulation_k1 x0 x1 mp0 mp1 mp2 np0 np1 np2)) + 1)) ?_ ?_
        · exact ⟨F_linkOf mp0 mp1 mp2 np0 np1 np2 (fun x0 x1 => F_GreatestSimulation_k1 x0 x1 mp0 mp1 mp2 np0 np1 np2), b96, c97, rfl, Nat.lt_succ_self _, (linkOf_len _ _ _ _ (by omega) (by omega) _), (linkOf_bits _ _ _ _ (by omega) (by omega) _).1, (hE111.sub (L' := [(2, .pointer (some ⟨b5, 0, none⟩)), (3, .pointer (some ⟨b11, 0, none⟩)), (6, .pointer (some ⟨b99, 0, none⟩))]) ⟨rfl, rfl, rfl, trivial⟩), (St.pick (Γ' := [.blk b99 #[.slice b96 ((F_linkOf mp0 mp1 mp2 np0 np1 np2 (fun x0 x1 => F_GreatestSimulation_k1 x0 x1 mp0 mp1 mp2 np0 np1 np2)).length) c97] 22, .own 2 1 b96 ((F_linkOf mp0 mp1 mp2 np0 np1 np2 (fun x0 x1 => F_GreatestSimulation_k1 x0 x1 mp0 mp1 mp2 np0 np1 np2)).length) c97 (F_linkOf mp0 mp1 mp2 np0 np1 np2 (fun x0 x1 => F_GreatestSimulation_k1 x0 x1 mp0 mp1 mp2 np0 np1 np2)), .rd 1 np1A np1.length np1C np1, .rd 1 np2A np2.length np2C np2, .blk b11 #[.int .i64 np0, .slice np1A np1.length np1C, .slice np2A np2.length np2C] 38, .rd 1 mp1A mp1.length mp1C mp1, .rd 1 mp2A mp2.length mp2C mp2, .blk b5 #[.int .i64 mp0, .slice mp1A mp1.length mp1C, .slice mp2A mp2.length mp2C] 38]) hS109 [0, 1, 2, 3, 4, 5, 6, 7] (by decide) rfl)⟩
        ·
          clear hE111 hS109
          rintro r121 a113 w114 ⟨q8_0, q8_0A, q8_0C, hT117, hr118, hi119, hi120, hE115, hS116⟩
          obtain ⟨r121, rfl⟩ : ∃ r', r121 = r' + 1 := ⟨r121 - 1, by omega⟩
          have hst := GSi_step (mp1 := mp1) (mp2 := mp2) (np1 := np1) (np2 := np2) (mp0 := mp0) (np0 := np0) (link := q8_0) (by omega) (by omega) (by omega) (by assumption)
          refine wp_block ?_
          refine c_seq ?_
          refine c_reg ?_
          refine q_step (v := .agg #[.int .i64 mp0, .slice mp1A mp1.length mp1C, .slice mp2A mp2.length mp2C]) hE115 (y_loadS Try.underlying38 rfl (by kernel_rfl) rfl (St.row (i := 7) hS116 rfl)) rfl rfl rfl ?_; intro a122 hE123; clear hE115
          refine q_step (v := .agg #[.int .i64 np0, .slice np1A np1.length np1C, .slice np2A np2.length np2C]) hE123 (y_loadS Try.underlying38 rfl (by kernel_rfl) rfl (St.row (i := 4) hS116 rfl)) rfl rfl rfl ?_; intro a124 hE125; clear hE123
          refine q_step (v := .func (.func 110) #[] #[.pointer (some ⟨b99, 0, none⟩), .pointer (some ⟨b5, 0, none⟩), .pointer (some ⟨b11, 0, none⟩)]) hE125 (y_makeFunc (vs := [.pointer (some ⟨b99, 0, none⟩), .pointer (some ⟨b5, 0, none⟩), .pointer (some ⟨b11, 0, none⟩)]) rfl) rfl rfl rfl ?_; intro a126 hE127; clear hE125
          refine l_step hE127 rfl (l_call (f := 106) (argv := [.agg #[.int .i64 mp0, .slice mp1A mp1.length mp1C, .slice mp2A mp2.length mp2C], .agg #[.int .i64 np0, .slice np1A np1.length np1C, .slice np2A np2.length np2C], .func (.func 110) #[] #[.pointer (some ⟨b99, 0, none⟩), .pointer (some ⟨b5, 0, none⟩), .pointer (some ⟨b11, 0, none⟩)]]) hE127 (fun _ => cf_linkOf _ _) rfl rfl (c_linkOf mp0 mp1A mp1.length mp1C mp1 mp2A mp2.length mp2C mp2 np0 np1A np1.length np1C np1 np2A np2.length np2C np2 110 [.pointer (some ⟨b99, 0, none⟩), .pointer (some ⟨b5, 0, none⟩), .pointer (some ⟨b11, 0, none⟩)] (fun x0 x1 => F_GreatestSimulation_k2 x0 x1 q8_0 mp0 mp1 mp2 np0 np1 np2) (fun x y => (0 ≤ x ∧ x < mp0) ∧ 0 ≤ y ∧ y < np0) w114 (St.rdR (i := 5) hS116 rfl) (St.rdR (i := 6) hS116 rfl) (St.rdR (i := 2) hS116 rfl) (St.rdR (i := 3) hS116 rfl) (fun _ _ => cf_GreatestSimulation_k2 _ _) (fun x0 x1 w' hx he => c_GreatestSimulation_k2 x0 x1 b99 q8_0A ((q8_0).length) q8_0C q8_0 b5 mp0 mp1A mp1.length mp1C mp1 mp2A mp2.length mp2C mp2 b11 np0 np1A np1.length np1C np1 np2A np2.length np2C np2 w' (RdS.ext (St.rdO (i := 1) hS116 rfl) he) (St.row (i := 0) hS116 rfl w' he) (RdS.ext (St.rdR (i := 5) hS116 rfl) he) (RdS.ext (St.rdR (i := 6) hS116 rfl) he) (St.row (i := 7) hS116 rfl w' he) (RdS.ext (St.rdR (i := 2) hS116 rfl) he) (RdS.ext (St.rdR (i := 3) hS116 rfl) he) (St.row (i := 4) hS116 rfl w' he) hx.1 hx.2 (by omega) (by omega) (by omega) (by omega) (by omega) (l05Is_m (isModel_t (by assumption)).1)) (by omega) (by omega) (fun x y h0 h1 h2 h3 => ⟨⟨h0, h1⟩, h2, h3⟩)) ?_)
          rintro _ w129 ⟨b134, c135, rfl, ho136, he133⟩ a130 hE131; clear hE127
          have hS132 := St.own hS116 he133 ho136; clear hS116
          refine q_step (v := .slice b134 ((F_linkOf mp0 mp1 mp2 np0 np1 np2 (fun x0 x1 => F_GreatestSimulation_k2 x0 x1 q8_0 mp0 mp1 mp2 np0 np1 np2)).length) c135) hE131 (y_assign rfl) rfl rfl rfl ?_; intro a137 hE138; clear hE131
          refine c_nil ?_
          have hE139 := hE138.sub (L' := [(2, .pointer (some ⟨b5, 0, none⟩)), (3, .pointer (some ⟨b11, 0, none⟩)), (6, .pointer (some ⟨b99, 0, none⟩)), (7, .slice b134 ((F_linkOf mp0 mp1 mp2 np0 np1 np2 (fun x0 x1 => F_GreatestSimulation_k2 x0 x1 q8_0 mp0 mp1 mp2 np0 np1 np2)).length) c135)]) ⟨rfl, rfl, rfl, rfl, trivial⟩; clear hE138
          refine p_tn ?_
          refine c_seq ?_
          refine c_seq ?_
          refine c_reg ?_
          refine q_step (v := .slice b134 ((F_linkOf mp0 mp1 mp2 np0 np1 np2 (fun x0 x1 => F_GreatestSimulation_k2 x0 x1 q8_0 mp0 mp1 mp2 np0 np1 np2)).length) c135) hE139 (y_move rfl) rfl rfl rfl ?_; intro a140 hE141; clear hE139
          refine q_step (v := .slice q8_0A ((q8_0).length) q8_0C) hE141 (y_load (fun _ => by kernel_rfl) rfl (St.cell (i := 1) hS132 rfl rfl)) rfl rfl rfl ?_; intro a142 hE143; clear hE141
          refine l_step hE143 rfl (l_call (f := 113) (argv := [.slice b134 ((F_linkOf mp0 mp1 mp2 np0 np1 np2 (fun x0 x1 => F_GreatestSimulation_k2 x0 x1 q8_0 mp0 mp1 mp2 np0 np1 np2)).length) c135, .slice q8_0A ((q8_0).length) q8_0C]) hE143 (fun _ => cf_z_Equal _ _) rfl rfl (c_z_Equal b134 ((F_linkOf mp0 mp1 mp2 np0 np1 np2 (fun x0 x1 => F_GreatestSimulation_k2 x0 x1 q8_0 mp0 mp1 mp2 np0 np1 np2)).length) c135 (F_linkOf mp0 mp1 mp2 np0 np1 np2 (fun x0 x1 => F_GreatestSimulation_k2 x0 x1 q8_0 mp0 mp1 mp2 np0 np1 np2)) q8_0A ((q8_0).length) q8_0C q8_0 w129 (St.rdO (i := 0) hS132 rfl) (St.rdO (i := 2) hS132 rfl)) ?_)
          rintro _ w145 ⟨rfl, he149⟩ a146 hE147; clear hE143
          have hS148 := St.go hS132 he149; clear hS132
          refine c_nil ?_
          have hE150 := hE147.sub (L' := [(2, .pointer (some ⟨b5, 0, none⟩)), (3, .pointer (some ⟨b11, 0, none⟩)), (6, .pointer (some ⟨b99, 0, none⟩)), (7, .slice b134 ((F_linkOf mp0 mp1 mp2 np0 np1 np2 (fun x0 x1 => F_GreatestSimulation_k2 x0 x1 q8_0 mp0 mp1 mp2 np0 np1 np2)).length) c135), (26, .bool (F_z_Equal (F_linkOf mp0 mp1 mp2 np0 np1 np2 (fun x0 x1 => F_GreatestSimulation_k2 x0 x1 q8_0 mp0 mp1 mp2 np0 np1 np2)) q8_0))]) ⟨rfl, rfl, rfl, rfl, rfl, trivial⟩; clear hE147
          refine p_tn ?_
          refine c_cond hE150 rfl (fun ht151 => ?_) (fun ht151 => ?_)
          ·
            have hE152 := hE150; rw [ht151] at hE152; clear hE150
            refine c_seq ?_
            refine c_reg ?_
            refine q_step (v := .slice q8_0A ((q8_0).length) q8_0C) hE152 (y_load (fun _ => by kernel_rfl) rfl (St.cell (i := 1) hS148 rfl rfl)) rfl rfl rfl ?_; intro a153 hE154; clear hE152
            refine q_step (v := .slice q8_0A ((q8_0).length) q8_0C) hE154 (y_assign rfl) rfl rfl rfl ?_; intro a155 hE156; clear hE154
            refine q_step (v := .int .i64 0) hE156 (y_assign rfl) rfl rfl rfl ?_; intro a157 hE158; clear hE156
            refine c_nil ?_
            have hE159 := hE158.sub (L' := [(4, .slice q8_0A ((q8_0).length) q8_0C), (5, .int .i64 0)]) ⟨rfl, rfl, trivial⟩; clear hE158
            refine p_tn ?_
            refine wp_ret ?_
            refine p_tr ?_
            refine p_br ?_
            have hX160 : F_GreatestSimulation_L1 mp0 mp1 mp2 np0 np1 np2 (sumN (F_linkOf mp0 mp1 mp2 np0 np1 np2 (fun x0 x1 => F_GreatestSimulation_k1 x0 x1 mp0 mp1 mp2 np0 np1 np2)) + 1) (F_linkOf mp0 mp1 mp2 np0 np1 np2 (fun x0 x1 => F_GreatestSimulation_k1 x0 x1 mp0 mp1 mp2 np0 np1 np2)) = .error (q8_0, 0) := hT117.symm.trans (show F_GreatestSimulation_L1b mp0 mp1 mp2 np0 np1 np2 (F_GreatestSimulation_L1 mp0 mp1 mp2 np0 np1 np2 r121) q8_0 = .error (q8_0, 0) by unfold F_GreatestSimulation_L1b; rw [ht151]; first | done | rfl)
            refine p_tr (p_br (p_tr ?_))
            have hF : F_GreatestSimulation mp0 mp1 mp2 np0 np1 np2 = (q8_0, 0) := by unfold F_GreatestSimulation; rw [hX160, ht70]; first | done | rfl
            refine c_ret2 hE159 rfl rfl rfl ?_
            exact ⟨q8_0A, q8_0C, (by rw [hF]; first | done | rfl), (by rw [hF]; exact hS148.ok 2 _ rfl), hS148.ext⟩
          ·
            have hE161 := hE150; rw [ht151] at hE161; clear hE150
            refine wp_skip ?_
            refine p_tn ?_
            refine c_reg ?_
            refine q_step (v := .slice b134 ((F_linkOf mp0 mp1 mp2 np0 np1 np2 (fun x0 x1 => F_GreatestSimulation_k2 x0 x1 q8_0 mp0 mp1 mp2 np0 np1 np2)).length) c135) hE161 (y_move rfl) rfl rfl rfl ?_; intro a162 hE163; clear hE161
            refine l_step hE163 rfl (l_storeB (k := 1) (cs' := #[.slice b134 ((F_linkOf mp0 mp1 mp2 np0 np1 np2 (fun x0 x1 => F_GreatestSimulation_k2 x0 x1 q8_0 mp0 mp1 mp2 np0 np1 np2)).length) c135]) hS148 hE163 (fun _ => by kernel_rfl) rfl rfl rfl rfl rfl rfl rfl ?_)
            intro w165 hS168 a166 hE167; clear hS148 hE163
            refine c_nil ?_
            have hE170 := hE167.sub (L' := [(2, .pointer (some ⟨b5, 0, none⟩)), (3, .pointer (some ⟨b11, 0, none⟩)), (6, .pointer (some ⟨b99, 0, none⟩))]) ⟨rfl, rfl, rfl, trivial⟩; clear hE167
            refine p_bn ?_
            refine p_tn ⟨r121, Nat.lt_succ_self _, F_linkOf mp0 mp1 mp2 np0 np1 np2 (fun x0 x1 => F_GreatestSimulation_k2 x0 x1 q8_0 mp0 mp1 mp2 np0 np1 np2), b134, c135, (hT117.symm.trans (show F_GreatestSimulation_L1b mp0 mp1 mp2 np0 np1 np2 (F_GreatestSimulation_L1 mp0 mp1 mp2 np0 np1 np2 r121) q8_0 = F_GreatestSimulation_L1 mp0 mp1 mp2 np0 np1 np2 r121 (F_linkOf mp0 mp1 mp2 np0 np1 np2 (fun x0 x1 => F_GreatestSimulation_k2 x0 x1 q8_0 mp0 mp1 mp2 np0 np1 np2)) by unfold F_GreatestSimulation_L1b; rw [ht151]; first | done | rfl)).symm, (by have := hst.2.2 (by assumption); omega), hst.1, hst.2.1, (hE170.sub (L' := [(2, .pointer (some ⟨b5, 0, none⟩)), (3, .pointer (some ⟨b11, 0, none⟩)), (6, .pointer (some ⟨b99, 0, none⟩))]) ⟨rfl, rfl, rfl, trivial⟩), (St.pick (Γ' := [.blk b99 #[.slice b134 ((F_linkOf mp0 mp1 mp2 np0 np1 np2 (fun x0 x1 => F_GreatestSimulation_k2 x0 x1 q8_0 mp0 mp1 mp2 np0 np1 np2)).length) c135] 22, .own 2 1 b134 ((F_linkOf mp0 mp1 mp2 np0 np1 np2 (fun x0 x1 => F_GreatestSimulation_k2 x0 x1 q8_0 mp0 mp1 mp2 np0 np1 np2)).length) c135 (F_linkOf mp0 mp1 mp2 np0 np1 np2 (fun x0 x1 => F_GreatestSimulation_k2 x0 x1 q8_0 mp0 mp1 mp2 np0 np1 np2)), .rd 1 np1A np1.length np1C np1, .rd 1 np2A np2.length np2C np2, .blk b11 #[.int .i64 np0, .slice np1A np1.length np1C, .slice np2A np2.length np2C] 38, .rd 1 mp1A mp1.length mp1C mp1, .rd 1 mp2A mp2.length mp2C mp2, .blk b5 #[.int .i64 mp0, .slice mp1A mp1.length mp1C, .slice mp2A mp2.length mp2C] 38]) hS168 [1, 0, 3, 4, 5, 6, 7, 8] (by decide) rfl)⟩
      ·
        intro _ _ h; exact h.elim

theorem within_truths {mp0 np0 : Int} {mp1 mp2 np1 np2 : List Int} (x y : Int) (hm : (mp2.length : Int) = 6) (hn : (np2.length : Int) = 6) : F_within (F_Model_truths mp0 mp1 mp2 x) (F_Model_truths np0 np1 np2 y) = (List.range mp2.length).all (fun (v : Nat) => !F_has (gI mp2 (v : Int)) x || F_has (gI np2 (v : Int)) y) := by
  obtain ⟨a1, a2⟩ := truths_bits (mp0 := mp0) (mp1 := mp1) x hm
  obtain ⟨b1, b2⟩ := truths_bits (mp0 := np0) (mp1 := np1) y hn
  rw [Bool.eq_iff_iff, within_bits (by omega) a1 b1, List.all_eq_true, show mp2.length = 6 by omega]
  constructor
  · intro h j hj
    have hj := List.mem_range.1 hj
    cases e : F_has (gI mp2 (j : Int)) x
    · rfl
    · have := (b2 j).1 (h j ((a2 j).2 ⟨hj, e⟩))
      rw [this.2]; rfl
  · intro h j hj
    have := (a2 j).1 hj
    have h1 := h j (List.mem_range.2 this.1)
    rw [this.2, Bool.not_true, Bool.false_or] at h1
    exact (b2 j).2 ⟨this.1, h1⟩
theorem forth_mono {n : Nat} (hn : n ≤ 8) {l l' : List Int} (hll : l.length = l'.length) (hl8 : l.length ≤ 62) {a b : Int} (hb : Mk n b) (hk : ∀ i : Nat, i < l.length → Mk n (gI l (i : Int))) (hk' : ∀ i : Nat, i < l.length → Mk n (gI l' (i : Int))) (hsub : ∀ i y : Nat, i < l.length → rb l i y = true → rb l' i y = true) (h : F_l07Forth l a b = true) : F_l07Forth l' a b = true := by
  rw [l07Forth_eq, List.all_eq_true] at h ⊢
  rw [← hll]
  intro i hi
  have hi' := List.mem_range.1 hi
  have := h i hi
  cases hs : F_has a (i : Int)
  · rfl
  · rw [hs, Bool.true_and, Bool.not_eq_true', decide_eq_false_iff_not] at this
    rw [Bool.true_and, Bool.not_eq_true', decide_eq_false_iff_not]
    intro hz
    apply this
    rw [Mk.andz (n := n) (by omega) (hk i hi') hb]
    rw [Mk.andz (n := n) (by omega) (hk' i hi') hb] at hz
    exact fun j hj => hz j (hsub i j hi' hj)
/-- A simulation, as a relation of worlds. -/
def SimL (mp0 : Int) (mp1 mp2 : List Int) (np0 : Int) (np1 np2 : List Int) (S : List Int) : Prop := (S.length : Int) = mp0 ∧ LkI mp0 np0 S ∧ ∀ x y : Nat, (x : Int) < mp0 → rb S x y = true → goodB mp1 mp2 np1 np2 S x y = true
theorem good_mono {mp0 np0 : Int} {mp1 mp2 np1 np2 : List Int} (hm : 0 ≤ mp0 ∧ mp0 ≤ 8) (hn : 0 ≤ np0 ∧ np0 ≤ 8) (hnk : ∀ m : Int, 0 ≤ m → m < np0 → 0 ≤ gI np1 m ∧ gI np1 m ≤ fullI np0) {S l : List Int} (hS : (S.length : Int) = mp0 ∧ LkI mp0 np0 S) (hl : (l.length : Int) = mp0 ∧ LkI mp0 np0 l) (hsub : ∀ x y : Nat, (x : Int) < mp0 → rb S x y = true → rb l x y = true) (x y : Nat) (hy : (y : Int) < np0) (h : goodB mp1 mp2 np1 np2 S x y = true) : goodB mp1 mp2 np1 np2 l x y = true := by
  unfold goodB at h ⊢
  rw [Bool.and_eq_true] at h ⊢
  have hb := hnk (y : Int) (by omega) hy
  exact ⟨forth_mono (n := np0.toNat) (by omega) (by omega) (by omega) ⟨hb.1, by rw [show ((np0.toNat : Nat) : Int) = np0 by omega]; exact hb.2⟩ (fun i hi => hS.2 i (by omega)) (fun i hi => hl.2 i (by omega)) (fun i y hi => hsub i y (by omega)) h.1, h.2⟩
/-- The greatest of them. -/
def GreatL (mp0 : Int) (mp1 mp2 : List Int) (np0 : Int) (np1 np2 : List Int) (l : List Int) : Prop := SimL mp0 mp1 mp2 np0 np1 np2 l ∧ ∀ S, SimL mp0 mp1 mp2 np0 np1 np2 S → ∀ x y : Nat, (x : Int) < mp0 → rb S x y = true → rb l x y = true
theorem GreatL.uniq {mp0 np0 : Int} {mp1 mp2 np1 np2 : List Int} {l l' : List Int} (h : GreatL mp0 mp1 mp2 np0 np1 np2 l) (h' : GreatL mp0 mp1 mp2 np0 np1 np2 l') : l = l' := by
  have hl := h.1.1; have hl' := h'.1.1
  apply ext_gi (by omega)
  intro k hk
  have e : gI l (k : Int) = gI l' (k : Int) := by
    apply tb_ext (h.1.2.1 k (by omega)).1 (h'.1.2.1 k (by omega)).1
    intro j
    have e1 := h'.2 l h.1 k j (by omega)
    have e2 := h.2 l' h'.1 k j (by omega)
    unfold rb at e1 e2
    rw [Bool.eq_iff_iff]; exact ⟨e1, e2⟩
  unfold gI at e
  rwa [Int.toNat_natCast] at e
theorem GSs_loop {mp0 np0 : Int} {mp1 mp2 np1 np2 : List Int} (hm : 0 ≤ mp0 ∧ mp0 ≤ 8) (hn : 0 ≤ np0 ∧ np0 ≤ 8) (hnk : ∀ m : Int, 0 ≤ m → m < np0 → 0 ≤ gI np1 m ∧ gI np1 m ≤ fullI np0) : ∀ (r : Nat) (link : List Int), sumN link < r → (link.length : Int) = mp0 → LkI mp0 np0 link → (∀ S, SimL mp0 mp1 mp2 np0 np1 np2 S → ∀ x y : Nat, (x : Int) < mp0 → rb S x y = true → rb link x y = true) →
    ∃ l, F_s_GreatestSimulation_L2 mp0 mp1 mp2 np0 np1 np2 r link = .error (l, 0) ∧ GreatL mp0 mp1 mp2 np0 np1 np2 l := by
  intro r
  induction r with
  | zero => intro link h; omega
  | succ r ih =>
    intro link h hl hk hS
    obtain ⟨g1, g2, g3⟩ := GSs_step (mp1 := mp1) (mp2 := mp2) (np1 := np1) (np2 := np2) hm hn hl hk
    have g4 := (GSs_bits (mp1 := mp1) (mp2 := mp2) (np1 := np1) (np2 := np2) hm hn hl hk).2
    have e : F_s_GreatestSimulation_L2 mp0 mp1 mp2 np0 np1 np2 (r + 1) link = bif F_l01Same ((F_s_GreatestSimulation_L3 mp0 mp1 mp2 np0 np1 np2 link (Int.toNat (((F_l07Below mp0 mp1 mp2 np0 np1 np2 link).length : Int) - 0) + 1) 0 (F_l07Below mp0 mp1 mp2 np0 np1 np2 link)).2) link then (.error (link, 0)) else (F_s_GreatestSimulation_L2 mp0 mp1 mp2 np0 np1 np2 r ((F_s_GreatestSimulation_L3 mp0 mp1 mp2 np0 np1 np2 link (Int.toNat (((F_l07Below mp0 mp1 mp2 np0 np1 np2 link).length : Int) - 0) + 1) 0 (F_l07Below mp0 mp1 mp2 np0 np1 np2 link)).2)) := rfl
    rw [e]
    cases hs : F_l01Same ((F_s_GreatestSimulation_L3 mp0 mp1 mp2 np0 np1 np2 link (Int.toNat (((F_l07Below mp0 mp1 mp2 np0 np1 np2 link).length : Int) - 0) + 1) 0 (F_l07Below mp0 mp1 mp2 np0 np1 np2 link)).2) link
    · rw [cond_false]
      have := g3 hs
      refine ih _ (by omega) g1 g2 fun S hSim x y hx hxy => ?_
      rw [g4 x y hx, Bool.and_eq_true]
      exact ⟨good_mono hm hn hnk ⟨hSim.1, hSim.2.1⟩ ⟨hl, hk⟩ (hS S hSim) x y (by have := tb_lt (hSim.2.1 x hx) hxy; omega) (hSim.2.2 x y hx hxy), hS S hSim x y hx hxy⟩
    · rw [cond_true]
      refine ⟨link, rfl, ⟨hl, hk, fun x y hx hxy => ?_⟩, hS⟩
      rw [l01Same_eq, decide_eq_true_iff] at hs
      rw [hs] at g4
      have := g4 x y hx
      rw [hxy] at this
      exact (Bool.and_eq_true _ _ ▸ this.symm : goodB mp1 mp2 np1 np2 link x y = true ∧ true = true).1
theorem GSi_loop {mp0 np0 : Int} {mp1 mp2 np1 np2 : List Int} (hm : 0 ≤ mp0 ∧ mp0 ≤ 8) (hn : 0 ≤ np0 ∧ np0 ≤ 8) (hmk : ∀ m : Int, 0 ≤ m → m < mp0 → 0 ≤ gI mp1 m ∧ gI mp1 m ≤ fullI mp0) (hnk : ∀ m : Int, 0 ≤ m → m < np0 → 0 ≤ gI np1 m ∧ gI np1 m ≤ fullI np0) : ∀ (r : Nat) (link : List Int), sumN link < r → (link.length : Int) = mp0 → LkI mp0 np0 link → (∀ S, SimL mp0 mp1 mp2 np0 np1 np2 S → ∀ x y : Nat, (x : Int) < mp0 → rb S x y = true → rb link x y = true) →
    (∀ x y : Nat, (x : Int) < mp0 → rb link x y = true → (List.range mp2.length).all (fun (v : Nat) => !F_has (gI mp2 (v : Int)) (x : Int) || F_has (gI np2 (v : Int)) (y : Int)) = true) →
    ∃ l, F_GreatestSimulation_L1 mp0 mp1 mp2 np0 np1 np2 r link = .error (l, 0) ∧ GreatL mp0 mp1 mp2 np0 np1 np2 l := by
  intro r
  induction r with
  | zero => intro link h; omega
  | succ r ih =>
    intro link h hl hk hS hbase
    obtain ⟨g1, g2, g3⟩ := GSi_step (mp1 := mp1) (mp2 := mp2) (np1 := np1) (np2 := np2) hm hn hl hk
    have g4 := (GSi_bits (mp1 := mp1) (mp2 := mp2) (np1 := np1) (np2 := np2) hm hn hk).2
    have hf : ∀ x y : Nat, (x : Int) < mp0 → F_forth mp0 mp1 mp2 np0 np1 np2 link (x : Int) (y : Int) = F_l07Forth link (gI mp1 (x : Int)) (gI np1 (y : Int)) := fun x y hx => by
      have := hmk (x : Int) (by omega) hx
      exact forth_eq _ _ _ _ _ _ _ _ _ (by omega) this.1 (by rw [hl]; exact this.2)
    have e : F_GreatestSimulation_L1 mp0 mp1 mp2 np0 np1 np2 (r + 1) link = bif F_z_Equal (F_linkOf mp0 mp1 mp2 np0 np1 np2 (fun x0 x1 => F_GreatestSimulation_k2 x0 x1 link mp0 mp1 mp2 np0 np1 np2)) link then (.error (link, 0)) else (F_GreatestSimulation_L1 mp0 mp1 mp2 np0 np1 np2 r (F_linkOf mp0 mp1 mp2 np0 np1 np2 (fun x0 x1 => F_GreatestSimulation_k2 x0 x1 link mp0 mp1 mp2 np0 np1 np2))) := rfl
    rw [e]
    cases hs : F_z_Equal (F_linkOf mp0 mp1 mp2 np0 np1 np2 (fun x0 x1 => F_GreatestSimulation_k2 x0 x1 link mp0 mp1 mp2 np0 np1 np2)) link
    · rw [cond_false]
      have := g3 hs
      refine ih _ (by omega) g1 g2 (fun S hSim x y hx hxy => ?_) (fun x y hx hxy => ?_)
      · rw [g4 x y hx, Bool.and_eq_true, hf x y hx]
        have := good_mono hm hn hnk ⟨hSim.1, hSim.2.1⟩ ⟨hl, hk⟩ (hS S hSim) x y (by have := tb_lt (hSim.2.1 x hx) hxy; omega) (hSim.2.2 x y hx hxy)
        unfold goodB at this
        rw [Bool.and_eq_true] at this
        exact ⟨hS S hSim x y hx hxy, this.1⟩
      · rw [g4 x y hx, Bool.and_eq_true] at hxy
        exact hbase x y hx hxy.1
    · rw [cond_true]
      refine ⟨link, rfl, ⟨hl, hk, fun x y hx hxy => ?_⟩, hS⟩
      rw [z_Equal_eq, decide_eq_true_iff] at hs
      rw [hs] at g4
      have h1 := g4 x y hx
      rw [hxy, hf x y hx] at h1
      unfold goodB
      rw [Bool.and_eq_true]
      exact ⟨(Bool.and_eq_true _ _ ▸ h1.symm : true = true ∧ F_l07Forth link (gI mp1 (x : Int)) (gI np1 (y : Int)) = true).2, hbase x y hx hxy⟩
theorem GreatestSimulation_eq (mp0 : Int) (mp1 mp2 : List Int) (np0 : Int) (np1 np2 : List Int) : F_GreatestSimulation mp0 mp1 mp2 np0 np1 np2 = F_s_GreatestSimulation mp0 mp1 mp2 np0 np1 np2 ∧ (F_GreatestSimulation mp0 mp1 mp2 np0 np1 np2).1.length ≤ 8 := by
  unfold F_GreatestSimulation F_s_GreatestSimulation
  rw [isModel_eq, isModel_eq, show F_l07Two mp0 mp1 mp2 np0 np1 np2 = bif ((!(F_l06Is mp0 mp1 mp2)) || (!(F_l06Is np0 np1 np2))) then 1 else 0 from rfl]
  cases h : ((!(F_l06Is mp0 mp1 mp2)) || (!(F_l06Is np0 np1 np2)))
  · obtain ⟨h1, h2⟩ := bor_f h
    have hM := l06Is_t (bn_f h1)
    have hN := l06Is_t (bn_f h2)
    have hm := hM.2.1.1
    have hn := hN.2.1.1
    have hmk : ∀ m : Int, 0 ≤ m → m < mp0 → 0 ≤ gI mp1 m ∧ gI mp1 m ≤ fullI mp0 := fun m h0 h1 => l05Is_m hM.1 m h0 (by omega)
    have hnk : ∀ m : Int, 0 ≤ m → m < np0 → 0 ≤ gI np1 m ∧ gI np1 m ≤ fullI np0 := fun m h0 h1 => l05Is_m hN.1 m h0 (by omega)
    rw [cond_false, cond_false, show decide ((0 : Int) = 0) = true from rfl, Bool.not_true, cond_false]
    obtain ⟨s1, s2, s3⟩ := GSs_start hm hn
    obtain ⟨l, e1, G1⟩ := GSs_loop (mp1 := mp1) (mp2 := mp2) (np1 := np1) (np2 := np2) hm hn hnk _ _ (Nat.lt_succ_self _) s1 s2 (fun S hSim x y hx hxy => s3 x y hx (by have := tb_lt (hSim.2.1 x hx) hxy; omega))
    have i1 := linkOf_len mp1 mp2 np1 np2 hm hn (fun x0 x1 => F_GreatestSimulation_k1 x0 x1 mp0 mp1 mp2 np0 np1 np2)
    obtain ⟨i2, i3⟩ := linkOf_bits mp1 mp2 np1 np2 hm hn (fun x0 x1 => F_GreatestSimulation_k1 x0 x1 mp0 mp1 mp2 np0 np1 np2)
    have i4 : ∀ x y : Nat, (x : Int) < mp0 → rb (F_linkOf mp0 mp1 mp2 np0 np1 np2 (fun x0 x1 => F_GreatestSimulation_k1 x0 x1 mp0 mp1 mp2 np0 np1 np2)) x y = (decide (y < np0.toNat) && (List.range mp2.length).all (fun (v : Nat) => !F_has (gI mp2 (v : Int)) (x : Int) || F_has (gI np2 (v : Int)) (y : Int))) := fun x y hx => by
      rw [i3 x y hx, ← within_truths (mp0 := mp0) (mp1 := mp1) (np0 := np0) (np1 := np1) (x : Int) (y : Int) hM.2.2.1 hN.2.2.1]; rfl
    obtain ⟨l', e2, G2⟩ := GSi_loop (mp1 := mp1) (mp2 := mp2) (np1 := np1) (np2 := np2) hm hn hmk hnk _ _ (Nat.lt_succ_self _) i1 i2 (fun S hSim x y hx hxy => by
      rw [i4 x y hx, decide_eq_true (tb_lt (hSim.2.1 x hx) hxy), Bool.true_and]
      have := hSim.2.2 x y hx hxy
      unfold goodB at this
      rw [Bool.and_eq_true] at this; exact this.2) (fun x y hx hxy => by
      rw [i4 x y hx, Bool.and_eq_true] at hxy; exact hxy.2)
    rw [e1, e2, G1.uniq G2]
    refine ⟨rfl, ?_⟩
    show l'.length ≤ 8
    have := G2.1.1; omega
  · rw [cond_true, cond_true]
    refine ⟨rfl, ?_⟩
    simp
theorem GreatestSimulation_len (mp0 : Int) (mp1 mp2 : List Int) (np0 : Int) (np1 np2 : List Int) : (F_GreatestSimulation mp0 mp1 mp2 np0 np1 np2).1.length ≤ 8 := (GreatestSimulation_eq mp0 mp1 mp2 np0 np1 np2).2

end Go.Proofs.Ytejfjcjdilbkdaa
