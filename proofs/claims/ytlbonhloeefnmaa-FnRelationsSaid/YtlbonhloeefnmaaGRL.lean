/- GRL: models and contracts, printed by wip/gen/gen.py -/
import Derived.Test.YtlbonhloeefnmaaGDR
import Derived.Test.YtlbonhloeefnmaaGRC
import Derived.Test.YtlbonhloeefnmaaGCF
set_option linter.unusedVariables false
set_option linter.unusedSimpArgs false
namespace Go.Proofs.Ytlbonhloeefnmaa
open Go.RowKit

theorem tr1_least {n : Nat} (hn : n ≤ 30) (a : List Int) (hl : a.length = n) (S : Nat → Nat → Prop) (hT : ∀ i k j, S i k → S k j → S i j) : ∀ (d k : Nat) (b : List Int), k + d = n → Rl n b → (∀ i j, i < n → rb b i j = true → S i j) → ∀ i j, i < n → rb (F_transitive_L1 a (d + 1) (k : Int) b).2 i j = true → S i j := by
  intro d
  induction d with
  | zero =>
    intro k b hk hb h
    show ∀ i j, i < n → rb (F_transitive_L1b a _ _ b).2 i j = true → S i j
    unfold F_transitive_L1b
    rw [decide_eq_false (by omega), cond_false]
    exact h
  | succ d ih =>
    intro k b hk hb h
    show ∀ i j, i < n → rb (F_transitive_L1b a _ _ b).2 i j = true → S i j
    unfold F_transitive_L1b
    rw [decide_eq_true (by omega), cond_true, show (k : Int) + 1 = ((k + 1 : Nat) : Int) by omega, show Int.toNat ((a.length : Int) - 0) = n by omega]
    obtain ⟨h4, h5⟩ := tr2_key hn a hl k (by omega) b hb n 0 b (by omega) hb (fun x j hx => by omega) (fun x j _ => rfl)
    refine ih (k + 1) _ (by omega) h4 fun i j hi hij => ?_
    have e := (h5 i j hi).symm.trans hij
    rw [Bool.or_eq_true, Bool.and_eq_true] at e
    rcases e with e | ⟨e1, e2⟩
    · exact h i j hi e
    · exact hT i k j (h i k hi e1) (h k j (by omega) e2)
theorem transitive_least {n : Nat} (hn : n ≤ 30) {a : List Int} (ha : Rl n a) (S : Nat → Nat → Prop) (hT : ∀ i k j, S i k → S k j → S i j) (hS : ∀ i j, i < n → rb a i j = true → S i j) : ∀ i j, i < n → rb (F_transitive a) i j = true → S i j := by
  unfold F_transitive
  have hl := ha.1
  rw [show Int.toNat ((a.length : Int) - 0) = n by omega]
  exact tr1_least hn a hl S hT n 0 a (by omega) ha hS
theorem rl_ext {n : Nat} {a b : List Int} (ha : Rl n a) (hb : Rl n b) (h : ∀ i j, i < n → rb a i j = rb b i j) : a = b := by
  have l1 := ha.1; have l2 := hb.1
  apply ext_gi (by omega)
  intro k hk
  have e : gI a (k : Int) = gI b (k : Int) := tb_ext (ha.2 k (by omega)).1 (hb.2 k (by omega)).1 fun j => h k j (by omega)
  unfold gI at e
  rwa [Int.toNat_natCast] at e
theorem inverse_bits {n : Nat} (hn : n ≤ 30) {a : List Int} (ha : Rl n a) : Rl n (F_inverse a) ∧ ∀ i j, i < n → rb (F_inverse a) i j = (decide (j < n) && rb a j i) := by
  have hl := ha.1
  obtain ⟨r1, r2⟩ := l01Inverse_rows a
  rw [inverse_eq hn ha]
  have key : ∀ i : Nat, i < n → Mk n (gI (F_l01Inverse a) (i : Int)) ∧ ∀ j, tb (gI (F_l01Inverse a) (i : Int)) j = (decide (j < n) && F_l01Bit (gI a (j : Int)) (i : Int)) := fun i hi => by
    rw [r2 i (by omega), hl]
    exact pow_fold (n := n) (by omega) (fun j => F_l01Bit (gI a (j : Int)) (i : Int))
  refine ⟨⟨by omega, fun i hi => (key i hi).1⟩, fun i j hi => ?_⟩
  unfold rb
  rw [(key i hi).2 j]
  by_cases hj : j < n
  · congr 1
    exact tb_has (n := n) (by omega) (ha.2 j hj) (by omega)
  · rw [decide_eq_false hj]; rfl

theorem l01Rel_t {a : List Int} (h : F_l01Relation a = 0) : a.length ≤ 30 ∧ F_l01Masks (a.length : Int) a = true := by
  unfold F_l01Relation at h
  by_cases h1 : 30 < (a.length : Int)
  · rw [decide_eq_true h1] at h; simp at h
  · rw [decide_eq_false h1] at h
    cases h2 : F_l01Masks (a.length : Int) a
    · rw [h2] at h; simp at h
    · exact ⟨by omega, rfl⟩
theorem relCode1_rel (a : List Int) : F_relationCode [a] = F_l01Relation a := by
  rw [relCode1]
  unfold F_l01Relation
  by_cases h1 : 30 < (a.length : Int)
  · rw [decide_eq_true h1, cond_true, cond_true]
  · rw [decide_eq_false h1, cond_false, cond_false, isRel_eq (by omega)]
    cases F_l01Masks (a.length : Int) a <;> rfl
theorem relCode1_bd (a : List Int) : 0 ≤ F_relationCode [a] ∧ F_relationCode [a] ≤ 2 := by
  rw [relCode1]
  cases decide (30 < (a.length : Int)) <;> cases F_isRelation a <;> simp
theorem relCode1_all {a : List Int} (h : F_relationCode [a] = 0) : ∀ m : Int, 0 ≤ m → m < (a.length : Int) → 0 ≤ gI a m ∧ gI a m ≤ fullI (a.length : Int) := fun m h0 h1 => by
  have ht := relCode1_t h
  have := isRel_all ht.1 ht.2 m h0 h1
  omega

def F_maskCode (np : Int) (mask : Int) : Int :=
  bif (!(F_inRange np 0 30)) then 2 else (bif (!(F_isMask np mask)) then 1 else 0)
theorem cf_maskCode (args : Array Value) (w : World) : (callFunc 202 args).run Try.prog w = .ok (.enter 202 args) w := by kernel_rfl
set_option maxRecDepth 100000 in
theorem c_maskCode (np : Int) (mask : Int) (w : World) :
    Calls Try.prog 202 #[.int .i64 np, .int .i64 mask] w (Ret fun v w' => v = .int .i64 (F_maskCode np mask) ∧ w = w') := by
  have hS := St.nil w
  refine enter (args := [.int .i64 np, .int .i64 mask]) Try.func202 rfl rfl ?_
  rw [Try.ntmps202]; intro a hE
  have hE := hE.sub (L' := [(0, .int .i64 np), (1, .int .i64 mask)]) ⟨rfl, rfl, trivial⟩
  refine c_seq ?_
  refine c_reg ?_
  refine q_step (v := .int .i64 0) hE (y_assign rfl) rfl rfl rfl ?_; intro a1 hE2; clear hE
  refine c_nil ?_
  have hE3 := hE2.sub (L' := [(0, .int .i64 np), (1, .int .i64 mask)]) ⟨rfl, rfl, trivial⟩; clear hE2
  refine p_tn ?_
  refine c_seq ?_
  refine wp_block ?_
  refine c_seq ?_
  refine c_reg ?_
  refine q_step (v := .int .i64 np) hE3 (y_move rfl) rfl rfl rfl ?_; intro a4 hE5; clear hE3
  refine l_step hE5 rfl (l_call (f := 87) (argv := [.int .i64 np, .int .i64 0, .int .i64 30]) hE5 (fun _ => cf_inRange _ _) rfl rfl (c_inRange np 0 30 w) ?_)
  rintro _ _ ⟨rfl, rfl⟩ a8 hE9; clear hE5
  refine q_step (v := .bool (!(F_inRange np 0 30))) hE9 (y_not rfl) rfl rfl rfl ?_; intro a12 hE13; clear hE9
  refine q_step (v := .bool (!(F_inRange np 0 30))) hE13 (y_assign rfl) rfl rfl rfl ?_; intro a14 hE15; clear hE13
  refine c_nil ?_
  have hE16 := hE15.sub (L' := [(0, .int .i64 np), (1, .int .i64 mask), (5, .bool (!(F_inRange np 0 30)))]) ⟨rfl, rfl, rfl, trivial⟩; clear hE15
  refine p_tn ?_
  refine c_cond hE16 rfl (fun ht17 => ?_) (fun ht17 => ?_)
  ·
   have ht18 := bn_t ht17
   have hE19 := hE16; rw [ht17] at hE19; clear hE16
   refine c_seq ?_
   refine c_reg ?_
   refine q_step (v := .int .i64 2) hE19 (y_assign rfl) rfl rfl rfl ?_; intro a20 hE21; clear hE19
   refine c_nil ?_
   have hE22 := hE21.sub (L' := [(4, .int .i64 2)]) ⟨rfl, trivial⟩; clear hE21
   refine p_tn ?_
   refine wp_ret ?_
   refine p_br ?_
   refine p_tr ?_
   have hF : F_maskCode np mask = 2 := by unfold F_maskCode; rw [ht17]; first | done | rfl
   refine c_ret1 hE22 rfl rfl ?_
   exact ⟨(by rw [hF]; first | done | (dsimp only; done) | rfl), rfl⟩
  ·
   have ht23 := bn_f ht17
   have hE24 := hE16; rw [ht17] at hE24; clear hE16
   refine c_seq ?_
   refine c_reg ?_
   refine q_step (v := .int .i64 np) hE24 (y_move rfl) rfl rfl rfl ?_; intro a25 hE26; clear hE24
   refine q_step (v := .int .i64 mask) hE26 (y_move rfl) rfl rfl rfl ?_; intro a27 hE28; clear hE26
   refine l_step hE28 rfl (l_call (f := 148) (argv := [.int .i64 np, .int .i64 mask]) hE28 (fun _ => cf_isMask _ _) rfl rfl (c_isMask np mask w) ?_)
   rintro _ _ ⟨rfl, rfl⟩ a31 hE32; clear hE28
   refine q_step (v := .bool (!(F_isMask np mask))) hE32 (y_not rfl) rfl rfl rfl ?_; intro a35 hE36; clear hE32
   refine q_step (v := .bool (!(F_isMask np mask))) hE36 (y_assign rfl) rfl rfl rfl ?_; intro a37 hE38; clear hE36
   refine c_nil ?_
   have hE39 := hE38.sub (L' := [(9, .bool (!(F_isMask np mask)))]) ⟨rfl, trivial⟩; clear hE38
   refine p_tn ?_
   refine c_cond hE39 rfl (fun ht40 => ?_) (fun ht40 => ?_)
   ·
    have ht41 := bn_t ht40
    have hE42 := hE39; rw [ht40] at hE42; clear hE39
    refine c_seq ?_
    refine c_reg ?_
    refine q_step (v := .int .i64 1) hE42 (y_assign rfl) rfl rfl rfl ?_; intro a43 hE44; clear hE42
    refine c_nil ?_
    have hE45 := hE44.sub (L' := [(4, .int .i64 1)]) ⟨rfl, trivial⟩; clear hE44
    refine p_tn ?_
    refine wp_ret ?_
    refine p_br ?_
    refine p_tr ?_
    have hF : F_maskCode np mask = 1 := by unfold F_maskCode; rw [ht40, ht17]; first | done | rfl
    refine c_ret1 hE45 rfl rfl ?_
    exact ⟨(by rw [hF]; first | done | (dsimp only; done) | rfl), rfl⟩
   ·
    have ht46 := bn_f ht40
    have hE47 := hE39; rw [ht40] at hE47; clear hE39
    refine wp_skip ?_
    refine p_bn ?_
    refine p_tn ?_
    refine c_seq ?_
    refine c_reg ?_
    refine q_step (v := .int .i64 0) hE47 (y_assign rfl) rfl rfl rfl ?_; intro a48 hE49; clear hE47
    refine c_nil ?_
    have hE50 := hE49.sub (L' := [(4, .int .i64 0)]) ⟨rfl, trivial⟩; clear hE49
    refine p_tn ?_
    refine wp_ret ?_
    have hF : F_maskCode np mask = 0 := by unfold F_maskCode; rw [ht40, ht17]; first | done | rfl
    refine c_ret1 hE50 rfl rfl ?_
    exact ⟨(by rw [hF]; first | done | (dsimp only; done) | rfl), rfl⟩

def F_maskOn (ap : List Int) (mask : Int) : Int :=
  bif (!decide ((F_relationCode ([ap])) = 0)) then (F_relationCode ([ap])) else (F_maskCode (ap.length : Int) mask)
theorem cf_maskOn (args : Array Value) (w : World) : (callFunc 118 args).run Try.prog w = .ok (.enter 118 args) w := by kernel_rfl
set_option maxRecDepth 100000 in
theorem c_maskOn (apA : Option Addr) (apN apC : Nat) (ap : List Int) (mask : Int) (w : World) (apR : RdS w 1 apA apN apC ap) (hl : ap.length ≤ 1000) :
    Calls Try.prog 118 #[.slice apA apN apC, .int .i64 mask] w (Ret fun v w' => v = .int .i64 (F_maskOn ap mask) ∧ Ext w w') := by
  obtain rfl : apN = ap.length := apR.len1.symm
  have apLe := apR.le
  have hS := St.nil w
  have hS1 := St.rd0 hS rfl apR; clear hS
  refine enter (args := [.slice apA ap.length apC, .int .i64 mask]) Try.func118 rfl rfl ?_
  rw [Try.ntmps118]; intro a hE
  have hE := hE.sub (L' := [(0, .slice apA ap.length apC), (1, .int .i64 mask)]) ⟨rfl, rfl, trivial⟩
  refine c_seq ?_
  refine c_reg ?_
  refine q_step (v := .int .i64 0) hE (y_assign rfl) rfl rfl rfl ?_; intro a2 hE3; clear hE
  refine c_nil ?_
  have hE4 := hE3.sub (L' := [(0, .slice apA ap.length apC), (1, .int .i64 mask)]) ⟨rfl, rfl, trivial⟩; clear hE3
  refine p_tn ?_
  refine c_seq ?_
  refine c_seq ?_
  refine c_reg ?_
  refine q_step (v := .slice apA ap.length apC) hE4 (y_move rfl) rfl rfl rfl ?_; intro a5 hE6; clear hE4
  refine l_step hE6 rfl (l_litN (e := 22) (s := 1) (rows := [(⟨apA, ap.length, apC⟩, ap)]) (hs := [⟨apA, ap.length, apC⟩]) (xss := [ap]) (vs := [.slice apA ap.length apC]) hS1 hE6 rfl rfl rfl rfl (fun _ => by kernel_rfl) ⟨⟨(St.rdR (i := 0) hS1 rfl), (St.robR (i := 0) hS1 rfl)⟩, trivial⟩ rfl rfl rfl ?_)
  intro b7 w8 hS11 he12 a9 hE10; clear hS1 hE6
  refine l_step hE10 rfl (l_call (f := 122) (argv := [.slice (some ⟨b7, 0, none⟩) 1 1]) hE10 (fun _ => cf_relationCode _ _) rfl rfl (c_relationCode (some ⟨b7, 0, none⟩) 1 1 ([⟨apA, ap.length, apC⟩]) ([ap]) w8 (St.rdNo (i := 0) hS11 rfl) (by simp)) ?_)
  rintro _ w14 ⟨rfl, he18⟩ a15 hE16; clear hE10
  have hS17 := St.go hS11 he18; clear hS11
  refine q_step (v := .int .i64 (F_relationCode ([ap]))) hE16 (y_assign rfl) rfl rfl rfl ?_; intro a19 hE20; clear hE16
  refine c_nil ?_
  have hE21 := hE20.sub (L' := [(0, .slice apA ap.length apC), (1, .int .i64 mask), (5, .int .i64 (F_relationCode ([ap])))]) ⟨rfl, rfl, rfl, trivial⟩; clear hE20
  refine p_tn ?_
  refine c_seq ?_
  refine c_reg ?_
  refine q_step (v := .int .i64 (F_relationCode ([ap]))) hE21 (y_move rfl) rfl rfl rfl ?_; intro a22 hE23; clear hE21
  refine q_step (v := .bool (!decide ((F_relationCode ([ap])) = 0))) hE23 (y_neq rfl rfl) rfl rfl rfl ?_; intro a24 hE25; clear hE23
  refine c_nil ?_
  have hE26 := hE25.sub (L' := [(0, .slice apA ap.length apC), (1, .int .i64 mask), (5, .int .i64 (F_relationCode ([ap]))), (10, .bool (!decide ((F_relationCode ([ap])) = 0)))]) ⟨rfl, rfl, rfl, rfl, trivial⟩; clear hE25
  refine p_tn ?_
  refine c_cond hE26 rfl (fun ht27 => ?_) (fun ht27 => ?_)
  ·
   have ht28 := bn_t ht27
   have hp29 := of_decide_eq_false ht28
   have hE30 := hE26; rw [ht27] at hE30; clear hE26
   refine c_seq ?_
   refine c_reg ?_
   refine q_step (v := .int .i64 (F_relationCode ([ap]))) hE30 (y_move rfl) rfl rfl rfl ?_; intro a31 hE32; clear hE30
   refine q_step (v := .int .i64 (F_relationCode ([ap]))) hE32 (y_assign rfl) rfl rfl rfl ?_; intro a33 hE34; clear hE32
   refine c_nil ?_
   have hE35 := hE34.sub (L' := [(4, .int .i64 (F_relationCode ([ap])))]) ⟨rfl, trivial⟩; clear hE34
   refine p_tn ?_
   refine wp_ret ?_
   refine p_tr ?_
   have hF : F_maskOn ap mask = F_relationCode ([ap]) := by unfold F_maskOn; rw [ht27]; first | done | rfl
   refine c_ret1 hE35 rfl rfl ?_
   exact ⟨(by rw [hF]; first | done | (dsimp only; done) | rfl), hS17.ext⟩
  ·
   have ht36 := bn_f ht27
   have hp37 := of_decide_eq_true ht36
   have hE38 := hE26; rw [ht27] at hE38; clear hE26
   refine wp_skip ?_
   refine p_tn ?_
   refine c_seq ?_
   refine c_reg ?_
   refine q_step (v := .slice apA ap.length apC) hE38 (y_move rfl) rfl rfl rfl ?_; intro a39 hE40; clear hE38
   refine l_step hE40 rfl (l_call (f := 165) (argv := [.slice apA ap.length apC]) hE40 (fun _ => cf_size _ _) rfl rfl (d_size apA ap.length apC ap w14 (St.rdR (i := 1) hS17 rfl)) ?_)
   rintro _ _ ⟨rfl, rfl⟩ a43 hE44; clear hE40
   refine q_step (v := .int .i64 mask) hE44 (y_move rfl) rfl rfl rfl ?_; intro a47 hE48; clear hE44
   refine l_step hE48 rfl (l_call (f := 202) (argv := [.int .i64 (ap.length : Int), .int .i64 mask]) hE48 (fun _ => cf_maskCode _ _) rfl rfl (c_maskCode (ap.length : Int) mask w14) ?_)
   rintro _ _ ⟨rfl, rfl⟩ a51 hE52; clear hE48
   refine q_step (v := .int .i64 (F_maskCode (ap.length : Int) mask)) hE52 (y_assign rfl) rfl rfl rfl ?_; intro a55 hE56; clear hE52
   refine c_nil ?_
   have hE57 := hE56.sub (L' := [(4, .int .i64 (F_maskCode (ap.length : Int) mask))]) ⟨rfl, trivial⟩; clear hE56
   refine p_tn ?_
   refine wp_ret ?_
   have hF : F_maskOn ap mask = F_maskCode (ap.length : Int) mask := by unfold F_maskOn; rw [ht27]; first | done | rfl
   refine c_ret1 hE57 rfl rfl ?_
   exact ⟨(by rw [hF]; first | done | (dsimp only; done) | rfl), hS17.ext⟩

theorem maskOn_bd (a : List Int) (m : Int) : 0 ≤ F_maskOn a m ∧ F_maskOn a m ≤ 2 := by
  have h := relCode1_bd a
  unfold F_maskOn F_maskCode
  cases decide (F_relationCode [a] = 0) <;> cases F_inRange (a.length : Int) 0 30 <;> cases F_isMask (a.length : Int) m <;> simp only [Bool.not_true, Bool.not_false, cond_true, cond_false] <;> omega
theorem maskOn_t {a : List Int} {m : Int} (h : F_maskOn a m = 0) : F_isRelation a = true ∧ a.length ≤ 30 ∧ 0 ≤ m ∧ m ≤ fullI (a.length : Int) ∧ m < 4611686018427387904 := by
  unfold F_maskOn at h
  by_cases h0 : F_relationCode [a] = 0
  · have ht := relCode1_t h0
    rw [decide_eq_true h0, Bool.not_true, cond_false] at h
    unfold F_maskCode at h
    rw [isMask_eq (by omega) (by omega)] at h
    cases h1 : F_l01In m 0 (fullI (a.length : Int))
    · rw [h1] at h
      cases h2 : F_inRange (a.length : Int) 0 30 <;> rw [h2] at h <;> simp at h
    · have h3 := F_l01In_t h1
      have h4 := fullI_bd (n := (a.length : Int)) (by omega) (by omega)
      exact ⟨ht.1, ht.2, h3.1, h3.2, by omega⟩
  · rw [decide_eq_false h0, Bool.not_false, cond_true] at h
    exact absurd h h0

def F_ImageMask (ap : List Int) (mask : Int) : (Int) × (Int) :=
  bif (!decide ((F_maskOn ap mask) = 0)) then (0, F_maskOn ap mask) else (F_image ap mask, 0)
theorem cf_ImageMask (args : Array Value) (w : World) : (callFunc 60 args).run Try.prog w = .ok (.enter 60 args) w := by kernel_rfl
set_option maxRecDepth 100000 in
theorem c_ImageMask (apA : Option Addr) (apN apC : Nat) (ap : List Int) (mask : Int) (w : World) (apR : RdS w 1 apA apN apC ap) (hl : ap.length ≤ 1000) :
    Calls Try.prog 60 #[.slice apA apN apC, .int .i64 mask] w (Ret fun v w' => v = .tuple #[.int .i64 ((F_ImageMask ap mask).1), .int .i64 ((F_ImageMask ap mask).2)] ∧ Ext w w') := by
  obtain rfl : apN = ap.length := apR.len1.symm
  have apLe := apR.le
  have hS := St.nil w
  have hS1 := St.rd0 hS rfl apR; clear hS
  refine enter (args := [.slice apA ap.length apC, .int .i64 mask]) Try.func60 rfl rfl ?_
  rw [Try.ntmps60]; intro a hE
  have hE := hE.sub (L' := [(0, .slice apA ap.length apC), (1, .int .i64 mask)]) ⟨rfl, rfl, trivial⟩
  refine c_seq ?_
  refine c_reg ?_
  refine q_step (v := .int .i64 0) hE (y_assign rfl) rfl rfl rfl ?_; intro a2 hE3; clear hE
  refine q_step (v := .int .i64 0) hE3 (y_assign rfl) rfl rfl rfl ?_; intro a4 hE5; clear hE3
  refine c_nil ?_
  have hE6 := hE5.sub (L' := [(0, .slice apA ap.length apC), (1, .int .i64 mask)]) ⟨rfl, rfl, trivial⟩; clear hE5
  refine p_tn ?_
  refine c_seq ?_
  refine c_seq ?_
  refine c_reg ?_
  refine q_step (v := .slice apA ap.length apC) hE6 (y_move rfl) rfl rfl rfl ?_; intro a7 hE8; clear hE6
  refine q_step (v := .int .i64 mask) hE8 (y_move rfl) rfl rfl rfl ?_; intro a9 hE10; clear hE8
  refine l_step hE10 rfl (l_call (f := 118) (argv := [.slice apA ap.length apC, .int .i64 mask]) hE10 (fun _ => cf_maskOn _ _) rfl rfl (c_maskOn apA ap.length apC ap mask w (St.rdR (i := 0) hS1 rfl) (by omega)) ?_)
  rintro _ w12 ⟨rfl, he16⟩ a13 hE14; clear hE10
  have hS15 := St.go hS1 he16; clear hS1
  refine q_step (v := .int .i64 (F_maskOn ap mask)) hE14 (y_assign rfl) rfl rfl rfl ?_; intro a17 hE18; clear hE14
  refine c_nil ?_
  have hE19 := hE18.sub (L' := [(0, .slice apA ap.length apC), (1, .int .i64 mask), (6, .int .i64 (F_maskOn ap mask))]) ⟨rfl, rfl, rfl, trivial⟩; clear hE18
  refine p_tn ?_
  refine c_seq ?_
  refine c_reg ?_
  refine q_step (v := .int .i64 (F_maskOn ap mask)) hE19 (y_move rfl) rfl rfl rfl ?_; intro a20 hE21; clear hE19
  refine q_step (v := .bool (!decide ((F_maskOn ap mask) = 0))) hE21 (y_neq rfl rfl) rfl rfl rfl ?_; intro a22 hE23; clear hE21
  refine c_nil ?_
  have hE24 := hE23.sub (L' := [(0, .slice apA ap.length apC), (1, .int .i64 mask), (6, .int .i64 (F_maskOn ap mask)), (11, .bool (!decide ((F_maskOn ap mask) = 0)))]) ⟨rfl, rfl, rfl, rfl, trivial⟩; clear hE23
  refine p_tn ?_
  refine c_cond hE24 rfl (fun ht25 => ?_) (fun ht25 => ?_)
  ·
   have ht26 := bn_t ht25
   have hp27 := of_decide_eq_false ht26
   have hE28 := hE24; rw [ht25] at hE28; clear hE24
   refine c_seq ?_
   refine c_reg ?_
   refine q_step (v := .int .i64 (F_maskOn ap mask)) hE28 (y_move rfl) rfl rfl rfl ?_; intro a29 hE30; clear hE28
   refine q_step (v := .int .i64 0) hE30 (y_assign rfl) rfl rfl rfl ?_; intro a31 hE32; clear hE30
   refine q_step (v := .int .i64 (F_maskOn ap mask)) hE32 (y_assign rfl) rfl rfl rfl ?_; intro a33 hE34; clear hE32
   refine c_nil ?_
   have hE35 := hE34.sub (L' := [(4, .int .i64 0), (5, .int .i64 (F_maskOn ap mask))]) ⟨rfl, rfl, trivial⟩; clear hE34
   refine p_tn ?_
   refine wp_ret ?_
   refine p_tr ?_
   have hF : F_ImageMask ap mask = (0, F_maskOn ap mask) := by unfold F_ImageMask; rw [ht25]; first | done | rfl
   refine c_ret2 hE35 rfl rfl rfl ?_
   exact ⟨(by rw [hF]; first | done | (dsimp only; done) | rfl), hS15.ext⟩
  ·
   have ht36 := bn_f ht25
   have hp37 := of_decide_eq_true ht36
   have hq38 := maskOn_t hp37
   have hE39 := hE24; rw [ht25] at hE39; clear hE24
   refine wp_skip ?_
   refine p_tn ?_
   refine c_seq ?_
   refine c_reg ?_
   refine q_step (v := .slice apA ap.length apC) hE39 (y_move rfl) rfl rfl rfl ?_; intro a40 hE41; clear hE39
   refine q_step (v := .int .i64 mask) hE41 (y_move rfl) rfl rfl rfl ?_; intro a42 hE43; clear hE41
   refine l_step hE43 rfl (l_call (f := 119) (argv := [.slice apA ap.length apC, .int .i64 mask]) hE43 (fun _ => cf_image _ _) rfl rfl (c_image apA ap.length apC ap mask w12 (St.rdR (i := 0) hS15 rfl) (by omega) (maskOn_t (by assumption)).2.2.1 (maskOn_t (by assumption)).2.2.2.1 (maskOn_t (by assumption)).2.2.2.2) ?_)
   rintro _ w45 ⟨rfl, he49⟩ a46 hE47; clear hE43
   have hS48 := St.go hS15 he49; clear hS15
   refine q_step (v := .int .i64 (F_image ap mask)) hE47 (y_assign rfl) rfl rfl rfl ?_; intro a50 hE51; clear hE47
   refine q_step (v := .int .i64 0) hE51 (y_assign rfl) rfl rfl rfl ?_; intro a52 hE53; clear hE51
   refine c_nil ?_
   have hE54 := hE53.sub (L' := [(4, .int .i64 (F_image ap mask)), (5, .int .i64 0)]) ⟨rfl, rfl, trivial⟩; clear hE53
   refine p_tn ?_
   refine wp_ret ?_
   have hF : F_ImageMask ap mask = (F_image ap mask, 0) := by unfold F_ImageMask; rw [ht25]; first | done | rfl
   refine c_ret2 hE54 rfl rfl rfl ?_
   exact ⟨(by rw [hF]; first | done | (dsimp only; done) | rfl), hS48.ext⟩

theorem ImageMask_cd (a : List Int) (m : Int) : 0 ≤ (F_ImageMask a m).2 ∧ (F_ImageMask a m).2 ≤ 2 := by
  have h := maskOn_bd a m
  unfold F_ImageMask
  cases decide (F_maskOn a m = 0) <;> simp only [Bool.not_true, Bool.not_false, cond_true, cond_false] <;> omega

def F_BoxMask (ap : List Int) (mask : Int) : (Int) × (Int) :=
  bif (!decide ((F_maskOn ap mask) = 0)) then (0, F_maskOn ap mask) else (F_box ap mask, 0)
theorem cf_BoxMask (args : Array Value) (w : World) : (callFunc 63 args).run Try.prog w = .ok (.enter 63 args) w := by kernel_rfl
set_option maxRecDepth 100000 in
theorem c_BoxMask (apA : Option Addr) (apN apC : Nat) (ap : List Int) (mask : Int) (w : World) (apR : RdS w 1 apA apN apC ap) (hl : ap.length ≤ 1000) :
    Calls Try.prog 63 #[.slice apA apN apC, .int .i64 mask] w (Ret fun v w' => v = .tuple #[.int .i64 ((F_BoxMask ap mask).1), .int .i64 ((F_BoxMask ap mask).2)] ∧ Ext w w') := by
  obtain rfl : apN = ap.length := apR.len1.symm
  have apLe := apR.le
  have hS := St.nil w
  have hS1 := St.rd0 hS rfl apR; clear hS
  refine enter (args := [.slice apA ap.length apC, .int .i64 mask]) Try.func63 rfl rfl ?_
  rw [Try.ntmps63]; intro a hE
  have hE := hE.sub (L' := [(0, .slice apA ap.length apC), (1, .int .i64 mask)]) ⟨rfl, rfl, trivial⟩
  refine c_seq ?_
  refine c_reg ?_
  refine q_step (v := .int .i64 0) hE (y_assign rfl) rfl rfl rfl ?_; intro a2 hE3; clear hE
  refine q_step (v := .int .i64 0) hE3 (y_assign rfl) rfl rfl rfl ?_; intro a4 hE5; clear hE3
  refine c_nil ?_
  have hE6 := hE5.sub (L' := [(0, .slice apA ap.length apC), (1, .int .i64 mask)]) ⟨rfl, rfl, trivial⟩; clear hE5
  refine p_tn ?_
  refine c_seq ?_
  refine c_seq ?_
  refine c_reg ?_
  refine q_step (v := .slice apA ap.length apC) hE6 (y_move rfl) rfl rfl rfl ?_; intro a7 hE8; clear hE6
  refine q_step (v := .int .i64 mask) hE8 (y_move rfl) rfl rfl rfl ?_; intro a9 hE10; clear hE8
  refine l_step hE10 rfl (l_call (f := 118) (argv := [.slice apA ap.length apC, .int .i64 mask]) hE10 (fun _ => cf_maskOn _ _) rfl rfl (c_maskOn apA ap.length apC ap mask w (St.rdR (i := 0) hS1 rfl) (by omega)) ?_)
  rintro _ w12 ⟨rfl, he16⟩ a13 hE14; clear hE10
  have hS15 := St.go hS1 he16; clear hS1
  refine q_step (v := .int .i64 (F_maskOn ap mask)) hE14 (y_assign rfl) rfl rfl rfl ?_; intro a17 hE18; clear hE14
  refine c_nil ?_
  have hE19 := hE18.sub (L' := [(0, .slice apA ap.length apC), (1, .int .i64 mask), (6, .int .i64 (F_maskOn ap mask))]) ⟨rfl, rfl, rfl, trivial⟩; clear hE18
  refine p_tn ?_
  refine c_seq ?_
  refine c_reg ?_
  refine q_step (v := .int .i64 (F_maskOn ap mask)) hE19 (y_move rfl) rfl rfl rfl ?_; intro a20 hE21; clear hE19
  refine q_step (v := .bool (!decide ((F_maskOn ap mask) = 0))) hE21 (y_neq rfl rfl) rfl rfl rfl ?_; intro a22 hE23; clear hE21
  refine c_nil ?_
  have hE24 := hE23.sub (L' := [(0, .slice apA ap.length apC), (1, .int .i64 mask), (6, .int .i64 (F_maskOn ap mask)), (11, .bool (!decide ((F_maskOn ap mask) = 0)))]) ⟨rfl, rfl, rfl, rfl, trivial⟩; clear hE23
  refine p_tn ?_
  refine c_cond hE24 rfl (fun ht25 => ?_) (fun ht25 => ?_)
  ·
   have ht26 := bn_t ht25
   have hp27 := of_decide_eq_false ht26
   have hE28 := hE24; rw [ht25] at hE28; clear hE24
   refine c_seq ?_
   refine c_reg ?_
   refine q_step (v := .int .i64 (F_maskOn ap mask)) hE28 (y_move rfl) rfl rfl rfl ?_; intro a29 hE30; clear hE28
   refine q_step (v := .int .i64 0) hE30 (y_assign rfl) rfl rfl rfl ?_; intro a31 hE32; clear hE30
   refine q_step (v := .int .i64 (F_maskOn ap mask)) hE32 (y_assign rfl) rfl rfl rfl ?_; intro a33 hE34; clear hE32
   refine c_nil ?_
   have hE35 := hE34.sub (L' := [(4, .int .i64 0), (5, .int .i64 (F_maskOn ap mask))]) ⟨rfl, rfl, trivial⟩; clear hE34
   refine p_tn ?_
   refine wp_ret ?_
   refine p_tr ?_
   have hF : F_BoxMask ap mask = (0, F_maskOn ap mask) := by unfold F_BoxMask; rw [ht25]; first | done | rfl
   refine c_ret2 hE35 rfl rfl rfl ?_
   exact ⟨(by rw [hF]; first | done | (dsimp only; done) | rfl), hS15.ext⟩
  ·
   have ht36 := bn_f ht25
   have hp37 := of_decide_eq_true ht36
   have hq38 := maskOn_t hp37
   have hE39 := hE24; rw [ht25] at hE39; clear hE24
   refine wp_skip ?_
   refine p_tn ?_
   refine c_seq ?_
   refine c_reg ?_
   refine q_step (v := .slice apA ap.length apC) hE39 (y_move rfl) rfl rfl rfl ?_; intro a40 hE41; clear hE39
   refine q_step (v := .int .i64 mask) hE41 (y_move rfl) rfl rfl rfl ?_; intro a42 hE43; clear hE41
   refine l_step hE43 rfl (l_call (f := 124) (argv := [.slice apA ap.length apC, .int .i64 mask]) hE43 (fun _ => cf_box _ _) rfl rfl (c_box apA ap.length apC ap mask w12 (St.rdR (i := 0) hS15 rfl) (by omega)) ?_)
   rintro _ w45 ⟨rfl, he49⟩ a46 hE47; clear hE43
   have hS48 := St.go hS15 he49; clear hS15
   refine q_step (v := .int .i64 (F_box ap mask)) hE47 (y_assign rfl) rfl rfl rfl ?_; intro a50 hE51; clear hE47
   refine q_step (v := .int .i64 0) hE51 (y_assign rfl) rfl rfl rfl ?_; intro a52 hE53; clear hE51
   refine c_nil ?_
   have hE54 := hE53.sub (L' := [(4, .int .i64 (F_box ap mask)), (5, .int .i64 0)]) ⟨rfl, rfl, trivial⟩; clear hE53
   refine p_tn ?_
   refine wp_ret ?_
   have hF : F_BoxMask ap mask = (F_box ap mask, 0) := by unfold F_BoxMask; rw [ht25]; first | done | rfl
   refine c_ret2 hE54 rfl rfl rfl ?_
   exact ⟨(by rw [hF]; first | done | (dsimp only; done) | rfl), hS48.ext⟩

theorem BoxMask_cd (a : List Int) (m : Int) : 0 ≤ (F_BoxMask a m).2 ∧ (F_BoxMask a m).2 ≤ 2 := by
  have h := maskOn_bd a m
  unfold F_BoxMask
  cases decide (F_maskOn a m = 0) <;> simp only [Bool.not_true, Bool.not_false, cond_true, cond_false] <;> omega

def F_InverseRelation (ap : List Int) : (List Int) × (Int) :=
  bif (!decide ((F_relationCode ([ap])) = 0)) then ([], F_relationCode ([ap])) else (F_inverse ap, 0)
theorem cf_InverseRelation (args : Array Value) (w : World) : (callFunc 62 args).run Try.prog w = .ok (.enter 62 args) w := by kernel_rfl
set_option maxRecDepth 100000 in
theorem c_InverseRelation (apA : Option Addr) (apN apC : Nat) (ap : List Int) (w : World) (apR : RdS w 1 apA apN apC ap) (hl : ap.length ≤ 1000) :
    Calls Try.prog 62 #[.slice apA apN apC] w (Ret fun v w' => ∃ b1 : Option Addr, ∃ c1 : Nat, v = .tuple #[.slice b1 ((F_InverseRelation ap).1).length c1, .int .i64 ((F_InverseRelation ap).2)] ∧ OwnS w' w.heap.size 2 1 b1 ((F_InverseRelation ap).1).length c1 ((F_InverseRelation ap).1) ∧ Ext w w') := by
  obtain rfl : apN = ap.length := apR.len1.symm
  have apLe := apR.le
  have hS := St.nil w
  have hS1 := St.rd0 hS rfl apR; clear hS
  refine enter (args := [.slice apA ap.length apC]) Try.func62 rfl rfl ?_
  rw [Try.ntmps62]; intro a hE
  have hE := hE.sub (L' := [(0, .slice apA ap.length apC)]) ⟨rfl, trivial⟩
  refine c_seq ?_
  refine c_reg ?_
  refine q_step (v := .slice none 0 0) hE (y_assign rfl) rfl rfl rfl ?_; intro a2 hE3; clear hE
  refine q_step (v := .int .i64 0) hE3 (y_assign rfl) rfl rfl rfl ?_; intro a4 hE5; clear hE3
  refine c_nil ?_
  have hE6 := hE5.sub (L' := [(0, .slice apA ap.length apC)]) ⟨rfl, trivial⟩; clear hE5
  refine p_tn ?_
  refine c_seq ?_
  refine c_seq ?_
  refine c_reg ?_
  refine q_step (v := .slice apA ap.length apC) hE6 (y_move rfl) rfl rfl rfl ?_; intro a7 hE8; clear hE6
  refine l_step hE8 rfl (l_litN (e := 22) (s := 1) (rows := [(⟨apA, ap.length, apC⟩, ap)]) (hs := [⟨apA, ap.length, apC⟩]) (xss := [ap]) (vs := [.slice apA ap.length apC]) hS1 hE8 rfl rfl rfl rfl (fun _ => by kernel_rfl) ⟨⟨(St.rdR (i := 0) hS1 rfl), (St.robR (i := 0) hS1 rfl)⟩, trivial⟩ rfl rfl rfl ?_)
  intro b9 w10 hS13 he14 a11 hE12; clear hS1 hE8
  refine l_step hE12 rfl (l_call (f := 122) (argv := [.slice (some ⟨b9, 0, none⟩) 1 1]) hE12 (fun _ => cf_relationCode _ _) rfl rfl (c_relationCode (some ⟨b9, 0, none⟩) 1 1 ([⟨apA, ap.length, apC⟩]) ([ap]) w10 (St.rdNo (i := 0) hS13 rfl) (by simp)) ?_)
  rintro _ w16 ⟨rfl, he20⟩ a17 hE18; clear hE12
  have hS19 := St.go hS13 he20; clear hS13
  refine q_step (v := .int .i64 (F_relationCode ([ap]))) hE18 (y_assign rfl) rfl rfl rfl ?_; intro a21 hE22; clear hE18
  refine c_nil ?_
  have hE23 := hE22.sub (L' := [(0, .slice apA ap.length apC), (4, .int .i64 (F_relationCode ([ap])))]) ⟨rfl, rfl, trivial⟩; clear hE22
  refine p_tn ?_
  refine c_seq ?_
  refine c_reg ?_
  refine q_step (v := .int .i64 (F_relationCode ([ap]))) hE23 (y_move rfl) rfl rfl rfl ?_; intro a24 hE25; clear hE23
  refine q_step (v := .bool (!decide ((F_relationCode ([ap])) = 0))) hE25 (y_neq rfl rfl) rfl rfl rfl ?_; intro a26 hE27; clear hE25
  refine c_nil ?_
  have hE28 := hE27.sub (L' := [(0, .slice apA ap.length apC), (4, .int .i64 (F_relationCode ([ap]))), (9, .bool (!decide ((F_relationCode ([ap])) = 0)))]) ⟨rfl, rfl, rfl, trivial⟩; clear hE27
  refine p_tn ?_
  refine c_cond hE28 rfl (fun ht29 => ?_) (fun ht29 => ?_)
  ·
   have ht30 := bn_t ht29
   have hp31 := of_decide_eq_false ht30
   have hE32 := hE28; rw [ht29] at hE32; clear hE28
   refine c_seq ?_
   refine c_reg ?_
   refine q_step (v := .int .i64 (F_relationCode ([ap]))) hE32 (y_move rfl) rfl rfl rfl ?_; intro a33 hE34; clear hE32
   refine q_step (v := .slice none 0 0) hE34 (y_assign rfl) rfl rfl rfl ?_; intro a35 hE36; clear hE34
   refine q_step (v := .int .i64 (F_relationCode ([ap]))) hE36 (y_assign rfl) rfl rfl rfl ?_; intro a37 hE38; clear hE36
   refine c_nil ?_
   have hE39 := hE38.sub (L' := [(2, .slice none 0 0), (3, .int .i64 (F_relationCode ([ap])))]) ⟨rfl, rfl, trivial⟩; clear hE38
   refine p_tn ?_
   refine wp_ret ?_
   refine p_tr ?_
   have hF : F_InverseRelation ap = ([], F_relationCode ([ap])) := by unfold F_InverseRelation; rw [ht29]; first | done | rfl
   refine c_ret2 hE39 rfl rfl rfl ?_
   exact ⟨none, 0, (by rw [hF]; first | done | (dsimp only; done) | rfl), (by rw [hF]; (try dsimp only); exact OwnS.nilS _ _ _ _), hS19.ext⟩
  ·
   have ht40 := bn_f ht29
   have hp41 := of_decide_eq_true ht40
   have hq42 := relCode1_t hp41
   have hE43 := hE28; rw [ht29] at hE43; clear hE28
   refine wp_skip ?_
   refine p_tn ?_
   refine c_seq ?_
   refine c_reg ?_
   refine q_step (v := .slice apA ap.length apC) hE43 (y_move rfl) rfl rfl rfl ?_; intro a44 hE45; clear hE43
   refine l_step hE45 rfl (l_call (f := 123) (argv := [.slice apA ap.length apC]) hE45 (fun _ => cf_inverse _ _) rfl rfl (c_inverse apA ap.length apC ap w16 (St.rdR (i := 1) hS19 rfl) (by omega) (relCode1_all (by assumption))) ?_)
   rintro _ w47 ⟨b52, c53, rfl, ho54, he51⟩ a48 hE49; clear hE45
   have hf55 := inverse_len ap
   have hS50 := St.own hS19 he51 ho54; clear hS19
   refine q_step (v := .slice b52 ((F_inverse ap).length) c53) hE49 (y_assign rfl) rfl rfl rfl ?_; intro a56 hE57; clear hE49
   refine q_step (v := .int .i64 0) hE57 (y_assign rfl) rfl rfl rfl ?_; intro a58 hE59; clear hE57
   refine c_nil ?_
   have hE60 := hE59.sub (L' := [(2, .slice b52 ((F_inverse ap).length) c53), (3, .int .i64 0)]) ⟨rfl, rfl, trivial⟩; clear hE59
   refine p_tn ?_
   refine wp_ret ?_
   have hF : F_InverseRelation ap = (F_inverse ap, 0) := by unfold F_InverseRelation; rw [ht29]; first | done | rfl
   refine c_ret2 hE60 rfl rfl rfl ?_
   exact ⟨b52, c53, (by rw [hF]; first | done | (dsimp only; done) | rfl), (by rw [hF]; (try dsimp only); exact hS50.ok 0 _ rfl), hS50.ext⟩

theorem InverseRelation_cd (a : List Int) : (0 ≤ (F_InverseRelation a).2 ∧ (F_InverseRelation a).2 ≤ 2) ∧ (F_InverseRelation a).1.length ≤ a.length := by
  have h := relCode1_bd a
  have h2 := inverse_len a
  unfold F_InverseRelation
  cases decide (F_relationCode [a] = 0) <;> simp only [Bool.not_true, Bool.not_false, cond_true, cond_false, List.length_nil] <;> omega

def F_TransitiveClosure (ap : List Int) : (List Int) × (Int) :=
  bif (!decide ((F_relationCode ([ap])) = 0)) then ([], F_relationCode ([ap])) else (F_transitive ap, 0)
theorem cf_TransitiveClosure (args : Array Value) (w : World) : (callFunc 65 args).run Try.prog w = .ok (.enter 65 args) w := by kernel_rfl
set_option maxRecDepth 100000 in
theorem c_TransitiveClosure (apA : Option Addr) (apN apC : Nat) (ap : List Int) (w : World) (apR : RdS w 1 apA apN apC ap) (hl : ap.length ≤ 1000) :
    Calls Try.prog 65 #[.slice apA apN apC] w (Ret fun v w' => ∃ b1 : Option Addr, ∃ c1 : Nat, v = .tuple #[.slice b1 ((F_TransitiveClosure ap).1).length c1, .int .i64 ((F_TransitiveClosure ap).2)] ∧ OwnS w' w.heap.size 2 1 b1 ((F_TransitiveClosure ap).1).length c1 ((F_TransitiveClosure ap).1) ∧ Ext w w') := by
  obtain rfl : apN = ap.length := apR.len1.symm
  have apLe := apR.le
  have hS := St.nil w
  have hS1 := St.rd0 hS rfl apR; clear hS
  refine enter (args := [.slice apA ap.length apC]) Try.func65 rfl rfl ?_
  rw [Try.ntmps65]; intro a hE
  have hE := hE.sub (L' := [(0, .slice apA ap.length apC)]) ⟨rfl, trivial⟩
  refine c_seq ?_
  refine c_reg ?_
  refine q_step (v := .slice none 0 0) hE (y_assign rfl) rfl rfl rfl ?_; intro a2 hE3; clear hE
  refine q_step (v := .int .i64 0) hE3 (y_assign rfl) rfl rfl rfl ?_; intro a4 hE5; clear hE3
  refine c_nil ?_
  have hE6 := hE5.sub (L' := [(0, .slice apA ap.length apC)]) ⟨rfl, trivial⟩; clear hE5
  refine p_tn ?_
  refine c_seq ?_
  refine c_seq ?_
  refine c_reg ?_
  refine q_step (v := .slice apA ap.length apC) hE6 (y_move rfl) rfl rfl rfl ?_; intro a7 hE8; clear hE6
  refine l_step hE8 rfl (l_litN (e := 22) (s := 1) (rows := [(⟨apA, ap.length, apC⟩, ap)]) (hs := [⟨apA, ap.length, apC⟩]) (xss := [ap]) (vs := [.slice apA ap.length apC]) hS1 hE8 rfl rfl rfl rfl (fun _ => by kernel_rfl) ⟨⟨(St.rdR (i := 0) hS1 rfl), (St.robR (i := 0) hS1 rfl)⟩, trivial⟩ rfl rfl rfl ?_)
  intro b9 w10 hS13 he14 a11 hE12; clear hS1 hE8
  refine l_step hE12 rfl (l_call (f := 122) (argv := [.slice (some ⟨b9, 0, none⟩) 1 1]) hE12 (fun _ => cf_relationCode _ _) rfl rfl (c_relationCode (some ⟨b9, 0, none⟩) 1 1 ([⟨apA, ap.length, apC⟩]) ([ap]) w10 (St.rdNo (i := 0) hS13 rfl) (by simp)) ?_)
  rintro _ w16 ⟨rfl, he20⟩ a17 hE18; clear hE12
  have hS19 := St.go hS13 he20; clear hS13
  refine q_step (v := .int .i64 (F_relationCode ([ap]))) hE18 (y_assign rfl) rfl rfl rfl ?_; intro a21 hE22; clear hE18
  refine c_nil ?_
  have hE23 := hE22.sub (L' := [(0, .slice apA ap.length apC), (4, .int .i64 (F_relationCode ([ap])))]) ⟨rfl, rfl, trivial⟩; clear hE22
  refine p_tn ?_
  refine c_seq ?_
  refine c_reg ?_
  refine q_step (v := .int .i64 (F_relationCode ([ap]))) hE23 (y_move rfl) rfl rfl rfl ?_; intro a24 hE25; clear hE23
  refine q_step (v := .bool (!decide ((F_relationCode ([ap])) = 0))) hE25 (y_neq rfl rfl) rfl rfl rfl ?_; intro a26 hE27; clear hE25
  refine c_nil ?_
  have hE28 := hE27.sub (L' := [(0, .slice apA ap.length apC), (4, .int .i64 (F_relationCode ([ap]))), (9, .bool (!decide ((F_relationCode ([ap])) = 0)))]) ⟨rfl, rfl, rfl, trivial⟩; clear hE27
  refine p_tn ?_
  refine c_cond hE28 rfl (fun ht29 => ?_) (fun ht29 => ?_)
  ·
   have ht30 := bn_t ht29
   have hp31 := of_decide_eq_false ht30
   have hE32 := hE28; rw [ht29] at hE32; clear hE28
   refine c_seq ?_
   refine c_reg ?_
   refine q_step (v := .int .i64 (F_relationCode ([ap]))) hE32 (y_move rfl) rfl rfl rfl ?_; intro a33 hE34; clear hE32
   refine q_step (v := .slice none 0 0) hE34 (y_assign rfl) rfl rfl rfl ?_; intro a35 hE36; clear hE34
   refine q_step (v := .int .i64 (F_relationCode ([ap]))) hE36 (y_assign rfl) rfl rfl rfl ?_; intro a37 hE38; clear hE36
   refine c_nil ?_
   have hE39 := hE38.sub (L' := [(2, .slice none 0 0), (3, .int .i64 (F_relationCode ([ap])))]) ⟨rfl, rfl, trivial⟩; clear hE38
   refine p_tn ?_
   refine wp_ret ?_
   refine p_tr ?_
   have hF : F_TransitiveClosure ap = ([], F_relationCode ([ap])) := by unfold F_TransitiveClosure; rw [ht29]; first | done | rfl
   refine c_ret2 hE39 rfl rfl rfl ?_
   exact ⟨none, 0, (by rw [hF]; first | done | (dsimp only; done) | rfl), (by rw [hF]; (try dsimp only); exact OwnS.nilS _ _ _ _), hS19.ext⟩
  ·
   have ht40 := bn_f ht29
   have hp41 := of_decide_eq_true ht40
   have hq42 := relCode1_t hp41
   have hE43 := hE28; rw [ht29] at hE43; clear hE28
   refine wp_skip ?_
   refine p_tn ?_
   refine c_seq ?_
   refine c_reg ?_
   refine q_step (v := .slice apA ap.length apC) hE43 (y_move rfl) rfl rfl rfl ?_; intro a44 hE45; clear hE43
   refine l_step hE45 rfl (l_call (f := 125) (argv := [.slice apA ap.length apC]) hE45 (fun _ => cf_transitive _ _) rfl rfl (c_transitive apA ap.length apC ap w16 (St.rdR (i := 1) hS19 rfl) (by omega)) ?_)
   rintro _ w47 ⟨b52, c53, rfl, ho54, he51⟩ a48 hE49; clear hE45
   have hf55 := transitive_len ap
   have hS50 := St.own hS19 he51 ho54; clear hS19
   refine q_step (v := .slice b52 ((F_transitive ap).length) c53) hE49 (y_assign rfl) rfl rfl rfl ?_; intro a56 hE57; clear hE49
   refine q_step (v := .int .i64 0) hE57 (y_assign rfl) rfl rfl rfl ?_; intro a58 hE59; clear hE57
   refine c_nil ?_
   have hE60 := hE59.sub (L' := [(2, .slice b52 ((F_transitive ap).length) c53), (3, .int .i64 0)]) ⟨rfl, rfl, trivial⟩; clear hE59
   refine p_tn ?_
   refine wp_ret ?_
   have hF : F_TransitiveClosure ap = (F_transitive ap, 0) := by unfold F_TransitiveClosure; rw [ht29]; first | done | rfl
   refine c_ret2 hE60 rfl rfl rfl ?_
   exact ⟨b52, c53, (by rw [hF]; first | done | (dsimp only; done) | rfl), (by rw [hF]; (try dsimp only); exact hS50.ok 0 _ rfl), hS50.ext⟩

theorem TransitiveClosure_cd (a : List Int) : (0 ≤ (F_TransitiveClosure a).2 ∧ (F_TransitiveClosure a).2 ≤ 2) ∧ (F_TransitiveClosure a).1.length ≤ a.length := by
  have h := relCode1_bd a
  have h2 := transitive_len a
  unfold F_TransitiveClosure
  cases decide (F_relationCode [a] = 0) <;> simp only [Bool.not_true, Bool.not_false, cond_true, cond_false, List.length_nil] <;> omega

def F_l01Both (ap : List Int) (mask : Int) : Int :=
  bif ((decide ((F_l01Relation ap) = 0)) && (!(F_l01In mask 0 (fullI (ap.length : Int))))) then 1 else F_l01Relation ap
theorem cf_l01Both (args : Array Value) (w : World) : (callFunc 120 args).run Try.prog w = .ok (.enter 120 args) w := by kernel_rfl
set_option maxRecDepth 100000 in
theorem c_l01Both (apA : Option Addr) (apN apC : Nat) (ap : List Int) (mask : Int) (w : World) (apR : RdS w 1 apA apN apC ap) (hl : ap.length ≤ 1000) :
    Calls Try.prog 120 #[.slice apA apN apC, .int .i64 mask] w (Ret fun v w' => v = .int .i64 (F_l01Both ap mask) ∧ Ext w w') := by
  obtain rfl : apN = ap.length := apR.len1.symm
  have apLe := apR.le
  have hS := St.nil w
  have hS1 := St.rd0 hS rfl apR; clear hS
  refine enter (args := [.slice apA ap.length apC, .int .i64 mask]) Try.func120 rfl rfl ?_
  rw [Try.ntmps120]; intro a hE
  have hE := hE.sub (L' := [(0, .slice apA ap.length apC), (1, .int .i64 mask)]) ⟨rfl, rfl, trivial⟩
  refine c_seq ?_
  refine c_reg ?_
  refine q_step (v := .int .i64 0) hE (y_assign rfl) rfl rfl rfl ?_; intro a2 hE3; clear hE
  refine c_nil ?_
  have hE4 := hE3.sub (L' := [(0, .slice apA ap.length apC), (1, .int .i64 mask)]) ⟨rfl, rfl, trivial⟩; clear hE3
  refine p_tn ?_
  refine c_seq ?_
  refine c_reg ?_
  refine q_step (v := .slice apA ap.length apC) hE4 (y_move rfl) rfl rfl rfl ?_; intro a5 hE6; clear hE4
  refine l_step hE6 rfl (l_call (f := 203) (argv := [.slice apA ap.length apC]) hE6 (fun _ => cf_l01Relation _ _) rfl rfl (c_l01Relation apA ap.length apC ap w (St.rdR (i := 0) hS1 rfl)) ?_)
  rintro _ w8 ⟨rfl, he12⟩ a9 hE10; clear hE6
  have hS11 := St.go hS1 he12; clear hS1
  refine q_step (v := .int .i64 (F_l01Relation ap)) hE10 (y_assign rfl) rfl rfl rfl ?_; intro a13 hE14; clear hE10
  refine c_nil ?_
  have hE15 := hE14.sub (L' := [(0, .slice apA ap.length apC), (1, .int .i64 mask), (5, .int .i64 (F_l01Relation ap))]) ⟨rfl, rfl, rfl, trivial⟩; clear hE14
  refine p_tn ?_
  refine c_cut (fun a' w' => E a' 19 [(5, .int .i64 (bif ((decide ((F_l01Relation ap) = 0)) && (!(F_l01In mask 0 (fullI (ap.length : Int))))) then 1 else F_l01Relation ap))] ∧ St w w' [.rd 1 apA ap.length apC ap]) ?_ ?_
  ·
   refine c_cut (fun a' w' => E a' 19 [(5, .int .i64 (F_l01Relation ap)), (17, .bool ((decide ((F_l01Relation ap) = 0)) && (!(F_l01In mask 0 (fullI (ap.length : Int))))))] ∧ St w w' [.rd 1 apA ap.length apC ap]) ?_ ?_
   ·
    refine c_reg ?_
    refine q_step (v := .int .i64 (F_l01Relation ap)) hE15 (y_move rfl) rfl rfl rfl ?_; intro a16 hE17; clear hE15
    refine q_step (v := .bool (decide ((F_l01Relation ap) = 0))) hE17 (y_eql rfl rfl) rfl rfl rfl ?_; intro a18 hE19; clear hE17
    refine q_step (v := .bool (decide ((F_l01Relation ap) = 0))) hE19 (y_move rfl) rfl rfl rfl ?_; intro a20 hE21; clear hE19
    rcases Bool.eq_false_or_eq_true (decide ((F_l01Relation ap) = 0)) with hb22 | hb22
    ·
     have hE23 := hE21; (try rw [hb22] at hE23); clear hE21
     have hp24 := of_decide_eq_true hb22
     have hq25 := l01Rel_t hp24
     refine q_step (v := .int .i64 mask) hE23 (y_move rfl) rfl rfl rfl ?_; intro a26 hE27; clear hE23
     refine q_step (v := .slice apA ap.length apC) hE27 (y_move rfl) rfl rfl rfl ?_; intro a28 hE29; clear hE27
     refine q_step (v := .int .i64 (ap.length : Int)) hE29 (y_len (e := 2) (by kernel_rfl) rfl) rfl rfl rfl ?_; intro a30 hE31; clear hE29
     refine l_step hE31 rfl (l_call (f := 172) (argv := [.int .i64 (ap.length : Int)]) hE31 (fun _ => cf_l01Full _ _) rfl rfl (d_l01Full (ap.length : Int) w8 (by omega) (by omega)) ?_)
     rintro _ _ ⟨rfl, rfl⟩ a34 hE35; clear hE31
     refine l_step hE35 rfl (l_call (f := 85) (argv := [.int .i64 mask, .int .i64 0, .int .i64 (fullI (ap.length : Int))]) hE35 (fun _ => cf_l01In _ _) rfl rfl (c_l01In mask 0 (fullI (ap.length : Int)) w8) ?_)
     rintro _ _ ⟨rfl, rfl⟩ a40 hE41; clear hE35
     refine q_step (v := .bool (!(F_l01In mask 0 (fullI (ap.length : Int))))) hE41 (y_not rfl) rfl rfl rfl ?_; intro a44 hE45; clear hE41
     refine q_step (v := .bool (!(F_l01In mask 0 (fullI (ap.length : Int))))) hE45 (y_pick (b := true) rfl rfl) rfl rfl rfl ?_; intro a46 hE47; clear hE45
     refine c_nil ?_
     have hE48 := hE47.sub (L' := [(5, .int .i64 (F_l01Relation ap)), (17, .bool (!(F_l01In mask 0 (fullI (ap.length : Int)))))]) ⟨rfl, rfl, trivial⟩; clear hE47
     refine p_tn ?_
     have hE49 := hE48.sub (L' := [(5, .int .i64 (F_l01Relation ap)), (17, .bool (!(F_l01In mask 0 (fullI (ap.length : Int)))))]) ⟨rfl, rfl, trivial⟩
     have hS50 := (St.pick (Γ' := [.rd 1 apA ap.length apC ap]) hS11 [0] (by decide) rfl)
     exact ⟨(by rw [hb22]; exact hE49), hS50⟩
    ·
     have hE51 := hE21; (try rw [hb22] at hE51); clear hE21
     have hp52 := of_decide_eq_false hb22
     refine q_skip hE51 rfl rfl rfl ?_; intro a53 hE54; clear hE51
     refine q_skip hE54 rfl rfl rfl ?_; intro a55 hE56; clear hE54
     refine q_skip hE56 rfl rfl rfl ?_; intro a57 hE58; clear hE56
     refine q_skip hE58 rfl rfl rfl ?_; intro a59 hE60; clear hE58
     refine q_skip hE60 rfl rfl rfl ?_; intro a61 hE62; clear hE60
     refine q_skip hE62 rfl rfl rfl ?_; intro a63 hE64; clear hE62
     refine q_step (v := .bool false) hE64 (y_pick (b := false) rfl rfl) rfl rfl rfl ?_; intro a65 hE66; clear hE64
     refine c_nil ?_
     have hE67 := hE66.sub (L' := [(5, .int .i64 (F_l01Relation ap)), (17, .bool false)]) ⟨rfl, rfl, trivial⟩; clear hE66
     refine p_tn ?_
     have hE68 := hE67.sub (L' := [(5, .int .i64 (F_l01Relation ap)), (17, .bool false)]) ⟨rfl, rfl, trivial⟩
     have hS69 := (St.pick (Γ' := [.rd 1 apA ap.length apC ap]) hS11 [0] (by decide) rfl)
     exact ⟨(by rw [hb22]; exact hE68), hS69⟩
   ·
    rintro a70 w71 ⟨hE72, hS73⟩; clear hE15 hS11
    refine c_cond hE72 rfl (fun ht75 => ?_) (fun ht75 => ?_)
    ·
     obtain ⟨ht76, ht77⟩ := band_t ht75
     have hp78 := of_decide_eq_true ht76
     have hq79 := l01Rel_t hp78
     have ht80 := bn_t ht77
     have hE81 := hE72; rw [ht75] at hE81; clear hE72
     refine c_reg ?_
     refine q_step (v := .int .i64 1) hE81 (y_assign rfl) rfl rfl rfl ?_; intro a82 hE83; clear hE81
     refine c_nil ?_
     have hE84 := hE83.sub (L' := [(5, .int .i64 1)]) ⟨rfl, trivial⟩; clear hE83
     refine p_tn ?_
     have hE85 := hE84.sub (L' := [(5, .int .i64 1)]) ⟨rfl, trivial⟩
     have hS86 := (St.pick (Γ' := [.rd 1 apA ap.length apC ap]) hS73 [0] (by decide) rfl)
     exact ⟨(by rw [ht75]; exact hE85), hS86⟩
    ·
     have hE87 := hE72; rw [ht75] at hE87; clear hE72
     refine wp_skip ?_
     refine p_tn ?_
     have hE88 := hE87.sub (L' := [(5, .int .i64 (F_l01Relation ap))]) ⟨rfl, trivial⟩
     have hS89 := (St.pick (Γ' := [.rd 1 apA ap.length apC ap]) hS73 [0] (by decide) rfl)
     exact ⟨(by rw [ht75]; exact hE88), hS89⟩
  ·
   rintro a90 w91 ⟨hE92, hS93⟩; clear hE15 hS11
   refine c_seq ?_
   refine c_reg ?_
   refine q_step (v := .int .i64 (bif ((decide ((F_l01Relation ap) = 0)) && (!(F_l01In mask 0 (fullI (ap.length : Int))))) then 1 else F_l01Relation ap)) hE92 (y_move rfl) rfl rfl rfl ?_; intro a95 hE96; clear hE92
   refine q_step (v := .int .i64 (bif ((decide ((F_l01Relation ap) = 0)) && (!(F_l01In mask 0 (fullI (ap.length : Int))))) then 1 else F_l01Relation ap)) hE96 (y_assign rfl) rfl rfl rfl ?_; intro a97 hE98; clear hE96
   refine c_nil ?_
   have hE99 := hE98.sub (L' := [(4, .int .i64 (bif ((decide ((F_l01Relation ap) = 0)) && (!(F_l01In mask 0 (fullI (ap.length : Int))))) then 1 else F_l01Relation ap))]) ⟨rfl, trivial⟩; clear hE98
   refine p_tn ?_
   refine wp_ret ?_
   have hF : F_l01Both ap mask = bif ((decide ((F_l01Relation ap) = 0)) && (!(F_l01In mask 0 (fullI (ap.length : Int))))) then 1 else F_l01Relation ap := by unfold F_l01Both; rfl
   refine c_ret1 hE99 rfl rfl ?_
   exact ⟨(by rw [hF]; first | done | (dsimp only; done) | rfl), hS93.ext⟩

theorem maskOn_both (a : List Int) (m : Int) : F_maskOn a m = F_l01Both a m := by
  unfold F_maskOn F_l01Both F_maskCode
  rw [relCode1_rel]
  by_cases h0 : F_l01Relation a = 0
  · have hl := (l01Rel_t h0).1
    rw [decide_eq_true h0, isMask_eq (by omega) (by omega), show F_inRange (a.length : Int) 0 30 = true from by unfold F_inRange; rw [decide_eq_true (by omega), decide_eq_true (by omega)]; rfl]
    cases F_l01In m 0 (fullI (a.length : Int))
    · rfl
    · simp [h0]
  · rw [decide_eq_false h0]; rfl
theorem l01Both_t {a : List Int} {m : Int} (h : F_l01Both a m = 0) : a.length ≤ 30 := (maskOn_t (by rw [maskOn_both]; exact h)).2.1

def F_s_ImageMask (ap : List Int) (mask : Int) : (Int) × (Int) :=
  bif (!decide ((F_l01Both ap mask) = 0)) then (0, F_l01Both ap mask) else (F_l01Image ap mask, 0)
theorem cf_s_ImageMask (args : Array Value) (w : World) : (callFunc 61 args).run Try.prog w = .ok (.enter 61 args) w := by kernel_rfl
set_option maxRecDepth 100000 in
theorem c_s_ImageMask (apA : Option Addr) (apN apC : Nat) (ap : List Int) (mask : Int) (w : World) (apR : RdS w 1 apA apN apC ap) (hl : ap.length ≤ 1000) :
    Calls Try.prog 61 #[.slice apA apN apC, .int .i64 mask] w (Ret fun v w' => v = .tuple #[.int .i64 ((F_s_ImageMask ap mask).1), .int .i64 ((F_s_ImageMask ap mask).2)] ∧ Ext w w') := by
  obtain rfl : apN = ap.length := apR.len1.symm
  have apLe := apR.le
  have hS := St.nil w
  have hS1 := St.rd0 hS rfl apR; clear hS
  refine enter (args := [.slice apA ap.length apC, .int .i64 mask]) Try.func61 rfl rfl ?_
  rw [Try.ntmps61]; intro a hE
  have hE := hE.sub (L' := [(0, .slice apA ap.length apC), (1, .int .i64 mask)]) ⟨rfl, rfl, trivial⟩
  refine c_seq ?_
  refine c_reg ?_
  refine q_step (v := .int .i64 0) hE (y_assign rfl) rfl rfl rfl ?_; intro a2 hE3; clear hE
  refine q_step (v := .int .i64 0) hE3 (y_assign rfl) rfl rfl rfl ?_; intro a4 hE5; clear hE3
  refine c_nil ?_
  have hE6 := hE5.sub (L' := [(0, .slice apA ap.length apC), (1, .int .i64 mask)]) ⟨rfl, rfl, trivial⟩; clear hE5
  refine p_tn ?_
  refine c_seq ?_
  refine c_reg ?_
  refine q_step (v := .slice apA ap.length apC) hE6 (y_move rfl) rfl rfl rfl ?_; intro a7 hE8; clear hE6
  refine q_step (v := .int .i64 mask) hE8 (y_move rfl) rfl rfl rfl ?_; intro a9 hE10; clear hE8
  refine l_step hE10 rfl (l_call (f := 120) (argv := [.slice apA ap.length apC, .int .i64 mask]) hE10 (fun _ => cf_l01Both _ _) rfl rfl (c_l01Both apA ap.length apC ap mask w (St.rdR (i := 0) hS1 rfl) (by omega)) ?_)
  rintro _ w12 ⟨rfl, he16⟩ a13 hE14; clear hE10
  have hS15 := St.go hS1 he16; clear hS1
  refine q_step (v := .int .i64 (F_l01Both ap mask)) hE14 (y_assign rfl) rfl rfl rfl ?_; intro a17 hE18; clear hE14
  refine c_nil ?_
  have hE19 := hE18.sub (L' := [(0, .slice apA ap.length apC), (1, .int .i64 mask), (6, .int .i64 (F_l01Both ap mask))]) ⟨rfl, rfl, rfl, trivial⟩; clear hE18
  refine p_tn ?_
  refine c_seq ?_
  refine c_seq ?_
  refine c_reg ?_
  refine q_step (v := .int .i64 (F_l01Both ap mask)) hE19 (y_move rfl) rfl rfl rfl ?_; intro a20 hE21; clear hE19
  refine q_step (v := .bool (!decide ((F_l01Both ap mask) = 0))) hE21 (y_neq rfl rfl) rfl rfl rfl ?_; intro a22 hE23; clear hE21
  refine c_nil ?_
  have hE24 := hE23.sub (L' := [(0, .slice apA ap.length apC), (1, .int .i64 mask), (6, .int .i64 (F_l01Both ap mask)), (11, .bool (!decide ((F_l01Both ap mask) = 0)))]) ⟨rfl, rfl, rfl, rfl, trivial⟩; clear hE23
  refine p_tn ?_
  refine c_cond hE24 rfl (fun ht25 => ?_) (fun ht25 => ?_)
  ·
   have ht26 := bn_t ht25
   have hp27 := of_decide_eq_false ht26
   have hE28 := hE24; rw [ht25] at hE28; clear hE24
   refine c_seq ?_
   refine c_reg ?_
   refine q_step (v := .int .i64 (F_l01Both ap mask)) hE28 (y_move rfl) rfl rfl rfl ?_; intro a29 hE30; clear hE28
   refine q_step (v := .int .i64 0) hE30 (y_assign rfl) rfl rfl rfl ?_; intro a31 hE32; clear hE30
   refine q_step (v := .int .i64 (F_l01Both ap mask)) hE32 (y_assign rfl) rfl rfl rfl ?_; intro a33 hE34; clear hE32
   refine c_nil ?_
   have hE35 := hE34.sub (L' := [(4, .int .i64 0), (5, .int .i64 (F_l01Both ap mask))]) ⟨rfl, rfl, trivial⟩; clear hE34
   refine p_tn ?_
   refine wp_ret ?_
   refine p_tr ?_
   have hF : F_s_ImageMask ap mask = (0, F_l01Both ap mask) := by unfold F_s_ImageMask; rw [ht25]; first | done | rfl
   refine c_ret2 hE35 rfl rfl rfl ?_
   exact ⟨(by rw [hF]; first | done | (dsimp only; done) | rfl), hS15.ext⟩
  ·
   have ht36 := bn_f ht25
   have hp37 := of_decide_eq_true ht36
   have hq38 := l01Both_t hp37
   have hE39 := hE24; rw [ht25] at hE39; clear hE24
   refine wp_skip ?_
   refine p_tn ?_
   refine c_seq ?_
   refine c_reg ?_
   refine q_step (v := .slice apA ap.length apC) hE39 (y_move rfl) rfl rfl rfl ?_; intro a40 hE41; clear hE39
   refine q_step (v := .int .i64 mask) hE41 (y_move rfl) rfl rfl rfl ?_; intro a42 hE43; clear hE41
   refine l_step hE43 rfl (l_call (f := 121) (argv := [.slice apA ap.length apC, .int .i64 mask]) hE43 (fun _ => cf_l01Image _ _) rfl rfl (c_l01Image apA ap.length apC ap mask w12 (St.rdR (i := 0) hS15 rfl) (by omega)) ?_)
   rintro _ w45 ⟨rfl, he49⟩ a46 hE47; clear hE43
   have hS48 := St.go hS15 he49; clear hS15
   refine q_step (v := .int .i64 (F_l01Image ap mask)) hE47 (y_assign rfl) rfl rfl rfl ?_; intro a50 hE51; clear hE47
   refine q_step (v := .int .i64 0) hE51 (y_assign rfl) rfl rfl rfl ?_; intro a52 hE53; clear hE51
   refine c_nil ?_
   have hE54 := hE53.sub (L' := [(4, .int .i64 (F_l01Image ap mask)), (5, .int .i64 0)]) ⟨rfl, rfl, trivial⟩; clear hE53
   refine p_tn ?_
   refine wp_ret ?_
   have hF : F_s_ImageMask ap mask = (F_l01Image ap mask, 0) := by unfold F_s_ImageMask; rw [ht25]; first | done | rfl
   refine c_ret2 hE54 rfl rfl rfl ?_
   exact ⟨(by rw [hF]; first | done | (dsimp only; done) | rfl), hS48.ext⟩

theorem s_ImageMask_cd (a : List Int) (m : Int) : 0 ≤ (F_s_ImageMask a m).2 ∧ (F_s_ImageMask a m).2 ≤ 2 := by
  have h := maskOn_bd a m
  rw [maskOn_both] at h
  unfold F_s_ImageMask
  cases decide (F_l01Both a m = 0) <;> simp only [Bool.not_true, Bool.not_false, cond_true, cond_false] <;> omega


def F_l_full9 (np : Int) : Int :=
  bif ((decide (np < 0)) || (decide (60 < np))) then 0 else (wI ((shlI 1 np) - 1))
theorem cf_l_full9 (args : Array Value) (w : World) : (callFunc 64 args).run Try.prog w = .ok (.enter 64 args) w := by kernel_rfl
set_option maxRecDepth 100000 in
theorem c_l_full9 (np : Int) (w : World) :
    Calls Try.prog 64 #[.int .i64 np] w (Ret fun v w' => v = .int .i64 (F_l_full9 np) ∧ w = w') := by
  have hS := St.nil w
  refine enter (args := [.int .i64 np]) Try.func64 rfl rfl ?_
  rw [Try.ntmps64]; intro a hE
  have hE := hE.sub (L' := [(0, .int .i64 np)]) ⟨rfl, trivial⟩
  refine c_seq ?_
  refine c_reg ?_
  refine q_step (v := .int .i64 0) hE (y_assign rfl) rfl rfl rfl ?_; intro a1 hE2; clear hE
  refine c_nil ?_
  have hE3 := hE2.sub (L' := [(0, .int .i64 np)]) ⟨rfl, trivial⟩; clear hE2
  refine p_tn ?_
  refine c_seq ?_
  refine c_cut (fun a' w' => w = w' ∧ E a' 13 [(0, .int .i64 np), (8, .bool ((decide (np < 0)) || (decide (60 < np))))]) ?_ ?_
  ·
   refine c_reg ?_
   refine q_step (v := .int .i64 np) hE3 (y_move rfl) rfl rfl rfl ?_; intro a4 hE5; clear hE3
   refine q_step (v := .bool (decide (np < 0))) hE5 (y_lss rfl rfl) rfl rfl rfl ?_; intro a6 hE7; clear hE5
   refine q_step (v := .bool (decide (np < 0))) hE7 (y_move rfl) rfl rfl rfl ?_; intro a8 hE9; clear hE7
   rcases Bool.eq_false_or_eq_true (decide (np < 0)) with hb10 | hb10
   ·
    have hE11 := hE9; (try rw [hb10] at hE11); clear hE9
    have hp12 := of_decide_eq_true hb10
    refine q_skip hE11 rfl rfl rfl ?_; intro a13 hE14; clear hE11
    refine q_skip hE14 rfl rfl rfl ?_; intro a15 hE16; clear hE14
    refine q_step (v := .bool true) hE16 (y_pick (b := true) rfl rfl) rfl rfl rfl ?_; intro a17 hE18; clear hE16
    refine c_nil ?_
    have hE19 := hE18.sub (L' := [(0, .int .i64 np), (8, .bool true)]) ⟨rfl, rfl, trivial⟩; clear hE18
    refine p_tn ?_
    have hE20 := hE19.sub (L' := [(0, .int .i64 np), (8, .bool true)]) ⟨rfl, rfl, trivial⟩
    exact ⟨rfl, (by rw [hb10]; exact hE20)⟩
   ·
    have hE21 := hE9; (try rw [hb10] at hE21); clear hE9
    have hp22 := of_decide_eq_false hb10
    refine q_step (v := .int .i64 np) hE21 (y_move rfl) rfl rfl rfl ?_; intro a23 hE24; clear hE21
    refine q_step (v := .bool (decide (60 < np))) hE24 (y_gtr rfl rfl) rfl rfl rfl ?_; intro a25 hE26; clear hE24
    refine q_step (v := .bool (decide (60 < np))) hE26 (y_pick (b := false) rfl rfl) rfl rfl rfl ?_; intro a27 hE28; clear hE26
    refine c_nil ?_
    have hE29 := hE28.sub (L' := [(0, .int .i64 np), (8, .bool (decide (60 < np)))]) ⟨rfl, rfl, trivial⟩; clear hE28
    refine p_tn ?_
    have hE30 := hE29.sub (L' := [(0, .int .i64 np), (8, .bool (decide (60 < np)))]) ⟨rfl, rfl, trivial⟩
    exact ⟨rfl, (by rw [hb10]; exact hE30)⟩
  ·
   rintro a31 _ ⟨rfl, hE33⟩; clear hE3
   refine c_cond hE33 rfl (fun ht36 => ?_) (fun ht36 => ?_)
   ·
    have hE37 := hE33; rw [ht36] at hE37; clear hE33
    refine c_seq ?_
    refine c_reg ?_
    refine q_step (v := .int .i64 0) hE37 (y_assign rfl) rfl rfl rfl ?_; intro a38 hE39; clear hE37
    refine c_nil ?_
    have hE40 := hE39.sub (L' := [(2, .int .i64 0)]) ⟨rfl, trivial⟩; clear hE39
    refine p_tn ?_
    refine wp_ret ?_
    refine p_tr ?_
    have hF : F_l_full9 np = 0 := by unfold F_l_full9; rw [ht36]; first | done | rfl
    refine c_ret1 hE40 rfl rfl ?_
    exact ⟨(by rw [hF]; first | done | (dsimp only; done) | rfl), rfl⟩
   ·
    obtain ⟨ht41, ht42⟩ := bor_f ht36
    have hp43 := of_decide_eq_false ht41
    have hp44 := of_decide_eq_false ht42
    have hE45 := hE33; rw [ht36] at hE45; clear hE33
    refine wp_skip ?_
    refine p_tn ?_
    refine c_seq ?_
    refine c_reg ?_
    refine q_step (v := .int .i64 np) hE45 (y_move rfl) rfl rfl rfl ?_; intro a46 hE47; clear hE45
    refine q_step (v := .int .u64 np) hE47 (y_conv (ds := .int .i64) (by kernel_rfl) (by kernel_rfl) rfl (wU64 (by omega) (by omega))) rfl rfl rfl ?_; intro a48 hE49; clear hE47
    refine q_step (v := .int .i64 (shlI 1 np)) hE49 (y_shl rfl rfl (by omega)) rfl rfl rfl ?_; intro a50 hE51; clear hE49
    refine q_step (v := .int .i64 (wI ((shlI 1 np) - 1))) hE51 (y_subw rfl rfl) rfl rfl rfl ?_; intro a52 hE53; clear hE51
    refine q_step (v := .int .i64 (wI ((shlI 1 np) - 1))) hE53 (y_assign rfl) rfl rfl rfl ?_; intro a54 hE55; clear hE53
    refine c_nil ?_
    have hE56 := hE55.sub (L' := [(2, .int .i64 (wI ((shlI 1 np) - 1)))]) ⟨rfl, trivial⟩; clear hE55
    refine p_tn ?_
    refine wp_ret ?_
    have hF : F_l_full9 np = wI ((shlI 1 np) - 1) := by unfold F_l_full9; rw [ht36]; first | done | rfl
    refine c_ret1 hE56 rfl rfl ?_
    exact ⟨(by rw [hF]; first | done | (dsimp only; done) | rfl), rfl⟩

end Go.Proofs.Ytlbonhloeefnmaa
