/- GRP: models and contracts, printed by wip/gen/gen.py -/
import Derived.Test.YtkilkfhjfobcdaaGRD
import Derived.Test.YtkilkfhjfobcdaaByte
set_option linter.unusedVariables false
set_option linter.unusedSimpArgs false
namespace Go.Proofs.Ytkilkfhjfobcdaa
open Go.RowKit

theorem partEnd_un {k v : Int} {a : Fm} (h : (Fm.un k v a).Ok) : F_partEnd (Fm.un k v a).code 1 = 1 + a.size ∧ slI 2 (Fm.un k v a).code 1 (1 + a.size) = a.code := by
  have hl := (Fm.un k v a).code_half
  have hs : (Fm.un k v a).size = a.size + 1 := rfl
  have pa := a.size_pos
  have e1 : slI 2 (Fm.un k v a).code 1 (1 + a.size) = a.code := by
    have := fm_un (k := k) (v := v) (a := a)
    rw [hl, hs] at this
    rw [show (1 : Int) + (a.size : Int) = ((a.size + 1 : Nat) : Int) by omega]; exact this
  refine ⟨?_, e1⟩
  rw [partEnd_l]
  refine l02Part_of ?_
  rw [hl, hs, show Int.toNat (((a.size + 1 : Nat) : Int) - 1) + 1 = 1 + a.size by omega, part_code _ (Fm.code_ev _) a 1 1 1 h.2 (by omega) (by omega) e1.symm (by rw [hl, hs]; omega)]
  rw [show (1 : Int) - 1 = 0 by rfl, part_zero]
theorem partEnd_bin {k v : Int} {a b : Fm} (h : (Fm.bin k v a b).Ok) : F_partEnd (Fm.bin k v a b).code 1 = 1 + a.size ∧ F_partEnd (Fm.bin k v a b).code (1 + a.size) = 1 + a.size + b.size ∧ slI 2 (Fm.bin k v a b).code 1 (1 + a.size) = a.code ∧ slI 2 (Fm.bin k v a b).code (1 + a.size) (1 + a.size + b.size) = b.code := by
  obtain ⟨p1, p2, p3⟩ := fm_part h
  have hl := (Fm.bin k v a b).code_half
  have hs : (Fm.bin k v a b).size = a.size + b.size + 1 := rfl
  have pa := a.size_pos
  have pb := b.size_pos
  rw [hl, hs] at p3
  have e3 : b.code = slI 2 (Fm.bin k v a b).code (1 + a.size) (1 + a.size + b.size) := by
    rw [show (1 : Int) + (a.size : Int) + (b.size : Int) = ((a.size + b.size + 1 : Nat) : Int) by omega]; exact p3.symm
  refine ⟨by rw [partEnd_l]; exact p1, ?_, p2, e3.symm⟩
  rw [partEnd_l]
  refine l02Part_of ?_
  rw [hl, hs, show Int.toNat (((a.size + b.size + 1 : Nat) : Int) - (1 + a.size)) + 1 = 1 + b.size by omega, part_code _ (Fm.code_ev _) b 1 (1 + a.size) 1 h.2.2 (by omega) (by omega) e3 (by rw [hl, hs]; omega)]
  rw [show (1 : Int) - 1 = 0 by rfl, part_zero]
theorem parts_leaf {k v : Int} (h : (Fm.leaf k v).Ok) : F_parts (Fm.leaf k v).code = [] := by
  have hk : F_partsOf (gS 2 0 (Fm.leaf k v).code 0) = 0 := h.1
  unfold F_parts
  rw [hk]; rfl
theorem parts_un {k v : Int} {a : Fm} (h : (Fm.un k v a).Ok) : F_parts (Fm.un k v a).code = [a.code] := by
  have hk : F_partsOf (gS 2 0 (Fm.un k v a).code 0) = 1 := h.1.1
  unfold F_parts
  rw [hk, (partEnd_un h).1, (partEnd_un h).2, decide_eq_true rfl, cond_true]
theorem parts_bin {k v : Int} {a b : Fm} (h : (Fm.bin k v a b).Ok) : F_parts (Fm.bin k v a b).code = [a.code, b.code] := by
  have hk : F_partsOf (gS 2 0 (Fm.bin k v a b).code 0) = 2 := h.1.1
  obtain ⟨p1, p2, p3, p4⟩ := partEnd_bin h
  unfold F_parts
  rw [hk, p1, p2, p3, p4, decide_eq_false (by omega), cond_false, decide_eq_true rfl, cond_true]


theorem isFm_t {ap : List Int} (he : ap.length = ap.length / 2 * 2) (h : F_l02Is ap = true) : IsFm ap ∧ ap.length ≤ 80 := ⟨IsFm.of he h, by have := l02Is_t h; omega⟩
theorem isFm_f {ap : List Int} (he : ap.length = ap.length / 2 * 2) (h : F_isFormula ap = true) : IsFm ap ∧ ap.length ≤ 80 := isFm_t he (by rw [← isFormula_eq]; exact h)


/-- The lengths of the first rows, added up. -/
def sumR (R : List (List Int)) (i : Int) : Nat := ((R.take i.toNat).map List.length).sum
theorem sumR_zero (R : List (List Int)) : sumR R 0 = 0 := rfl
theorem sumR_step (R : List (List Int)) (i : Int) (h0 : 0 ≤ i) (h1 : i < (R.length : Int)) : sumR R (i + 1) = sumR R i + (gL R i).length := by
  unfold sumR
  have hk : i.toNat < R.length := by omega
  rw [show (i + 1).toNat = i.toNat + 1 by omega, List.take_succ_eq_append_getElem hk, List.map_append, List.sum_append]
  have : gL R i = R[i.toNat] := by
    unfold gL; rw [List.getD_eq_getElem?_getD, List.getElem?_eq_getElem hk]; rfl
  rw [this]; simp
theorem sumR_all (R : List (List Int)) (i : Int) : sumR R i ≤ (R.map List.length).sum := by
  unfold sumR
  have := congrArg List.sum (congrArg (List.map List.length) (List.take_append_drop i.toNat R))
  rw [List.map_append, List.sum_append] at this
  omega
theorem sumR_parts {ap : List Int} (h : IsFm ap) (i : Int) : sumR (F_parts ap) i + 2 ≤ ap.length := by
  have h1 := sumR_all (F_parts ap) i
  obtain ⟨t, ht, rfl⟩ := h
  cases t with
  | leaf k v =>
    rw [parts_leaf ht] at *
    have : (Fm.leaf k v).code.length = 2 := rfl
    simp only [List.map_nil, List.sum_nil] at h1
    omega
  | un k v a =>
    rw [parts_un ht] at *
    have : (Fm.un k v a).code.length = a.code.length + 2 := rfl
    simp only [List.map_cons, List.map_nil, List.sum_cons, List.sum_nil] at h1
    omega
  | bin k v a b =>
    rw [parts_bin ht] at *
    have : (Fm.bin k v a b).code.length = (a.code ++ b.code).length + 2 := rfl
    rw [List.length_append] at this
    simp only [List.map_cons, List.map_nil, List.sum_cons, List.sum_nil] at h1
    omega


/-- The polarities of a tree. -/
def Fm.pol : Fm → Int → List Int
  | .leaf _ _, p => [p]
  | .un _ _ a, p => [p] ++ a.pol p
  | .bin k _ a b, p => ([p] ++ a.pol (bif decide (k = 4) then 0 - p else p)) ++ b.pol p
theorem Fm.pol_len : ∀ (t : Fm) (p : Int), (t.pol p).length = t.size
  | .leaf _ _, _ => rfl
  | .un _ _ a, p => by simp only [Fm.pol, Fm.size, List.length_append, List.length_cons, List.length_nil, a.pol_len p]; omega
  | .bin _ _ a b, p => by simp only [Fm.pol, Fm.size, List.length_append, List.length_cons, List.length_nil, a.pol_len, b.pol_len p]; omega
theorem l03Pol_tree : ∀ (t : Fm) (r : Nat) (p : Int), t.Ok → t.code.length < r → F_l03Polarities_r r t.code p = t.pol p := by
  intro t
  induction t with
  | leaf k v =>
    intro r p h hr
    obtain ⟨r, rfl⟩ : ∃ r', r = r' + 1 := ⟨r - 1, by omega⟩
    show F_l03Polarities_b (F_l03Polarities_r r) (Fm.leaf k v).code p = _
    unfold F_l03Polarities_b
    rw [show F_l02Parts (gS 2 0 (Fm.leaf k v).code 0) = 0 from h.1, decide_eq_false (by omega), cond_false, decide_eq_false (by omega), cond_false]
    rfl
  | un k v a ih =>
    intro r p h hr
    obtain ⟨r, rfl⟩ : ∃ r', r = r' + 1 := ⟨r - 1, by omega⟩
    have hl : a.code.length < r := by
      have e : (Fm.un k v a).code = k :: v :: a.code := rfl
      rw [e, List.length_cons, List.length_cons] at hr; omega
    show F_l03Polarities_b (F_l03Polarities_r r) (Fm.un k v a).code p = _
    unfold F_l03Polarities_b
    rw [show F_l02Parts (gS 2 0 (Fm.un k v a).code 0) = 1 from h.1.1, decide_eq_true rfl, cond_true, fm_un, ih r p h.2 hl]
    rfl
  | bin k v a b iha ihb =>
    intro r p h hr
    obtain ⟨r, rfl⟩ : ∃ r', r = r' + 1 := ⟨r - 1, by omega⟩
    have e : (Fm.bin k v a b).code = k :: v :: (a.code ++ b.code) := rfl
    have hla : a.code.length < r := by rw [e, List.length_cons, List.length_cons, List.length_append] at hr; omega
    have hlb : b.code.length < r := by rw [e, List.length_cons, List.length_cons, List.length_append] at hr; omega
    obtain ⟨p1, p2, p3⟩ := fm_part h
    show F_l03Polarities_b (F_l03Polarities_r r) (Fm.bin k v a b).code p = _
    unfold F_l03Polarities_b
    rw [show F_l02Parts (gS 2 0 (Fm.bin k v a b).code 0) = 2 from h.1.1, decide_eq_false (by omega), cond_false, decide_eq_true rfl, cond_true, p1, p2, p3, show gS 2 0 (Fm.bin k v a b).code 0 = k from rfl]
    rw [Fm.pol]
    cases decide (k = 4)
    · simp only [cond_false, iha r p h.2.1 hla, ihb r p h.2.2 hlb]
    · simp only [cond_true, iha r (0 - p) h.2.1 hla, ihb r p h.2.2 hlb]


def F_polarities_k1_L1b (bp : List Int) (polarity : Int) (self : List Int → Int → List Int → (List Int)) (rec : Int → (List Int) → Int × (List Int)) (t15 : Int) (q3_0 : List Int) : Int × (List Int) :=
  bif (decide (t15 < ((F_parts bp).length : Int))) then (bif (decide ((gS 2 0 bp 0) = 4)) then (bif (decide (t15 = 0)) then (rec (t15 + 1) (self (gL (F_parts bp) t15) (0 - polarity) q3_0)) else (rec (t15 + 1) (self (gL (F_parts bp) t15) polarity q3_0))) else (rec (t15 + 1) (self (gL (F_parts bp) t15) polarity q3_0))) else (t15, q3_0)
def F_polarities_k1_L1 (bp : List Int) (polarity : Int) (self : List Int → Int → List Int → (List Int)) : Nat → Int → (List Int) → Int × (List Int)
  | 0, t15, q3_0 => (t15, q3_0)
  | r + 1, t15, q3_0 => F_polarities_k1_L1b bp polarity self (F_polarities_k1_L1 bp polarity self r) t15 q3_0
def F_polarities_k1_b (self : List Int → Int → List Int → (List Int)) (bp : List Int) (polarity : Int) (out : List Int) : List Int :=
  (F_polarities_k1_L1 bp polarity self (Int.toNat (((F_parts bp).length : Int) - 0) + 1) 0 (out ++ ([polarity]))).2
def F_polarities_k1_r : Nat → List Int → Int → List Int → (List Int)
  | 0 => fun _ _ _ => default
  | r + 1 => F_polarities_k1_b (F_polarities_k1_r r)
def F_polarities_k1 (bp : List Int) (polarity : Int) (out : List Int) : List Int := F_polarities_k1_r (bp.length + 1) bp polarity out
theorem walk_tree : ∀ (t : Fm) (r : Nat) (p : Int) (out : List Int), t.Ok → t.code.length < r → F_polarities_k1_r r t.code p out = out ++ t.pol p := by
  intro t
  induction t with
  | leaf k v =>
    intro r p out h hr
    obtain ⟨r, rfl⟩ : ∃ r', r = r' + 1 := ⟨r - 1, by omega⟩
    show F_polarities_k1_b (F_polarities_k1_r r) (Fm.leaf k v).code p out = _
    unfold F_polarities_k1_b
    rw [show Int.toNat (((F_parts (Fm.leaf k v).code).length : Int) - 0) + 1 = 1 by rw [parts_leaf h]; simp]
    show (F_polarities_k1_L1b (Fm.leaf k v).code p (F_polarities_k1_r r) (F_polarities_k1_L1 (Fm.leaf k v).code p (F_polarities_k1_r r) 0) 0 (out ++ [p])).2 = _
    unfold F_polarities_k1_L1b
    rw [parts_leaf h, decide_eq_false (by simp), cond_false]
    rfl
  | un k v a ih =>
    intro r p out h hr
    obtain ⟨r, rfl⟩ : ∃ r', r = r' + 1 := ⟨r - 1, by omega⟩
    have hl : a.code.length < r := by
      have e : (Fm.un k v a).code = k :: v :: a.code := rfl
      rw [e, List.length_cons, List.length_cons] at hr; omega
    have hk4 : ¬ k = 4 := fun hk => by
      have h1 := h.1.1
      rw [hk] at h1; exact absurd h1 (by decide)
    show F_polarities_k1_b (F_polarities_k1_r r) (Fm.un k v a).code p out = _
    unfold F_polarities_k1_b
    rw [show Int.toNat (((F_parts (Fm.un k v a).code).length : Int) - 0) + 1 = 2 by rw [parts_un h]; simp]
    show (F_polarities_k1_L1b (Fm.un k v a).code p (F_polarities_k1_r r) (F_polarities_k1_L1b (Fm.un k v a).code p (F_polarities_k1_r r) (F_polarities_k1_L1 (Fm.un k v a).code p (F_polarities_k1_r r) 0)) 0 (out ++ [p])).2 = _
    unfold F_polarities_k1_L1b
    rw [parts_un h, show gS 2 0 (Fm.un k v a).code 0 = k from rfl, decide_eq_false hk4]
    have d0 : decide ((0 : Int) < ((([a.code] : List (List Int)).length : Nat) : Int)) = true := by simp
    have d1 : decide ((0 : Int) + 1 < ((([a.code] : List (List Int)).length : Nat) : Int)) = false := by simp
    simp only [d0, d1, cond_true, cond_false]
    show F_polarities_k1_r r a.code p (out ++ [p]) = _
    rw [ih r p _ h.2 hl, List.append_assoc]
    rfl
  | bin k v a b iha ihb =>
    intro r p out h hr
    obtain ⟨r, rfl⟩ : ∃ r', r = r' + 1 := ⟨r - 1, by omega⟩
    have e : (Fm.bin k v a b).code = k :: v :: (a.code ++ b.code) := rfl
    have hla : a.code.length < r := by rw [e, List.length_cons, List.length_cons, List.length_append] at hr; omega
    have hlb : b.code.length < r := by rw [e, List.length_cons, List.length_cons, List.length_append] at hr; omega
    show F_polarities_k1_b (F_polarities_k1_r r) (Fm.bin k v a b).code p out = _
    unfold F_polarities_k1_b
    rw [show Int.toNat (((F_parts (Fm.bin k v a b).code).length : Int) - 0) + 1 = 3 by rw [parts_bin h]; simp]
    show (F_polarities_k1_L1b (Fm.bin k v a b).code p (F_polarities_k1_r r) (F_polarities_k1_L1b (Fm.bin k v a b).code p (F_polarities_k1_r r) (F_polarities_k1_L1b (Fm.bin k v a b).code p (F_polarities_k1_r r) (F_polarities_k1_L1 (Fm.bin k v a b).code p (F_polarities_k1_r r) 0))) 0 (out ++ [p])).2 = _
    unfold F_polarities_k1_L1b
    rw [parts_bin h, show gS 2 0 (Fm.bin k v a b).code 0 = k from rfl]
    have d0 : decide ((0 : Int) < ((([a.code, b.code] : List (List Int)).length : Nat) : Int)) = true := by simp
    have d1 : decide ((0 : Int) + 1 < ((([a.code, b.code] : List (List Int)).length : Nat) : Int)) = true := by simp
    have d2 : decide ((0 : Int) + 1 + 1 < ((([a.code, b.code] : List (List Int)).length : Nat) : Int)) = false := by simp
    have d3 : decide ((0 : Int) + 1 = 0) = false := by decide
    have d4 : decide ((0 : Int) = 0) = true := by decide
    by_cases hk : k = 4
    · simp only [decide_eq_true hk, d0, d1, d2, d3, d4, cond_true, cond_false]
      show F_polarities_k1_r r b.code p (F_polarities_k1_r r a.code (0 - p) (out ++ [p])) = _
      rw [iha r (0 - p) _ h.2.1 hla, ihb r p _ h.2.2 hlb, Fm.pol, decide_eq_true hk, cond_true]
      simp only [List.append_assoc]
    · simp only [decide_eq_false hk, d0, d1, d2, cond_true, cond_false]
      show F_polarities_k1_r r b.code p (F_polarities_k1_r r a.code p (out ++ [p])) = _
      rw [iha r p _ h.2.1 hla, ihb r p _ h.2.2 hlb, Fm.pol, decide_eq_false hk, cond_false]
      simp only [List.append_assoc]
theorem walkLen : ∀ (r : Nat) (bp : List Int) (polarity : Int) (out : List Int) (hl : out.length + bp.length ≤ 1000) (hf : IsFm bp) (hs : -1 ≤ polarity ∧ polarity ≤ 1) (hm : bp.length < r), (F_polarities_k1_r r bp polarity out).length ≤ out.length + bp.length := by
  intro r bp p out _ hf _ hm
  obtain ⟨t, ht, rfl⟩ := hf
  rw [walk_tree t r p out ht hm, List.length_append, t.pol_len, t.code_len]
  omega
theorem polarities_eq {ap : List Int} (hf : IsFm ap) : F_polarities_k1 ap 1 [] = F_l03Polarities ap 1 := by
  obtain ⟨t, ht, rfl⟩ := hf
  show F_polarities_k1_r _ t.code 1 [] = F_l03Polarities_r _ t.code 1
  rw [walk_tree t _ 1 [] ht (Nat.lt_succ_self _), l03Pol_tree t _ 1 ht (Nat.lt_succ_self _), List.nil_append]
theorem l03Pol_len {ap : List Int} (hf : IsFm ap) : (F_l03Polarities ap 1).length = ap.length / 2 := by
  obtain ⟨t, ht, rfl⟩ := hf
  show (F_l03Polarities_r _ t.code 1).length = _
  rw [l03Pol_tree t _ 1 ht (Nat.lt_succ_self _), t.pol_len, t.code_half]

theorem cf_polarities_k1 (args : Array Value) (w : World) : (callFunc 141 args).run Try.prog w = .ok (.enter 141 args) w := by kernel_rfl
set_option maxRecDepth 100000 in
theorem cb_polarities_k1 (self : List Int → Int → List Int → (List Int)) (mu : Nat) (hpost : ∀ (bp : List Int) (polarity : Int) (out : List Int) (hl : out.length + bp.length ≤ 1000) (hf : IsFm bp) (hs : -1 ≤ polarity ∧ polarity ≤ 1) (hm : bp.length < mu), (self bp polarity out).length ≤ out.length + bp.length) (bpA : Option Addr) (bpN bpC : Nat) (bp : List Int) (polarity : Int) (outB : Nat) (outA : Option Addr) (outN outC : Nat) (out : List Int) (walkB : Nat) (w : World) (w0v : World) (Γ0 : List Ent) (hS0 : St w0v w (.rd 2 bpA bpN bpC bp :: .blk outB #[.slice outA outN outC] 22 :: .own 2 1 outA outN outC out :: .blk walkB #[.func (.func 141) #[] #[.pointer (some ⟨outB, 0, none⟩), .pointer (some ⟨walkB, 0, none⟩)]] 142 :: Γ0)) (hl : out.length + bp.length ≤ 1000) (hf : IsFm bp) (hs : -1 ≤ polarity ∧ polarity ≤ 1) (hmu : mu = bp.length) (ih : ∀ (bpA : Option Addr) (bpN bpC : Nat) (bp : List Int) (polarity : Int) (outB : Nat) (outA : Option Addr) (outN outC : Nat) (out : List Int) (walkB : Nat) (w : World) (w0v : World) (Γ0 : List Ent) (hS0 : St w0v w (.rd 2 bpA bpN bpC bp :: .blk outB #[.slice outA outN outC] 22 :: .own 2 1 outA outN outC out :: .blk walkB #[.func (.func 141) #[] #[.pointer (some ⟨outB, 0, none⟩), .pointer (some ⟨walkB, 0, none⟩)]] 142 :: Γ0)) (hl : out.length + bp.length ≤ 1000) (hf : IsFm bp) (hs : -1 ≤ polarity ∧ polarity ≤ 1) (hdec : bp.length < mu), Calls Try.prog 141 #[.slice bpA bpN bpC, .int .i64 polarity, .pointer (some ⟨outB, 0, none⟩), .pointer (some ⟨walkB, 0, none⟩)] w (Ret fun v w' => ∃ outA1 : Option Addr, ∃ outC1 : Nat, v = .tuple #[] ∧ St w0v w' (.rd 2 bpA bpN bpC bp :: .blk outB #[.slice outA1 ((self bp polarity out).length) outC1] 22 :: .own 2 1 outA1 ((self bp polarity out).length) outC1 (self bp polarity out) :: .blk walkB #[.func (.func 141) #[] #[.pointer (some ⟨outB, 0, none⟩), .pointer (some ⟨walkB, 0, none⟩)]] 142 :: Γ0))) :
    Calls Try.prog 141 #[.slice bpA bpN bpC, .int .i64 polarity, .pointer (some ⟨outB, 0, none⟩), .pointer (some ⟨walkB, 0, none⟩)] w (Ret fun v w' => ∃ outA1 : Option Addr, ∃ outC1 : Nat, v = .tuple #[] ∧ St w0v w' (.rd 2 bpA bpN bpC bp :: .blk outB #[.slice outA1 ((F_polarities_k1_b self bp polarity out).length) outC1] 22 :: .own 2 1 outA1 ((F_polarities_k1_b self bp polarity out).length) outC1 (F_polarities_k1_b self bp polarity out) :: .blk walkB #[.func (.func 141) #[] #[.pointer (some ⟨outB, 0, none⟩), .pointer (some ⟨walkB, 0, none⟩)]] 142 :: Γ0)) := by
  have hl1 := hf.len
  have hpt := parts_rows hf
  have hsp := sumR_parts hf
  have hs0 := sumR_zero (F_parts bp)
  obtain rfl : bpN = bp.length / 2 := ((St.rdR (i := 0) hS0 rfl).lenD (by decide)).symm
  have bpEv := (St.rdR (i := 0) hS0 rfl).ev (by decide)
  have bpLe := (St.rdR (i := 0) hS0 rfl).le
  obtain rfl : outN = out.length := (St.rdO (i := 2) hS0 rfl).len1.symm
  have outLe := (St.rdO (i := 2) hS0 rfl).le
  refine enter (args := [.slice bpA ((bp).length / 2 : Nat) bpC, .int .i64 polarity, .pointer (some ⟨outB, 0, none⟩), .pointer (some ⟨walkB, 0, none⟩)]) Try.func141 rfl rfl ?_
  rw [Try.ntmps141]; intro a hE
  have hE := hE.sub (L' := [(0, .slice bpA ((bp).length / 2 : Nat) bpC), (1, .int .i64 polarity), (2, .pointer (some ⟨outB, 0, none⟩)), (3, .pointer (some ⟨walkB, 0, none⟩))]) ⟨rfl, rfl, rfl, rfl, trivial⟩
  refine c_seq ?_
  refine c_reg ?_
  refine q_step (v := .slice outA out.length outC) hE (y_load (fun _ => by kernel_rfl) rfl (St.cell (i := 1) hS0 rfl rfl)) rfl rfl rfl ?_; intro a1 hE2; clear hE
  refine q_step (v := .int .i64 polarity) hE2 (y_move rfl) rfl rfl rfl ?_; intro a3 hE4; clear hE2
  refine l_step hE4 rfl (l_lit (e := 2) (s := 1) (xs := [polarity]) (vs := [.int .i64 polarity]) hS0 hE4 rfl (fun _ => by kernel_rfl) rfl rfl rfl ?_)
  intro b5 w6 hS9 he10 a7 hE8; clear hS0 hE4
  obtain ⟨_, hi1, hi2, hi3, hi4⟩ := info_parts (show (Try.prog.info? 2).map (fun i => (i.zero, i.size, i.bytes)) = some (some (.int .i64 0), 1, 8) by kernel_rfl)
  refine l_step hE8 rfl (l_append (k := 3) (n' := (out ++ ([polarity])).length) hS9 hE8 (by kernel_rfl) hi1 hi2 hi3 rfl (by decide) (by rw [hi4]; decide) rfl rfl rfl (St.rdO (i := 0) hS9 rfl) (by first | omega | (simp only [List.length_append, List.length_cons, List.length_nil]; omega)) (by have h1 := (St.rdO (i := 3) hS9 rfl).len1; have h2 := (St.rdO (i := 0) hS9 rfl).len1; first | rw [List.length_append, h1, h2] | (simp only [List.length_append])) rfl ?_)
  intro b11 c17 w12 hS15 a13 hE14; clear hS9 hE8 hi1 hi2 hi3 hi4
  refine l_step hE14 rfl (l_storeB (k := 2) (cs' := #[.slice b11 ((out ++ ([polarity])).length) c17]) hS15 hE14 (fun _ => by kernel_rfl) rfl rfl rfl rfl rfl rfl rfl ?_)
  intro w19 hS22 a20 hE21; clear hS15 hE14
  refine c_nil ?_
  have hE24 := hE21.sub (L' := [(0, .slice bpA ((bp).length / 2 : Nat) bpC), (1, .int .i64 polarity), (3, .pointer (some ⟨walkB, 0, none⟩))]) ⟨rfl, rfl, rfl, trivial⟩; clear hE21
  refine p_tn ?_
  refine c_seq ?_
  refine c_reg ?_
  refine q_step (v := .slice bpA ((bp).length / 2 : Nat) bpC) hE24 (y_move rfl) rfl rfl rfl ?_; intro a25 hE26; clear hE24
  have hc33 := c_parts bpA ((bp).length / 2 : Nat) bpC bp w19 (St.rdR (i := 1) hS22 rfl) (by omega) (by omega)
  refine l_step hE26 rfl (l_call (f := 142) (argv := [.slice bpA ((bp).length / 2 : Nat) bpC]) hE26 (fun _ => cf_parts _ _) rfl rfl (by exact hc33) ?_)
  rintro _ w28 ⟨b34, c35, rfl, ho36, he32⟩ a29 hE30; clear hE26
  have hS31 := St.ownRows (rows := partRows bpA bpC bp) hS22 he32 ho36 rfl (partRows_xs _ _ _) (partRows_ok (St.rdR (i := 1) hS22 rfl) (St.robR (i := 1) hS22 rfl) hf); clear hS22
  refine q_step (v := .int .i64 ((F_parts bp).length : Int)) hE30 (y_len (e := 32) (by kernel_rfl) rfl) rfl rfl rfl ?_; intro a37 hE38; clear hE30
  refine q_step (v := .int .i64 0) hE38 (y_move rfl) rfl rfl rfl ?_; intro a39 hE40; clear hE38
  refine c_nil ?_
  have hE41 := hE40.sub (L' := [(0, .slice bpA ((bp).length / 2 : Nat) bpC), (1, .int .i64 polarity), (3, .pointer (some ⟨walkB, 0, none⟩)), (13, .slice b34 ((F_parts bp).length) c35), (14, .int .i64 ((F_parts bp).length : Int)), (15, .int .i64 0)]) ⟨rfl, rfl, rfl, rfl, rfl, rfl, trivial⟩; clear hE40
  refine p_tn ?_
  refine c_cut1 (fun a' w' => ∃ q3_0A_42 : Option Addr, ∃ q3_0C_42 : Nat, (0 ≤ ((F_polarities_k1_L1 bp polarity self (Int.toNat (((F_parts bp).length : Int) - 0) + 1) 0 (out ++ ([polarity]))).1)) ∧ ((((F_polarities_k1_L1 bp polarity self (Int.toNat (((F_parts bp).length : Int) - 0) + 1) 0 (out ++ ([polarity]))).2).length : Int) ≤ (out.length : Int) + 1 + (sumR (F_parts bp) ((F_polarities_k1_L1 bp polarity self (Int.toNat (((F_parts bp).length : Int) - 0) + 1) 0 (out ++ ([polarity]))).1) : Int)) ∧ (((F_polarities_k1_L1 bp polarity self (Int.toNat (((F_parts bp).length : Int) - 0) + 1) 0 (out ++ ([polarity]))).1) ≤ ((F_parts bp).length : Int)) ∧ E a' 39 [(0, .slice bpA ((bp).length / 2 : Nat) bpC), (1, .int .i64 polarity), (3, .pointer (some ⟨walkB, 0, none⟩)), (13, .slice b34 ((F_parts bp).length) c35), (14, .int .i64 ((F_parts bp).length : Int)), (15, .int .i64 ((F_polarities_k1_L1 bp polarity self (Int.toNat (((F_parts bp).length : Int) - 0) + 1) 0 (out ++ ([polarity]))).1))] ∧ St w0v w' (.nest 32 2 none b34 c35 ((partRows bpA bpC bp).map (·.1)) (F_parts bp) :: .own 2 1 (some ⟨b5, 0, none⟩) 1 1 ([polarity]) :: .rd 2 bpA ((bp).length / 2 : Nat) bpC bp :: .blk outB #[.slice q3_0A_42 (((F_polarities_k1_L1 bp polarity self (Int.toNat (((F_parts bp).length : Int) - 0) + 1) 0 (out ++ ([polarity]))).2).length) q3_0C_42] 22 :: .own 2 1 q3_0A_42 (((F_polarities_k1_L1 bp polarity self (Int.toNat (((F_parts bp).length : Int) - 0) + 1) 0 (out ++ ([polarity]))).2).length) q3_0C_42 ((F_polarities_k1_L1 bp polarity self (Int.toNat (((F_parts bp).length : Int) - 0) + 1) 0 (out ++ ([polarity]))).2) :: .blk walkB #[.func (.func 141) #[] #[.pointer (some ⟨outB, 0, none⟩), .pointer (some ⟨walkB, 0, none⟩)]] 142 :: Γ0)) ?_ ?_
  ·
   refine wp_block ?_
   refine c_loop (fun r a' w' => ∃ t15 : Int, ∃ q3_0 : List Int, ∃ q3_0A : Option Addr, ∃ q3_0C : Nat, F_polarities_k1_L1 bp polarity self r t15 q3_0 = F_polarities_k1_L1 bp polarity self (Int.toNat (((F_parts bp).length : Int) - 0) + 1) 0 (out ++ ([polarity])) ∧ Int.toNat (((F_parts bp).length : Int) - t15) < r ∧ (0 ≤ t15) ∧ ((q3_0.length : Int) ≤ (out.length : Int) + 1 + (sumR (F_parts bp) t15 : Int)) ∧ (t15 ≤ ((F_parts bp).length : Int)) ∧ E a' 39 [(0, .slice bpA ((bp).length / 2 : Nat) bpC), (1, .int .i64 polarity), (3, .pointer (some ⟨walkB, 0, none⟩)), (13, .slice b34 ((F_parts bp).length) c35), (14, .int .i64 ((F_parts bp).length : Int)), (15, .int .i64 t15)] ∧ St w0v w' (.nest 32 2 none b34 c35 ((partRows bpA bpC bp).map (·.1)) (F_parts bp) :: .own 2 1 (some ⟨b5, 0, none⟩) 1 1 ([polarity]) :: .rd 2 bpA ((bp).length / 2 : Nat) bpC bp :: .blk outB #[.slice q3_0A ((q3_0).length) q3_0C] 22 :: .own 2 1 q3_0A ((q3_0).length) q3_0C q3_0 :: .blk walkB #[.func (.func 141) #[] #[.pointer (some ⟨outB, 0, none⟩), .pointer (some ⟨walkB, 0, none⟩)]] 142 :: Γ0)) (r := (Int.toNat (((F_parts bp).length : Int) - 0) + 1)) ?_ ?_
   · exact ⟨0, out ++ ([polarity]), b11, c17, rfl, Nat.lt_succ_self _, (by first | omega | (simp only [sS_len, sL_len]; omega) | (simp only [List.length_replicate, sI_len]; omega) | (simp only [List.length_append, List.length_cons, List.length_nil, sI_len, cond_true, cond_false]; omega) | (simp only [List.length_append, List.length_cons, List.length_nil, sI_len, cond_eq_ite, apply_ite List.length]; split <;> simp only [List.length_append, List.length_cons, List.length_nil, sI_len] <;> omega) | grind), (by first | omega | (simp only [sS_len, sL_len]; omega) | (simp only [List.length_replicate, sI_len]; omega) | (simp only [List.length_append, List.length_cons, List.length_nil, sI_len, cond_true, cond_false]; omega) | (simp only [List.length_append, List.length_cons, List.length_nil, sI_len, cond_eq_ite, apply_ite List.length]; split <;> simp only [List.length_append, List.length_cons, List.length_nil, sI_len] <;> omega) | grind), (by first | omega | (simp only [sS_len, sL_len]; omega) | (simp only [List.length_replicate, sI_len]; omega) | (simp only [List.length_append, List.length_cons, List.length_nil, sI_len, cond_true, cond_false]; omega) | (simp only [List.length_append, List.length_cons, List.length_nil, sI_len, cond_eq_ite, apply_ite List.length]; split <;> simp only [List.length_append, List.length_cons, List.length_nil, sI_len] <;> omega) | grind), (hE41.sub (L' := [(0, .slice bpA ((bp).length / 2 : Nat) bpC), (1, .int .i64 polarity), (3, .pointer (some ⟨walkB, 0, none⟩)), (13, .slice b34 ((F_parts bp).length) c35), (14, .int .i64 ((F_parts bp).length : Int)), (15, .int .i64 0)]) ⟨rfl, rfl, rfl, rfl, rfl, rfl, trivial⟩), (St.pickT (Γ := [.nest 32 2 none b34 c35 ((partRows bpA bpC bp).map (·.1)) (F_parts bp), .own 2 1 (some ⟨b5, 0, none⟩) 1 1 ([polarity]), .rd 2 bpA ((bp).length / 2 : Nat) bpC bp, .blk outB #[.slice b11 ((out ++ ([polarity])).length) c17] 22, .own 2 1 b11 ((out ++ ([polarity])).length) c17 (out ++ ([polarity])), .blk walkB #[.func (.func 141) #[] #[.pointer (some ⟨outB, 0, none⟩), .pointer (some ⟨walkB, 0, none⟩)]] 142]) (Γ' := [.nest 32 2 none b34 c35 ((partRows bpA bpC bp).map (·.1)) (F_parts bp), .own 2 1 (some ⟨b5, 0, none⟩) 1 1 ([polarity]), .rd 2 bpA ((bp).length / 2 : Nat) bpC bp, .blk outB #[.slice b11 ((out ++ ([polarity])).length) c17] 22, .own 2 1 b11 ((out ++ ([polarity])).length) c17 (out ++ ([polarity])), .blk walkB #[.func (.func 141) #[] #[.pointer (some ⟨outB, 0, none⟩), .pointer (some ⟨walkB, 0, none⟩)]] 142]) (Γ0 := Γ0) hS31 [0, 1, 2, 3, 4, 5] (by decide) rfl rfl)⟩
   ·
    clear hE41 hS31
    rintro r52 a43 w44 ⟨t15, q3_0, q3_0A, q3_0C, hT47, hr48, hi49, hi50, hi51, hE45, hS46⟩
    obtain ⟨r52, rfl⟩ : ∃ r', r52 = r' + 1 := ⟨r52 - 1, by omega⟩
    refine c_seq ?_
    refine c_reg ?_
    refine q_step (v := .bool (decide (t15 < ((F_parts bp).length : Int)))) hE45 (y_lss rfl rfl) rfl rfl rfl ?_; intro a53 hE54; clear hE45
    refine c_nil ?_
    have hE55 := hE54.sub (L' := [(0, .slice bpA ((bp).length / 2 : Nat) bpC), (1, .int .i64 polarity), (3, .pointer (some ⟨walkB, 0, none⟩)), (13, .slice b34 ((F_parts bp).length) c35), (14, .int .i64 ((F_parts bp).length : Int)), (15, .int .i64 t15), (16, .bool (decide (t15 < ((F_parts bp).length : Int))))]) ⟨rfl, rfl, rfl, rfl, rfl, rfl, rfl, trivial⟩; clear hE54
    refine p_tn ?_
    refine c_seq ?_
    refine c_cond hE55 rfl (fun ht56 => ?_) (fun ht56 => ?_)
    ·
     have hp57 := of_decide_eq_true ht56
     have hE58 := hE55; rw [ht56] at hE58; clear hE55
     have hrow := hpt.2 t15 (by omega) (by omega)
     have hsum := sumR_step (F_parts bp) t15 (by omega) (by omega)
     have hall := hsp (t15 + 1)
     refine wp_skip ?_
     refine p_tn ?_
     refine c_seq ?_
     refine wp_block ?_
     refine c_seq ?_
     refine c_reg ?_
     refine q_step (v := .int .i64 t15) hE58 (y_move rfl) rfl rfl rfl ?_; intro a59 hE60; clear hE58
     refine q_step (v := .pointer (some (adr b34 (Int.toNat t15)))) hE60 (y_idx (by kernel_rfl) (fun _ => by kernel_rfl) rfl rfl (RdN.isS (m := t15) (St.rdNo (i := 0) hS46 rfl) (by omega) (by omega)) (by omega) (by omega) (Nat.mul_one _).symm) rfl rfl rfl ?_; intro a61 hE62; clear hE60
     have hv63 : (0 : Int) ≤ t15 ∧ t15 < ((F_parts bp).length : Int) := ⟨(by omega), (by omega)⟩
     refine q_step (v := .slice (hdA ((partRows bpA bpC bp).map (·.1)) t15) ((gL (F_parts bp) t15).length / 2 : Nat) (hdC ((partRows bpA bpC bp).map (·.1)) t15)) hE62 (y_load (fun _ => by kernel_rfl) rfl (RdN.eltD (St.rdNo (i := 0) hS46 rfl) (by decide) (by omega) (by omega))) rfl rfl rfl ?_; intro a65 hE66; clear hE62
     refine q_step (v := .int .i64 t15) hE66 (y_assign rfl) rfl rfl rfl ?_; intro a67 hE68; clear hE66
     refine q_step (v := .slice (hdA ((partRows bpA bpC bp).map (·.1)) t15) ((gL (F_parts bp) t15).length / 2 : Nat) (hdC ((partRows bpA bpC bp).map (·.1)) t15)) hE68 (y_assign rfl) rfl rfl rfl ?_; intro a69 hE70; clear hE68
     refine c_nil ?_
     have hE71 := hE70.sub (L' := [(0, .slice bpA ((bp).length / 2 : Nat) bpC), (1, .int .i64 polarity), (3, .pointer (some ⟨walkB, 0, none⟩)), (6, .int .i64 t15), (7, .slice (hdA ((partRows bpA bpC bp).map (·.1)) t15) ((gL (F_parts bp) t15).length / 2 : Nat) (hdC ((partRows bpA bpC bp).map (·.1)) t15)), (13, .slice b34 ((F_parts bp).length) c35), (14, .int .i64 ((F_parts bp).length : Int)), (15, .int .i64 t15)]) ⟨rfl, rfl, rfl, rfl, rfl, rfl, rfl, rfl, trivial⟩; clear hE70
     refine p_tn ?_
     refine c_seq ?_
     refine c_reg ?_
     refine q_step (v := .slice bpA ((bp).length / 2 : Nat) bpC) hE71 (y_move rfl) rfl rfl rfl ?_; intro a72 hE73; clear hE71
     refine q_step (v := .pointer (some (adr bpA (Int.toNat 0 * 2)))) hE73 (y_idx (by kernel_rfl) (fun _ => by kernel_rfl) rfl rfl (RdS.isS (m := 0) (St.rdR (i := 2) hS46 rfl) (by omega) (by omega)) (by omega) (by omega) rfl) rfl rfl rfl ?_; intro a74 hE75; clear hE73
     refine q_step (v := .pointer (some (adr bpA ((Int.toNat 0 * 2) + 0)))) hE75 (y_fieldE (o := 0) (fun _ _ => by kernel_rfl) rfl) rfl rfl rfl ?_; intro a76 hE77; clear hE75
     refine q_step (v := .int .i64 (gS 2 0 bp 0)) hE77 (y_load (fun _ => by kernel_rfl) rfl (RdS.eltS (j := 0) (St.rdR (i := 2) hS46 rfl) (by omega) (by omega) (by decide))) rfl rfl rfl ?_; intro a78 hE79; clear hE77
     refine q_step (v := .bool (decide ((gS 2 0 bp 0) = 4))) hE79 (y_eql rfl rfl) rfl rfl rfl ?_; intro a80 hE81; clear hE79
     refine q_step (v := .bool (decide ((gS 2 0 bp 0) = 4))) hE81 (y_move rfl) rfl rfl rfl ?_; intro a82 hE83; clear hE81
     rcases Bool.eq_false_or_eq_true (decide ((gS 2 0 bp 0) = 4)) with hb84 | hb84
     ·
      have hE85 := hE83; (try rw [hb84] at hE85); clear hE83
      have hp86 := of_decide_eq_true hb84
      refine q_step (v := .int .i64 t15) hE85 (y_move rfl) rfl rfl rfl ?_; intro a87 hE88; clear hE85
      refine q_step (v := .bool (decide (t15 = 0))) hE88 (y_eql rfl rfl) rfl rfl rfl ?_; intro a89 hE90; clear hE88
      refine q_step (v := .bool (decide (t15 = 0))) hE90 (y_pick (b := true) rfl rfl) rfl rfl rfl ?_; intro a91 hE92; clear hE90
      refine c_nil ?_
      have hE93 := hE92.sub (L' := [(0, .slice bpA ((bp).length / 2 : Nat) bpC), (1, .int .i64 polarity), (3, .pointer (some ⟨walkB, 0, none⟩)), (7, .slice (hdA ((partRows bpA bpC bp).map (·.1)) t15) ((gL (F_parts bp) t15).length / 2 : Nat) (hdC ((partRows bpA bpC bp).map (·.1)) t15)), (13, .slice b34 ((F_parts bp).length) c35), (14, .int .i64 ((F_parts bp).length : Int)), (15, .int .i64 t15), (28, .bool (decide (t15 = 0)))]) ⟨rfl, rfl, rfl, rfl, rfl, rfl, rfl, rfl, trivial⟩; clear hE92
      refine p_tn ?_
      refine c_cond hE93 rfl (fun ht94 => ?_) (fun ht94 => ?_)
      ·
       have hp95 := of_decide_eq_true ht94
       have hE96 := hE93; rw [ht94] at hE96; clear hE93
       refine c_reg ?_
       refine q_step (v := .func (.func 141) #[] #[.pointer (some ⟨outB, 0, none⟩), .pointer (some ⟨walkB, 0, none⟩)]) hE96 (y_load (fun _ => by kernel_rfl) rfl (St.cell (i := 5) hS46 rfl rfl)) rfl rfl rfl ?_; intro a97 hE98; clear hE96
       refine q_step (v := .slice (hdA ((partRows bpA bpC bp).map (·.1)) t15) ((gL (F_parts bp) t15).length / 2 : Nat) (hdC ((partRows bpA bpC bp).map (·.1)) t15)) hE98 (y_move rfl) rfl rfl rfl ?_; intro a99 hE100; clear hE98
       refine q_step (v := .int .i64 polarity) hE100 (y_move rfl) rfl rfl rfl ?_; intro a101 hE102; clear hE100
       have hv103 : IntKind.i64.wrap (0 - polarity) = 0 - polarity := wI_in (m := 0 - polarity) ⟨(by omega), (by omega)⟩
       refine q_step (v := .int .i64 (0 - polarity)) hE102 ((by rw [← hv103]; exact y_neg rfl)) rfl rfl rfl ?_; intro a104 hE105; clear hE102
       have hr112 := (RdN.rowD (St.rdNo (i := 0) hS46 rfl) (by decide) hv63.1 hv63.2)
       have hS113 := St.addRd hS46 hr112 (St.robO (i := 0) hS46 rfl hv63.1 hv63.2); clear hS46
       have hS114 := (St.pickT (Γ := [.rd 2 (hdA ((partRows bpA bpC bp).map (·.1)) t15) ((gL (F_parts bp) t15).length / 2 : Nat) (hdC ((partRows bpA bpC bp).map (·.1)) t15) (gL (F_parts bp) t15), .nest 32 2 none b34 c35 ((partRows bpA bpC bp).map (·.1)) (F_parts bp), .own 2 1 (some ⟨b5, 0, none⟩) 1 1 ([polarity]), .rd 2 bpA ((bp).length / 2 : Nat) bpC bp, .blk outB #[.slice q3_0A ((q3_0).length) q3_0C] 22, .own 2 1 q3_0A ((q3_0).length) q3_0C q3_0, .blk walkB #[.func (.func 141) #[] #[.pointer (some ⟨outB, 0, none⟩), .pointer (some ⟨walkB, 0, none⟩)]] 142]) (Γ' := [.rd 2 (hdA ((partRows bpA bpC bp).map (·.1)) t15) ((gL (F_parts bp) t15).length / 2 : Nat) (hdC ((partRows bpA bpC bp).map (·.1)) t15) (gL (F_parts bp) t15), .blk outB #[.slice q3_0A ((q3_0).length) q3_0C] 22, .own 2 1 q3_0A ((q3_0).length) q3_0C q3_0, .blk walkB #[.func (.func 141) #[] #[.pointer (some ⟨outB, 0, none⟩), .pointer (some ⟨walkB, 0, none⟩)]] 142, .nest 32 2 none b34 c35 ((partRows bpA bpC bp).map (·.1)) (F_parts bp), .own 2 1 (some ⟨b5, 0, none⟩) 1 1 ([polarity]), .rd 2 bpA ((bp).length / 2 : Nat) bpC bp]) (Γ0 := Γ0) hS113 [0, 4, 5, 6, 1, 2, 3] (by decide) rfl rfl); clear hS113
       have hc115 := ih (hdA ((partRows bpA bpC bp).map (·.1)) t15) ((gL (F_parts bp) t15).length / 2 : Nat) (hdC ((partRows bpA bpC bp).map (·.1)) t15) (gL (F_parts bp) t15) (0 - polarity) outB q3_0A ((q3_0).length) q3_0C q3_0 walkB w44 w0v (.nest 32 2 none b34 c35 ((partRows bpA bpC bp).map (·.1)) (F_parts bp) :: .own 2 1 (some ⟨b5, 0, none⟩) 1 1 ([polarity]) :: .rd 2 bpA ((bp).length / 2 : Nat) bpC bp :: Γ0) hS114 (by omega) hrow.1 (by omega) (by have h := hrow.2; omega)
       refine l_step hE105 rfl (l_callv (f := 141) (caps := [.pointer (some ⟨outB, 0, none⟩), .pointer (some ⟨walkB, 0, none⟩)]) (argv := [.slice (hdA ((partRows bpA bpC bp).map (·.1)) t15) ((gL (F_parts bp) t15).length / 2 : Nat) (hdC ((partRows bpA bpC bp).map (·.1)) t15), .int .i64 (0 - polarity)]) hE105 rfl (fun _ => cf_polarities_k1 _ _) rfl rfl (by exact hc115) ?_)
       rintro _ w107 ⟨b116, c117, rfl, hS110⟩ a108 hE109; clear hE105 hc115
       have hf118 := hpost (gL (F_parts bp) t15) (0 - polarity) q3_0 (by omega) hrow.1 (by omega) (by have h := hrow.2; omega)
       have hS119 := (St.pickT (Γ := [.rd 2 (hdA ((partRows bpA bpC bp).map (·.1)) t15) ((gL (F_parts bp) t15).length / 2 : Nat) (hdC ((partRows bpA bpC bp).map (·.1)) t15) (gL (F_parts bp) t15), .blk outB #[.slice b116 ((self (gL (F_parts bp) t15) (0 - polarity) q3_0).length) c117] 22, .own 2 1 b116 ((self (gL (F_parts bp) t15) (0 - polarity) q3_0).length) c117 (self (gL (F_parts bp) t15) (0 - polarity) q3_0), .blk walkB #[.func (.func 141) #[] #[.pointer (some ⟨outB, 0, none⟩), .pointer (some ⟨walkB, 0, none⟩)]] 142, .nest 32 2 none b34 c35 ((partRows bpA bpC bp).map (·.1)) (F_parts bp), .own 2 1 (some ⟨b5, 0, none⟩) 1 1 ([polarity]), .rd 2 bpA ((bp).length / 2 : Nat) bpC bp]) (Γ' := [.blk outB #[.slice b116 ((self (gL (F_parts bp) t15) (0 - polarity) q3_0).length) c117] 22, .own 2 1 b116 ((self (gL (F_parts bp) t15) (0 - polarity) q3_0).length) c117 (self (gL (F_parts bp) t15) (0 - polarity) q3_0), .blk walkB #[.func (.func 141) #[] #[.pointer (some ⟨outB, 0, none⟩), .pointer (some ⟨walkB, 0, none⟩)]] 142, .nest 32 2 none b34 c35 ((partRows bpA bpC bp).map (·.1)) (F_parts bp), .own 2 1 (some ⟨b5, 0, none⟩) 1 1 ([polarity]), .rd 2 bpA ((bp).length / 2 : Nat) bpC bp]) (Γ0 := Γ0) hS110 [1, 2, 3, 4, 5, 6] (by decide) rfl rfl); clear hS110
       refine c_nil ?_
       have hE120 := hE109.sub (L' := [(0, .slice bpA ((bp).length / 2 : Nat) bpC), (1, .int .i64 polarity), (3, .pointer (some ⟨walkB, 0, none⟩)), (13, .slice b34 ((F_parts bp).length) c35), (14, .int .i64 ((F_parts bp).length : Int)), (15, .int .i64 t15)]) ⟨rfl, rfl, rfl, rfl, rfl, rfl, trivial⟩; clear hE109
       refine p_bn ?_
       refine p_tn ?_
       refine c_reg ?_
       refine q_step (v := .int .i64 (t15 + 1)) hE120 (y_add rfl rfl ⟨(by omega), (by omega)⟩) rfl rfl rfl ?_; intro a121 hE122; clear hE120
       refine q_step (v := .int .i64 (t15 + 1)) hE122 (y_move rfl) rfl rfl rfl ?_; intro a123 hE124; clear hE122
       refine c_nil ?_
       have hE125 := hE124.sub (L' := [(0, .slice bpA ((bp).length / 2 : Nat) bpC), (1, .int .i64 polarity), (3, .pointer (some ⟨walkB, 0, none⟩)), (13, .slice b34 ((F_parts bp).length) c35), (14, .int .i64 ((F_parts bp).length : Int)), (15, .int .i64 (t15 + 1))]) ⟨rfl, rfl, rfl, rfl, rfl, rfl, trivial⟩; clear hE124
       refine p_tn ⟨r52, Nat.lt_succ_self _, t15 + 1, (self (gL (F_parts bp) t15) (0 - polarity) q3_0), b116, c117, (hT47.symm.trans (show F_polarities_k1_L1b bp polarity self (F_polarities_k1_L1 bp polarity self r52) t15 q3_0 = F_polarities_k1_L1 bp polarity self r52 (t15 + 1) (self (gL (F_parts bp) t15) (0 - polarity) q3_0) by unfold F_polarities_k1_L1b; rw [ht94, hb84, ht56]; first | done | rfl)).symm, (by omega), (by first | omega | (simp only [sS_len, sL_len]; omega) | (simp only [List.length_replicate, sI_len]; omega) | (simp only [List.length_append, List.length_cons, List.length_nil, sI_len, cond_true, cond_false]; omega) | (simp only [List.length_append, List.length_cons, List.length_nil, sI_len, cond_eq_ite, apply_ite List.length]; split <;> simp only [List.length_append, List.length_cons, List.length_nil, sI_len] <;> omega) | grind), (by first | omega | (simp only [sS_len, sL_len]; omega) | (simp only [List.length_replicate, sI_len]; omega) | (simp only [List.length_append, List.length_cons, List.length_nil, sI_len, cond_true, cond_false]; omega) | (simp only [List.length_append, List.length_cons, List.length_nil, sI_len, cond_eq_ite, apply_ite List.length]; split <;> simp only [List.length_append, List.length_cons, List.length_nil, sI_len] <;> omega) | grind), (by first | omega | (simp only [sS_len, sL_len]; omega) | (simp only [List.length_replicate, sI_len]; omega) | (simp only [List.length_append, List.length_cons, List.length_nil, sI_len, cond_true, cond_false]; omega) | (simp only [List.length_append, List.length_cons, List.length_nil, sI_len, cond_eq_ite, apply_ite List.length]; split <;> simp only [List.length_append, List.length_cons, List.length_nil, sI_len] <;> omega) | grind), (hE125.sub (L' := [(0, .slice bpA ((bp).length / 2 : Nat) bpC), (1, .int .i64 polarity), (3, .pointer (some ⟨walkB, 0, none⟩)), (13, .slice b34 ((F_parts bp).length) c35), (14, .int .i64 ((F_parts bp).length : Int)), (15, .int .i64 (t15 + 1))]) ⟨rfl, rfl, rfl, rfl, rfl, rfl, trivial⟩), (St.pickT (Γ := [.blk outB #[.slice b116 ((self (gL (F_parts bp) t15) (0 - polarity) q3_0).length) c117] 22, .own 2 1 b116 ((self (gL (F_parts bp) t15) (0 - polarity) q3_0).length) c117 (self (gL (F_parts bp) t15) (0 - polarity) q3_0), .blk walkB #[.func (.func 141) #[] #[.pointer (some ⟨outB, 0, none⟩), .pointer (some ⟨walkB, 0, none⟩)]] 142, .nest 32 2 none b34 c35 ((partRows bpA bpC bp).map (·.1)) (F_parts bp), .own 2 1 (some ⟨b5, 0, none⟩) 1 1 ([polarity]), .rd 2 bpA ((bp).length / 2 : Nat) bpC bp]) (Γ' := [.nest 32 2 none b34 c35 ((partRows bpA bpC bp).map (·.1)) (F_parts bp), .own 2 1 (some ⟨b5, 0, none⟩) 1 1 ([polarity]), .rd 2 bpA ((bp).length / 2 : Nat) bpC bp, .blk outB #[.slice b116 ((self (gL (F_parts bp) t15) (0 - polarity) q3_0).length) c117] 22, .own 2 1 b116 ((self (gL (F_parts bp) t15) (0 - polarity) q3_0).length) c117 (self (gL (F_parts bp) t15) (0 - polarity) q3_0), .blk walkB #[.func (.func 141) #[] #[.pointer (some ⟨outB, 0, none⟩), .pointer (some ⟨walkB, 0, none⟩)]] 142]) (Γ0 := Γ0) hS119 [3, 4, 5, 0, 1, 2] (by decide) rfl rfl)⟩
      ·
       have hp126 := of_decide_eq_false ht94
       have hE127 := hE93; rw [ht94] at hE127; clear hE93
       refine c_reg ?_
       refine q_step (v := .func (.func 141) #[] #[.pointer (some ⟨outB, 0, none⟩), .pointer (some ⟨walkB, 0, none⟩)]) hE127 (y_load (fun _ => by kernel_rfl) rfl (St.cell (i := 5) hS46 rfl rfl)) rfl rfl rfl ?_; intro a128 hE129; clear hE127
       refine q_step (v := .slice (hdA ((partRows bpA bpC bp).map (·.1)) t15) ((gL (F_parts bp) t15).length / 2 : Nat) (hdC ((partRows bpA bpC bp).map (·.1)) t15)) hE129 (y_move rfl) rfl rfl rfl ?_; intro a130 hE131; clear hE129
       refine q_step (v := .int .i64 polarity) hE131 (y_move rfl) rfl rfl rfl ?_; intro a132 hE133; clear hE131
       have hr140 := (RdN.rowD (St.rdNo (i := 0) hS46 rfl) (by decide) hv63.1 hv63.2)
       have hS141 := St.addRd hS46 hr140 (St.robO (i := 0) hS46 rfl hv63.1 hv63.2); clear hS46
       have hS142 := (St.pickT (Γ := [.rd 2 (hdA ((partRows bpA bpC bp).map (·.1)) t15) ((gL (F_parts bp) t15).length / 2 : Nat) (hdC ((partRows bpA bpC bp).map (·.1)) t15) (gL (F_parts bp) t15), .nest 32 2 none b34 c35 ((partRows bpA bpC bp).map (·.1)) (F_parts bp), .own 2 1 (some ⟨b5, 0, none⟩) 1 1 ([polarity]), .rd 2 bpA ((bp).length / 2 : Nat) bpC bp, .blk outB #[.slice q3_0A ((q3_0).length) q3_0C] 22, .own 2 1 q3_0A ((q3_0).length) q3_0C q3_0, .blk walkB #[.func (.func 141) #[] #[.pointer (some ⟨outB, 0, none⟩), .pointer (some ⟨walkB, 0, none⟩)]] 142]) (Γ' := [.rd 2 (hdA ((partRows bpA bpC bp).map (·.1)) t15) ((gL (F_parts bp) t15).length / 2 : Nat) (hdC ((partRows bpA bpC bp).map (·.1)) t15) (gL (F_parts bp) t15), .blk outB #[.slice q3_0A ((q3_0).length) q3_0C] 22, .own 2 1 q3_0A ((q3_0).length) q3_0C q3_0, .blk walkB #[.func (.func 141) #[] #[.pointer (some ⟨outB, 0, none⟩), .pointer (some ⟨walkB, 0, none⟩)]] 142, .nest 32 2 none b34 c35 ((partRows bpA bpC bp).map (·.1)) (F_parts bp), .own 2 1 (some ⟨b5, 0, none⟩) 1 1 ([polarity]), .rd 2 bpA ((bp).length / 2 : Nat) bpC bp]) (Γ0 := Γ0) hS141 [0, 4, 5, 6, 1, 2, 3] (by decide) rfl rfl); clear hS141
       have hc143 := ih (hdA ((partRows bpA bpC bp).map (·.1)) t15) ((gL (F_parts bp) t15).length / 2 : Nat) (hdC ((partRows bpA bpC bp).map (·.1)) t15) (gL (F_parts bp) t15) polarity outB q3_0A ((q3_0).length) q3_0C q3_0 walkB w44 w0v (.nest 32 2 none b34 c35 ((partRows bpA bpC bp).map (·.1)) (F_parts bp) :: .own 2 1 (some ⟨b5, 0, none⟩) 1 1 ([polarity]) :: .rd 2 bpA ((bp).length / 2 : Nat) bpC bp :: Γ0) hS142 (by omega) hrow.1 (by omega) (by have h := hrow.2; omega)
       refine l_step hE133 rfl (l_callv (f := 141) (caps := [.pointer (some ⟨outB, 0, none⟩), .pointer (some ⟨walkB, 0, none⟩)]) (argv := [.slice (hdA ((partRows bpA bpC bp).map (·.1)) t15) ((gL (F_parts bp) t15).length / 2 : Nat) (hdC ((partRows bpA bpC bp).map (·.1)) t15), .int .i64 polarity]) hE133 rfl (fun _ => cf_polarities_k1 _ _) rfl rfl (by exact hc143) ?_)
       rintro _ w135 ⟨b144, c145, rfl, hS138⟩ a136 hE137; clear hE133 hc143
       have hf146 := hpost (gL (F_parts bp) t15) polarity q3_0 (by omega) hrow.1 (by omega) (by have h := hrow.2; omega)
       have hS147 := (St.pickT (Γ := [.rd 2 (hdA ((partRows bpA bpC bp).map (·.1)) t15) ((gL (F_parts bp) t15).length / 2 : Nat) (hdC ((partRows bpA bpC bp).map (·.1)) t15) (gL (F_parts bp) t15), .blk outB #[.slice b144 ((self (gL (F_parts bp) t15) polarity q3_0).length) c145] 22, .own 2 1 b144 ((self (gL (F_parts bp) t15) polarity q3_0).length) c145 (self (gL (F_parts bp) t15) polarity q3_0), .blk walkB #[.func (.func 141) #[] #[.pointer (some ⟨outB, 0, none⟩), .pointer (some ⟨walkB, 0, none⟩)]] 142, .nest 32 2 none b34 c35 ((partRows bpA bpC bp).map (·.1)) (F_parts bp), .own 2 1 (some ⟨b5, 0, none⟩) 1 1 ([polarity]), .rd 2 bpA ((bp).length / 2 : Nat) bpC bp]) (Γ' := [.blk outB #[.slice b144 ((self (gL (F_parts bp) t15) polarity q3_0).length) c145] 22, .own 2 1 b144 ((self (gL (F_parts bp) t15) polarity q3_0).length) c145 (self (gL (F_parts bp) t15) polarity q3_0), .blk walkB #[.func (.func 141) #[] #[.pointer (some ⟨outB, 0, none⟩), .pointer (some ⟨walkB, 0, none⟩)]] 142, .nest 32 2 none b34 c35 ((partRows bpA bpC bp).map (·.1)) (F_parts bp), .own 2 1 (some ⟨b5, 0, none⟩) 1 1 ([polarity]), .rd 2 bpA ((bp).length / 2 : Nat) bpC bp]) (Γ0 := Γ0) hS138 [1, 2, 3, 4, 5, 6] (by decide) rfl rfl); clear hS138
       refine c_nil ?_
       have hE148 := hE137.sub (L' := [(0, .slice bpA ((bp).length / 2 : Nat) bpC), (1, .int .i64 polarity), (3, .pointer (some ⟨walkB, 0, none⟩)), (13, .slice b34 ((F_parts bp).length) c35), (14, .int .i64 ((F_parts bp).length : Int)), (15, .int .i64 t15)]) ⟨rfl, rfl, rfl, rfl, rfl, rfl, trivial⟩; clear hE137
       refine p_bn ?_
       refine p_tn ?_
       refine c_reg ?_
       refine q_step (v := .int .i64 (t15 + 1)) hE148 (y_add rfl rfl ⟨(by omega), (by omega)⟩) rfl rfl rfl ?_; intro a149 hE150; clear hE148
       refine q_step (v := .int .i64 (t15 + 1)) hE150 (y_move rfl) rfl rfl rfl ?_; intro a151 hE152; clear hE150
       refine c_nil ?_
       have hE153 := hE152.sub (L' := [(0, .slice bpA ((bp).length / 2 : Nat) bpC), (1, .int .i64 polarity), (3, .pointer (some ⟨walkB, 0, none⟩)), (13, .slice b34 ((F_parts bp).length) c35), (14, .int .i64 ((F_parts bp).length : Int)), (15, .int .i64 (t15 + 1))]) ⟨rfl, rfl, rfl, rfl, rfl, rfl, trivial⟩; clear hE152
       refine p_tn ⟨r52, Nat.lt_succ_self _, t15 + 1, (self (gL (F_parts bp) t15) polarity q3_0), b144, c145, (hT47.symm.trans (show F_polarities_k1_L1b bp polarity self (F_polarities_k1_L1 bp polarity self r52) t15 q3_0 = F_polarities_k1_L1 bp polarity self r52 (t15 + 1) (self (gL (F_parts bp) t15) polarity q3_0) by unfold F_polarities_k1_L1b; rw [ht94, hb84, ht56]; first | done | rfl)).symm, (by omega), (by first | omega | (simp only [sS_len, sL_len]; omega) | (simp only [List.length_replicate, sI_len]; omega) | (simp only [List.length_append, List.length_cons, List.length_nil, sI_len, cond_true, cond_false]; omega) | (simp only [List.length_append, List.length_cons, List.length_nil, sI_len, cond_eq_ite, apply_ite List.length]; split <;> simp only [List.length_append, List.length_cons, List.length_nil, sI_len] <;> omega) | grind), (by first | omega | (simp only [sS_len, sL_len]; omega) | (simp only [List.length_replicate, sI_len]; omega) | (simp only [List.length_append, List.length_cons, List.length_nil, sI_len, cond_true, cond_false]; omega) | (simp only [List.length_append, List.length_cons, List.length_nil, sI_len, cond_eq_ite, apply_ite List.length]; split <;> simp only [List.length_append, List.length_cons, List.length_nil, sI_len] <;> omega) | grind), (by first | omega | (simp only [sS_len, sL_len]; omega) | (simp only [List.length_replicate, sI_len]; omega) | (simp only [List.length_append, List.length_cons, List.length_nil, sI_len, cond_true, cond_false]; omega) | (simp only [List.length_append, List.length_cons, List.length_nil, sI_len, cond_eq_ite, apply_ite List.length]; split <;> simp only [List.length_append, List.length_cons, List.length_nil, sI_len] <;> omega) | grind), (hE153.sub (L' := [(0, .slice bpA ((bp).length / 2 : Nat) bpC), (1, .int .i64 polarity), (3, .pointer (some ⟨walkB, 0, none⟩)), (13, .slice b34 ((F_parts bp).length) c35), (14, .int .i64 ((F_parts bp).length : Int)), (15, .int .i64 (t15 + 1))]) ⟨rfl, rfl, rfl, rfl, rfl, rfl, trivial⟩), (St.pickT (Γ := [.blk outB #[.slice b144 ((self (gL (F_parts bp) t15) polarity q3_0).length) c145] 22, .own 2 1 b144 ((self (gL (F_parts bp) t15) polarity q3_0).length) c145 (self (gL (F_parts bp) t15) polarity q3_0), .blk walkB #[.func (.func 141) #[] #[.pointer (some ⟨outB, 0, none⟩), .pointer (some ⟨walkB, 0, none⟩)]] 142, .nest 32 2 none b34 c35 ((partRows bpA bpC bp).map (·.1)) (F_parts bp), .own 2 1 (some ⟨b5, 0, none⟩) 1 1 ([polarity]), .rd 2 bpA ((bp).length / 2 : Nat) bpC bp]) (Γ' := [.nest 32 2 none b34 c35 ((partRows bpA bpC bp).map (·.1)) (F_parts bp), .own 2 1 (some ⟨b5, 0, none⟩) 1 1 ([polarity]), .rd 2 bpA ((bp).length / 2 : Nat) bpC bp, .blk outB #[.slice b144 ((self (gL (F_parts bp) t15) polarity q3_0).length) c145] 22, .own 2 1 b144 ((self (gL (F_parts bp) t15) polarity q3_0).length) c145 (self (gL (F_parts bp) t15) polarity q3_0), .blk walkB #[.func (.func 141) #[] #[.pointer (some ⟨outB, 0, none⟩), .pointer (some ⟨walkB, 0, none⟩)]] 142]) (Γ0 := Γ0) hS147 [3, 4, 5, 0, 1, 2] (by decide) rfl rfl)⟩
     ·
      have hE154 := hE83; (try rw [hb84] at hE154); clear hE83
      have hp155 := of_decide_eq_false hb84
      refine q_skip hE154 rfl rfl rfl ?_; intro a156 hE157; clear hE154
      refine q_skip hE157 rfl rfl rfl ?_; intro a158 hE159; clear hE157
      refine q_step (v := .bool false) hE159 (y_pick (b := false) rfl rfl) rfl rfl rfl ?_; intro a160 hE161; clear hE159
      refine c_nil ?_
      have hE162 := hE161.sub (L' := [(0, .slice bpA ((bp).length / 2 : Nat) bpC), (1, .int .i64 polarity), (3, .pointer (some ⟨walkB, 0, none⟩)), (7, .slice (hdA ((partRows bpA bpC bp).map (·.1)) t15) ((gL (F_parts bp) t15).length / 2 : Nat) (hdC ((partRows bpA bpC bp).map (·.1)) t15)), (13, .slice b34 ((F_parts bp).length) c35), (14, .int .i64 ((F_parts bp).length : Int)), (15, .int .i64 t15), (28, .bool false)]) ⟨rfl, rfl, rfl, rfl, rfl, rfl, rfl, rfl, trivial⟩; clear hE161
      refine p_tn ?_
      refine c_false hE162 rfl ?_
      refine c_reg ?_
      refine q_step (v := .func (.func 141) #[] #[.pointer (some ⟨outB, 0, none⟩), .pointer (some ⟨walkB, 0, none⟩)]) hE162 (y_load (fun _ => by kernel_rfl) rfl (St.cell (i := 5) hS46 rfl rfl)) rfl rfl rfl ?_; intro a163 hE164; clear hE162
      refine q_step (v := .slice (hdA ((partRows bpA bpC bp).map (·.1)) t15) ((gL (F_parts bp) t15).length / 2 : Nat) (hdC ((partRows bpA bpC bp).map (·.1)) t15)) hE164 (y_move rfl) rfl rfl rfl ?_; intro a165 hE166; clear hE164
      refine q_step (v := .int .i64 polarity) hE166 (y_move rfl) rfl rfl rfl ?_; intro a167 hE168; clear hE166
      have hr175 := (RdN.rowD (St.rdNo (i := 0) hS46 rfl) (by decide) hv63.1 hv63.2)
      have hS176 := St.addRd hS46 hr175 (St.robO (i := 0) hS46 rfl hv63.1 hv63.2); clear hS46
      have hS177 := (St.pickT (Γ := [.rd 2 (hdA ((partRows bpA bpC bp).map (·.1)) t15) ((gL (F_parts bp) t15).length / 2 : Nat) (hdC ((partRows bpA bpC bp).map (·.1)) t15) (gL (F_parts bp) t15), .nest 32 2 none b34 c35 ((partRows bpA bpC bp).map (·.1)) (F_parts bp), .own 2 1 (some ⟨b5, 0, none⟩) 1 1 ([polarity]), .rd 2 bpA ((bp).length / 2 : Nat) bpC bp, .blk outB #[.slice q3_0A ((q3_0).length) q3_0C] 22, .own 2 1 q3_0A ((q3_0).length) q3_0C q3_0, .blk walkB #[.func (.func 141) #[] #[.pointer (some ⟨outB, 0, none⟩), .pointer (some ⟨walkB, 0, none⟩)]] 142]) (Γ' := [.rd 2 (hdA ((partRows bpA bpC bp).map (·.1)) t15) ((gL (F_parts bp) t15).length / 2 : Nat) (hdC ((partRows bpA bpC bp).map (·.1)) t15) (gL (F_parts bp) t15), .blk outB #[.slice q3_0A ((q3_0).length) q3_0C] 22, .own 2 1 q3_0A ((q3_0).length) q3_0C q3_0, .blk walkB #[.func (.func 141) #[] #[.pointer (some ⟨outB, 0, none⟩), .pointer (some ⟨walkB, 0, none⟩)]] 142, .nest 32 2 none b34 c35 ((partRows bpA bpC bp).map (·.1)) (F_parts bp), .own 2 1 (some ⟨b5, 0, none⟩) 1 1 ([polarity]), .rd 2 bpA ((bp).length / 2 : Nat) bpC bp]) (Γ0 := Γ0) hS176 [0, 4, 5, 6, 1, 2, 3] (by decide) rfl rfl); clear hS176
      have hc178 := ih (hdA ((partRows bpA bpC bp).map (·.1)) t15) ((gL (F_parts bp) t15).length / 2 : Nat) (hdC ((partRows bpA bpC bp).map (·.1)) t15) (gL (F_parts bp) t15) polarity outB q3_0A ((q3_0).length) q3_0C q3_0 walkB w44 w0v (.nest 32 2 none b34 c35 ((partRows bpA bpC bp).map (·.1)) (F_parts bp) :: .own 2 1 (some ⟨b5, 0, none⟩) 1 1 ([polarity]) :: .rd 2 bpA ((bp).length / 2 : Nat) bpC bp :: Γ0) hS177 (by omega) hrow.1 (by omega) (by have h := hrow.2; omega)
      refine l_step hE168 rfl (l_callv (f := 141) (caps := [.pointer (some ⟨outB, 0, none⟩), .pointer (some ⟨walkB, 0, none⟩)]) (argv := [.slice (hdA ((partRows bpA bpC bp).map (·.1)) t15) ((gL (F_parts bp) t15).length / 2 : Nat) (hdC ((partRows bpA bpC bp).map (·.1)) t15), .int .i64 polarity]) hE168 rfl (fun _ => cf_polarities_k1 _ _) rfl rfl (by exact hc178) ?_)
      rintro _ w170 ⟨b179, c180, rfl, hS173⟩ a171 hE172; clear hE168 hc178
      have hf181 := hpost (gL (F_parts bp) t15) polarity q3_0 (by omega) hrow.1 (by omega) (by have h := hrow.2; omega)
      have hS182 := (St.pickT (Γ := [.rd 2 (hdA ((partRows bpA bpC bp).map (·.1)) t15) ((gL (F_parts bp) t15).length / 2 : Nat) (hdC ((partRows bpA bpC bp).map (·.1)) t15) (gL (F_parts bp) t15), .blk outB #[.slice b179 ((self (gL (F_parts bp) t15) polarity q3_0).length) c180] 22, .own 2 1 b179 ((self (gL (F_parts bp) t15) polarity q3_0).length) c180 (self (gL (F_parts bp) t15) polarity q3_0), .blk walkB #[.func (.func 141) #[] #[.pointer (some ⟨outB, 0, none⟩), .pointer (some ⟨walkB, 0, none⟩)]] 142, .nest 32 2 none b34 c35 ((partRows bpA bpC bp).map (·.1)) (F_parts bp), .own 2 1 (some ⟨b5, 0, none⟩) 1 1 ([polarity]), .rd 2 bpA ((bp).length / 2 : Nat) bpC bp]) (Γ' := [.blk outB #[.slice b179 ((self (gL (F_parts bp) t15) polarity q3_0).length) c180] 22, .own 2 1 b179 ((self (gL (F_parts bp) t15) polarity q3_0).length) c180 (self (gL (F_parts bp) t15) polarity q3_0), .blk walkB #[.func (.func 141) #[] #[.pointer (some ⟨outB, 0, none⟩), .pointer (some ⟨walkB, 0, none⟩)]] 142, .nest 32 2 none b34 c35 ((partRows bpA bpC bp).map (·.1)) (F_parts bp), .own 2 1 (some ⟨b5, 0, none⟩) 1 1 ([polarity]), .rd 2 bpA ((bp).length / 2 : Nat) bpC bp]) (Γ0 := Γ0) hS173 [1, 2, 3, 4, 5, 6] (by decide) rfl rfl); clear hS173
      refine c_nil ?_
      have hE183 := hE172.sub (L' := [(0, .slice bpA ((bp).length / 2 : Nat) bpC), (1, .int .i64 polarity), (3, .pointer (some ⟨walkB, 0, none⟩)), (13, .slice b34 ((F_parts bp).length) c35), (14, .int .i64 ((F_parts bp).length : Int)), (15, .int .i64 t15)]) ⟨rfl, rfl, rfl, rfl, rfl, rfl, trivial⟩; clear hE172
      refine p_bn ?_
      refine p_tn ?_
      refine c_reg ?_
      refine q_step (v := .int .i64 (t15 + 1)) hE183 (y_add rfl rfl ⟨(by omega), (by omega)⟩) rfl rfl rfl ?_; intro a184 hE185; clear hE183
      refine q_step (v := .int .i64 (t15 + 1)) hE185 (y_move rfl) rfl rfl rfl ?_; intro a186 hE187; clear hE185
      refine c_nil ?_
      have hE188 := hE187.sub (L' := [(0, .slice bpA ((bp).length / 2 : Nat) bpC), (1, .int .i64 polarity), (3, .pointer (some ⟨walkB, 0, none⟩)), (13, .slice b34 ((F_parts bp).length) c35), (14, .int .i64 ((F_parts bp).length : Int)), (15, .int .i64 (t15 + 1))]) ⟨rfl, rfl, rfl, rfl, rfl, rfl, trivial⟩; clear hE187
      refine p_tn ⟨r52, Nat.lt_succ_self _, t15 + 1, (self (gL (F_parts bp) t15) polarity q3_0), b179, c180, (hT47.symm.trans (show F_polarities_k1_L1b bp polarity self (F_polarities_k1_L1 bp polarity self r52) t15 q3_0 = F_polarities_k1_L1 bp polarity self r52 (t15 + 1) (self (gL (F_parts bp) t15) polarity q3_0) by unfold F_polarities_k1_L1b; rw [hb84, ht56]; first | done | rfl)).symm, (by omega), (by first | omega | (simp only [sS_len, sL_len]; omega) | (simp only [List.length_replicate, sI_len]; omega) | (simp only [List.length_append, List.length_cons, List.length_nil, sI_len, cond_true, cond_false]; omega) | (simp only [List.length_append, List.length_cons, List.length_nil, sI_len, cond_eq_ite, apply_ite List.length]; split <;> simp only [List.length_append, List.length_cons, List.length_nil, sI_len] <;> omega) | grind), (by first | omega | (simp only [sS_len, sL_len]; omega) | (simp only [List.length_replicate, sI_len]; omega) | (simp only [List.length_append, List.length_cons, List.length_nil, sI_len, cond_true, cond_false]; omega) | (simp only [List.length_append, List.length_cons, List.length_nil, sI_len, cond_eq_ite, apply_ite List.length]; split <;> simp only [List.length_append, List.length_cons, List.length_nil, sI_len] <;> omega) | grind), (by first | omega | (simp only [sS_len, sL_len]; omega) | (simp only [List.length_replicate, sI_len]; omega) | (simp only [List.length_append, List.length_cons, List.length_nil, sI_len, cond_true, cond_false]; omega) | (simp only [List.length_append, List.length_cons, List.length_nil, sI_len, cond_eq_ite, apply_ite List.length]; split <;> simp only [List.length_append, List.length_cons, List.length_nil, sI_len] <;> omega) | grind), (hE188.sub (L' := [(0, .slice bpA ((bp).length / 2 : Nat) bpC), (1, .int .i64 polarity), (3, .pointer (some ⟨walkB, 0, none⟩)), (13, .slice b34 ((F_parts bp).length) c35), (14, .int .i64 ((F_parts bp).length : Int)), (15, .int .i64 (t15 + 1))]) ⟨rfl, rfl, rfl, rfl, rfl, rfl, trivial⟩), (St.pickT (Γ := [.blk outB #[.slice b179 ((self (gL (F_parts bp) t15) polarity q3_0).length) c180] 22, .own 2 1 b179 ((self (gL (F_parts bp) t15) polarity q3_0).length) c180 (self (gL (F_parts bp) t15) polarity q3_0), .blk walkB #[.func (.func 141) #[] #[.pointer (some ⟨outB, 0, none⟩), .pointer (some ⟨walkB, 0, none⟩)]] 142, .nest 32 2 none b34 c35 ((partRows bpA bpC bp).map (·.1)) (F_parts bp), .own 2 1 (some ⟨b5, 0, none⟩) 1 1 ([polarity]), .rd 2 bpA ((bp).length / 2 : Nat) bpC bp]) (Γ' := [.nest 32 2 none b34 c35 ((partRows bpA bpC bp).map (·.1)) (F_parts bp), .own 2 1 (some ⟨b5, 0, none⟩) 1 1 ([polarity]), .rd 2 bpA ((bp).length / 2 : Nat) bpC bp, .blk outB #[.slice b179 ((self (gL (F_parts bp) t15) polarity q3_0).length) c180] 22, .own 2 1 b179 ((self (gL (F_parts bp) t15) polarity q3_0).length) c180 (self (gL (F_parts bp) t15) polarity q3_0), .blk walkB #[.func (.func 141) #[] #[.pointer (some ⟨outB, 0, none⟩), .pointer (some ⟨walkB, 0, none⟩)]] 142]) (Γ0 := Γ0) hS182 [3, 4, 5, 0, 1, 2] (by decide) rfl rfl)⟩
    ·
     have hp189 := of_decide_eq_false ht56
     have hE190 := hE55; rw [ht56] at hE190; clear hE55
     refine wp_exit ?_
     refine p_te ?_
     have hX191 : F_polarities_k1_L1 bp polarity self (Int.toNat (((F_parts bp).length : Int) - 0) + 1) 0 (out ++ ([polarity])) = (t15, q3_0) := hT47.symm.trans (show F_polarities_k1_L1b bp polarity self (F_polarities_k1_L1 bp polarity self r52) t15 q3_0 = (t15, q3_0) by unfold F_polarities_k1_L1b; rw [ht56]; first | done | rfl)
     refine p_te (p_be (p_tn ?_))
     exact ⟨q3_0A, q3_0C, (by rw [hX191]; exact (show 0 ≤ t15 from (by first | omega | (simp only [sS_len, sL_len]; omega) | (simp only [List.length_replicate, sI_len]; omega) | (simp only [List.length_append, List.length_cons, List.length_nil, sI_len, cond_true, cond_false]; omega) | (simp only [List.length_append, List.length_cons, List.length_nil, sI_len, cond_eq_ite, apply_ite List.length]; split <;> simp only [List.length_append, List.length_cons, List.length_nil, sI_len] <;> omega) | grind))), (by rw [hX191]; exact (show (q3_0.length : Int) ≤ (out.length : Int) + 1 + (sumR (F_parts bp) t15 : Int) from (by first | omega | (simp only [sS_len, sL_len]; omega) | (simp only [List.length_replicate, sI_len]; omega) | (simp only [List.length_append, List.length_cons, List.length_nil, sI_len, cond_true, cond_false]; omega) | (simp only [List.length_append, List.length_cons, List.length_nil, sI_len, cond_eq_ite, apply_ite List.length]; split <;> simp only [List.length_append, List.length_cons, List.length_nil, sI_len] <;> omega) | grind))), (by rw [hX191]; exact (show t15 ≤ ((F_parts bp).length : Int) from (by first | omega | (simp only [sS_len, sL_len]; omega) | (simp only [List.length_replicate, sI_len]; omega) | (simp only [List.length_append, List.length_cons, List.length_nil, sI_len, cond_true, cond_false]; omega) | (simp only [List.length_append, List.length_cons, List.length_nil, sI_len, cond_eq_ite, apply_ite List.length]; split <;> simp only [List.length_append, List.length_cons, List.length_nil, sI_len] <;> omega) | grind))), (by rw [hX191]; exact (hE190.sub (L' := [(0, .slice bpA ((bp).length / 2 : Nat) bpC), (1, .int .i64 polarity), (3, .pointer (some ⟨walkB, 0, none⟩)), (13, .slice b34 ((F_parts bp).length) c35), (14, .int .i64 ((F_parts bp).length : Int)), (15, .int .i64 t15)]) ⟨rfl, rfl, rfl, rfl, rfl, rfl, trivial⟩)), (by rw [hX191]; exact (St.pickT (Γ := [.nest 32 2 none b34 c35 ((partRows bpA bpC bp).map (·.1)) (F_parts bp), .own 2 1 (some ⟨b5, 0, none⟩) 1 1 ([polarity]), .rd 2 bpA ((bp).length / 2 : Nat) bpC bp, .blk outB #[.slice q3_0A ((q3_0).length) q3_0C] 22, .own 2 1 q3_0A ((q3_0).length) q3_0C q3_0, .blk walkB #[.func (.func 141) #[] #[.pointer (some ⟨outB, 0, none⟩), .pointer (some ⟨walkB, 0, none⟩)]] 142]) (Γ' := [.nest 32 2 none b34 c35 ((partRows bpA bpC bp).map (·.1)) (F_parts bp), .own 2 1 (some ⟨b5, 0, none⟩) 1 1 ([polarity]), .rd 2 bpA ((bp).length / 2 : Nat) bpC bp, .blk outB #[.slice q3_0A ((q3_0).length) q3_0C] 22, .own 2 1 q3_0A ((q3_0).length) q3_0C q3_0, .blk walkB #[.func (.func 141) #[] #[.pointer (some ⟨outB, 0, none⟩), .pointer (some ⟨walkB, 0, none⟩)]] 142]) (Γ0 := Γ0) hS46 [0, 1, 2, 3, 4, 5] (by decide) rfl rfl))⟩
  ·
   rintro a192 w193 ⟨q3_0A_42, q3_0C_42, hi197, hi198, hi199, hE194, hS195⟩; clear hE41 hS31
   have hF : F_polarities_k1_b self bp polarity out = (F_polarities_k1_L1 bp polarity self (Int.toNat (((F_parts bp).length : Int) - 0) + 1) 0 (out ++ ([polarity]))).2 := by unfold F_polarities_k1_b; rfl
   refine c_end0 hE194 rfl ?_
   have hS9 := (St.pickT (Γ := [.nest 32 2 none b34 c35 ((partRows bpA bpC bp).map (·.1)) (F_parts bp), .own 2 1 (some ⟨b5, 0, none⟩) 1 1 ([polarity]), .rd 2 bpA ((bp).length / 2 : Nat) bpC bp, .blk outB #[.slice q3_0A_42 (((F_polarities_k1_L1 bp polarity self (Int.toNat (((F_parts bp).length : Int) - 0) + 1) 0 (out ++ ([polarity]))).2).length) q3_0C_42] 22, .own 2 1 q3_0A_42 (((F_polarities_k1_L1 bp polarity self (Int.toNat (((F_parts bp).length : Int) - 0) + 1) 0 (out ++ ([polarity]))).2).length) q3_0C_42 ((F_polarities_k1_L1 bp polarity self (Int.toNat (((F_parts bp).length : Int) - 0) + 1) 0 (out ++ ([polarity]))).2), .blk walkB #[.func (.func 141) #[] #[.pointer (some ⟨outB, 0, none⟩), .pointer (some ⟨walkB, 0, none⟩)]] 142]) (Γ' := [.rd 2 bpA ((bp).length / 2 : Nat) bpC bp, .blk outB #[.slice q3_0A_42 (((F_polarities_k1_L1 bp polarity self (Int.toNat (((F_parts bp).length : Int) - 0) + 1) 0 (out ++ ([polarity]))).2).length) q3_0C_42] 22, .own 2 1 q3_0A_42 (((F_polarities_k1_L1 bp polarity self (Int.toNat (((F_parts bp).length : Int) - 0) + 1) 0 (out ++ ([polarity]))).2).length) q3_0C_42 ((F_polarities_k1_L1 bp polarity self (Int.toNat (((F_parts bp).length : Int) - 0) + 1) 0 (out ++ ([polarity]))).2), .blk walkB #[.func (.func 141) #[] #[.pointer (some ⟨outB, 0, none⟩), .pointer (some ⟨walkB, 0, none⟩)]] 142]) (Γ0 := Γ0) hS195 [2, 3, 4, 5] (by decide) rfl rfl)
   exact ⟨q3_0A_42, q3_0C_42, rfl, (by rw [hF]; (try dsimp only); exact hS9)⟩
theorem c_polarities_k1_r : ∀ (r : Nat) (bpA : Option Addr) (bpN bpC : Nat) (bp : List Int) (polarity : Int) (outB : Nat) (outA : Option Addr) (outN outC : Nat) (out : List Int) (walkB : Nat) (w : World) (w0v : World) (Γ0 : List Ent) (hS0 : St w0v w (.rd 2 bpA bpN bpC bp :: .blk outB #[.slice outA outN outC] 22 :: .own 2 1 outA outN outC out :: .blk walkB #[.func (.func 141) #[] #[.pointer (some ⟨outB, 0, none⟩), .pointer (some ⟨walkB, 0, none⟩)]] 142 :: Γ0)) (hl : out.length + bp.length ≤ 1000) (hf : IsFm bp) (hs : -1 ≤ polarity ∧ polarity ≤ 1) (hlt : bp.length < r), Calls Try.prog 141 #[.slice bpA bpN bpC, .int .i64 polarity, .pointer (some ⟨outB, 0, none⟩), .pointer (some ⟨walkB, 0, none⟩)] w (Ret fun v w' => ∃ outA1 : Option Addr, ∃ outC1 : Nat, v = .tuple #[] ∧ St w0v w' (.rd 2 bpA bpN bpC bp :: .blk outB #[.slice outA1 (((F_polarities_k1_r r) bp polarity out).length) outC1] 22 :: .own 2 1 outA1 (((F_polarities_k1_r r) bp polarity out).length) outC1 ((F_polarities_k1_r r) bp polarity out) :: .blk walkB #[.func (.func 141) #[] #[.pointer (some ⟨outB, 0, none⟩), .pointer (some ⟨walkB, 0, none⟩)]] 142 :: Γ0)) := by
  intro r
  induction r with
  | zero => intros; omega
  | succ r ih =>
    intro bpA bpN bpC bp polarity outB outA outN outC out walkB w w0v Γ0 hS0 hl hf hs hlt
    exact cb_polarities_k1 (F_polarities_k1_r r) bp.length (fun bp polarity out hl hf hs hm => walkLen r bp polarity out hl hf hs (by omega)) bpA bpN bpC bp polarity outB outA outN outC out walkB w w0v Γ0 hS0 hl hf hs rfl (fun bpA bpN bpC bp polarity outB outA outN outC out walkB w w0v Γ0 hS0 hl hf hs hdec => ih bpA bpN bpC bp polarity outB outA outN outC out walkB w w0v Γ0 hS0 hl hf hs (by omega))
theorem c_polarities_k1 (bpA : Option Addr) (bpN bpC : Nat) (bp : List Int) (polarity : Int) (outB : Nat) (outA : Option Addr) (outN outC : Nat) (out : List Int) (walkB : Nat) (w : World) (w0v : World) (Γ0 : List Ent) (hS0 : St w0v w (.rd 2 bpA bpN bpC bp :: .blk outB #[.slice outA outN outC] 22 :: .own 2 1 outA outN outC out :: .blk walkB #[.func (.func 141) #[] #[.pointer (some ⟨outB, 0, none⟩), .pointer (some ⟨walkB, 0, none⟩)]] 142 :: Γ0)) (hl : out.length + bp.length ≤ 1000) (hf : IsFm bp) (hs : -1 ≤ polarity ∧ polarity ≤ 1) :
    Calls Try.prog 141 #[.slice bpA bpN bpC, .int .i64 polarity, .pointer (some ⟨outB, 0, none⟩), .pointer (some ⟨walkB, 0, none⟩)] w (Ret fun v w' => ∃ outA1 : Option Addr, ∃ outC1 : Nat, v = .tuple #[] ∧ St w0v w' (.rd 2 bpA bpN bpC bp :: .blk outB #[.slice outA1 ((F_polarities_k1 bp polarity out).length) outC1] 22 :: .own 2 1 outA1 ((F_polarities_k1 bp polarity out).length) outC1 (F_polarities_k1 bp polarity out) :: .blk walkB #[.func (.func 141) #[] #[.pointer (some ⟨outB, 0, none⟩), .pointer (some ⟨walkB, 0, none⟩)]] 142 :: Γ0)) := c_polarities_k1_r (bp.length + 1) bpA bpN bpC bp polarity outB outA outN outC out walkB w w0v Γ0 hS0 hl hf hs (Nat.lt_succ_self _)

def F_polarities (ap : List Int) : List Int :=
  (F_polarities_k1 ap 1 ([]))
theorem cf_polarities (args : Array Value) (w : World) : (callFunc 80 args).run Try.prog w = .ok (.enter 80 args) w := by kernel_rfl
set_option maxRecDepth 100000 in
theorem c_polarities (apA : Option Addr) (apN apC : Nat) (ap : List Int) (w : World) (apR : RdS w 2 apA apN apC ap) (hl : ap.length ≤ 100) (hf : IsFm ap) :
    Calls Try.prog 80 #[.slice apA apN apC] w (Ret fun v w' => ∃ b1 : Option Addr, ∃ c1 : Nat, v = .slice b1 (F_polarities ap).length c1 ∧ OwnS w' w.heap.size 2 1 b1 (F_polarities ap).length c1 (F_polarities ap) ∧ Ext w w') := by
  obtain rfl : apN = ap.length / 2 := (apR.lenD (by decide)).symm
  have apEv := apR.ev (by decide)
  have apLe := apR.le
  have hS := St.nil w
  have hS1 := St.rd0 hS rfl apR; clear hS
  refine enter (args := [.slice apA ((ap).length / 2 : Nat) apC]) Try.func80 rfl rfl ?_
  rw [Try.ntmps80]; intro a hE
  have hE := hE.sub (L' := [(0, .slice apA ((ap).length / 2 : Nat) apC)]) ⟨rfl, trivial⟩
  refine c_seq ?_
  refine c_reg ?_
  refine q_step (v := .slice none 0 0) hE (y_assign rfl) rfl rfl rfl ?_; intro a2 hE3; clear hE
  refine c_nil ?_
  have hE4 := hE3.sub (L' := [(0, .slice apA ((ap).length / 2 : Nat) apC)]) ⟨rfl, trivial⟩; clear hE3
  refine p_tn ?_
  refine c_seq ?_
  refine c_reg ?_
  refine l_step hE4 rfl (l_alloc (z := .slice none 0 0) (cs := #[.slice none 0 0]) hS1 hE4 (fun _ => by kernel_rfl) rfl rfl ?_)
  intro b5 w6 hS9 he10 a7 hE8; clear hS1 hE4
  refine c_nil ?_
  have hE11 := hE8.sub (L' := [(0, .slice apA ((ap).length / 2 : Nat) apC), (3, .pointer (some ⟨b5, 0, none⟩))]) ⟨rfl, rfl, trivial⟩; clear hE8
  refine p_tn ?_
  refine c_seq ?_
  refine c_reg ?_
  refine l_step hE11 rfl (l_alloc (z := .nilFunc) (cs := #[.nilFunc]) hS9 hE11 (fun _ => by kernel_rfl) rfl rfl ?_)
  intro b12 w13 hS16 he17 a14 hE15; clear hS9 hE11
  refine c_nil ?_
  have hE18 := hE15.sub (L' := [(0, .slice apA ((ap).length / 2 : Nat) apC), (3, .pointer (some ⟨b5, 0, none⟩)), (4, .pointer (some ⟨b12, 0, none⟩))]) ⟨rfl, rfl, rfl, trivial⟩; clear hE15
  refine p_tn ?_
  refine c_seq ?_
  refine c_reg ?_
  refine q_step (v := .func (.func 141) #[] #[.pointer (some ⟨b5, 0, none⟩), .pointer (some ⟨b12, 0, none⟩)]) hE18 (y_makeFunc (vs := [.pointer (some ⟨b5, 0, none⟩), .pointer (some ⟨b12, 0, none⟩)]) rfl) rfl rfl rfl ?_; intro a19 hE20; clear hE18
  refine l_step hE20 rfl (l_storeB (k := 0) (cs' := #[.func (.func 141) #[] #[.pointer (some ⟨b5, 0, none⟩), .pointer (some ⟨b12, 0, none⟩)]]) hS16 hE20 (fun _ => by kernel_rfl) rfl rfl rfl rfl rfl rfl rfl ?_)
  intro w22 hS25 a23 hE24; clear hS16 hE20
  refine c_nil ?_
  have hE27 := hE24.sub (L' := [(0, .slice apA ((ap).length / 2 : Nat) apC), (3, .pointer (some ⟨b5, 0, none⟩)), (4, .pointer (some ⟨b12, 0, none⟩))]) ⟨rfl, rfl, rfl, trivial⟩; clear hE24
  refine p_tn ?_
  refine c_seq ?_
  refine c_reg ?_
  refine q_step (v := .func (.func 141) #[] #[.pointer (some ⟨b5, 0, none⟩), .pointer (some ⟨b12, 0, none⟩)]) hE27 (y_load (fun _ => by kernel_rfl) rfl (St.cell (i := 0) hS25 rfl rfl)) rfl rfl rfl ?_; intro a28 hE29; clear hE27
  refine q_step (v := .slice apA ((ap).length / 2 : Nat) apC) hE29 (y_move rfl) rfl rfl rfl ?_; intro a30 hE31; clear hE29
  have hS38 := St.nils hS25 2 1; clear hS25
  have hr39 := (St.rdR (i := 3) hS38 rfl)
  have hS40 := St.addRd hS38 hr39 (St.robR (i := 3) hS38 rfl); clear hS38
  have hS41 := (St.pick (Γ' := [.rd 2 apA ((ap).length / 2 : Nat) apC ap, .blk b5 #[.slice none 0 0] 22, .own 2 1 none 0 0 ([]), .blk b12 #[.func (.func 141) #[] #[.pointer (some ⟨b5, 0, none⟩), .pointer (some ⟨b12, 0, none⟩)]] 142, .rd 2 apA ((ap).length / 2 : Nat) apC ap]) hS40 [0, 3, 1, 2, 4] (by decide) rfl); clear hS40
  have hc42 := c_polarities_k1 apA ((ap).length / 2 : Nat) apC ap 1 b5 none 0 0 ([]) b12 w22 w [.rd 2 apA ((ap).length / 2 : Nat) apC ap] hS41 (by simp; omega) (by omega) (by omega)
  refine l_step hE31 rfl (l_callv (f := 141) (caps := [.pointer (some ⟨b5, 0, none⟩), .pointer (some ⟨b12, 0, none⟩)]) (argv := [.slice apA ((ap).length / 2 : Nat) apC, .int .i64 1]) hE31 rfl (fun _ => cf_polarities_k1 _ _) rfl rfl (by exact hc42) ?_)
  rintro _ w33 ⟨b43, c44, rfl, hS36⟩ a34 hE35; clear hE31 hc42
  have hS45 := (St.pick (Γ' := [.blk b5 #[.slice b43 ((F_polarities_k1 ap 1 ([])).length) c44] 22, .own 2 1 b43 ((F_polarities_k1 ap 1 ([])).length) c44 (F_polarities_k1 ap 1 ([])), .blk b12 #[.func (.func 141) #[] #[.pointer (some ⟨b5, 0, none⟩), .pointer (some ⟨b12, 0, none⟩)]] 142, .rd 2 apA ((ap).length / 2 : Nat) apC ap]) hS36 [1, 2, 3, 4] (by decide) rfl); clear hS36
  refine c_nil ?_
  have hE46 := hE35.sub (L' := [(3, .pointer (some ⟨b5, 0, none⟩))]) ⟨rfl, trivial⟩; clear hE35
  refine p_tn ?_
  refine c_seq ?_
  refine c_reg ?_
  refine q_step (v := .slice b43 ((F_polarities_k1 ap 1 ([])).length) c44) hE46 (y_load (fun _ => by kernel_rfl) rfl (St.cell (i := 0) hS45 rfl rfl)) rfl rfl rfl ?_; intro a47 hE48; clear hE46
  refine q_step (v := .slice b43 ((F_polarities_k1 ap 1 ([])).length) c44) hE48 (y_assign rfl) rfl rfl rfl ?_; intro a49 hE50; clear hE48
  refine c_nil ?_
  have hE51 := hE50.sub (L' := [(2, .slice b43 ((F_polarities_k1 ap 1 ([])).length) c44)]) ⟨rfl, trivial⟩; clear hE50
  refine p_tn ?_
  refine wp_ret ?_
  have hF : F_polarities ap = (F_polarities_k1 ap 1 ([])) := by unfold F_polarities; rfl
  refine c_ret1 hE51 rfl rfl ?_
  exact ⟨b43, c44, (by rw [hF]; first | done | (dsimp only; done) | rfl), (by rw [hF]; (try dsimp only); exact hS45.ok 1 _ rfl), hS45.ext⟩

theorem polarities_len {ap : List Int} (hf : IsFm ap) : (F_polarities ap).length = ap.length / 2 := by
  rw [show F_polarities ap = F_polarities_k1 ap 1 [] from rfl, polarities_eq hf, l03Pol_len hf]


def F_sizeNode (list : List Int) : Int :=
  (((list).length / 2 : Nat) : Int)
theorem cf_sizeNode (args : Array Value) (w : World) : (callFunc 76 args).run Try.prog w = .ok (.enter 76 args) w := by kernel_rfl
set_option maxRecDepth 100000 in
theorem c_sizeNode (listA : Option Addr) (listN listC : Nat) (list : List Int) (w : World) (listR : RdS w 2 listA listN listC list) :
    Calls Try.prog 76 #[.slice listA listN listC] w (Ret fun v w' => v = .int .i64 (F_sizeNode list) ∧ w = w') := by
  obtain rfl : listN = list.length / 2 := (listR.lenD (by decide)).symm
  have listEv := listR.ev (by decide)
  have listLe := listR.le
  have hS := St.nil w
  have hS1 := St.rd0 hS rfl listR; clear hS
  refine enter (args := [.slice listA ((list).length / 2 : Nat) listC]) Try.func76 rfl rfl ?_
  rw [Try.ntmps76]; intro a hE
  have hE := hE.sub (L' := [(0, .slice listA ((list).length / 2 : Nat) listC)]) ⟨rfl, trivial⟩
  refine c_seq ?_
  refine c_reg ?_
  refine q_step (v := .int .i64 0) hE (y_assign rfl) rfl rfl rfl ?_; intro a2 hE3; clear hE
  refine c_nil ?_
  have hE4 := hE3.sub (L' := [(0, .slice listA ((list).length / 2 : Nat) listC)]) ⟨rfl, trivial⟩; clear hE3
  refine p_tn ?_
  refine c_seq ?_
  refine c_reg ?_
  refine q_step (v := .slice listA ((list).length / 2 : Nat) listC) hE4 (y_move rfl) rfl rfl rfl ?_; intro a5 hE6; clear hE4
  refine q_step (v := .int .i64 (((list).length / 2 : Nat) : Int)) hE6 (y_len (e := 94) (by kernel_rfl) rfl) rfl rfl rfl ?_; intro a7 hE8; clear hE6
  refine q_step (v := .int .i64 (((list).length / 2 : Nat) : Int)) hE8 (y_assign rfl) rfl rfl rfl ?_; intro a9 hE10; clear hE8
  refine c_nil ?_
  have hE11 := hE10.sub (L' := [(2, .int .i64 (((list).length / 2 : Nat) : Int))]) ⟨rfl, trivial⟩; clear hE10
  refine p_tn ?_
  refine wp_ret ?_
  have hF : F_sizeNode list = (((list).length / 2 : Nat) : Int) := by unfold F_sizeNode; rfl
  refine c_ret1 hE11 rfl rfl ?_
  exact ⟨(by rw [hF]; first | done | (dsimp only; done) | rfl), rfl⟩

theorem d_sizeNode (listA : Option Addr) (listN listC : Nat) (list : List Int) (w : World) (listR : RdS w 2 listA listN listC list) :
    Calls Try.prog 76 #[.slice listA listN listC] w (Ret fun v w' => v = .int .i64 ((list.length / 2 : Nat) : Int) ∧ w = w') := c_sizeNode listA listN listC list w listR


def F_s_NodePolarity (ap : List Int) (iq : Int) : (Int) × (Int) :=
  bif (!(F_l02Is ap)) then (0, 1) else (bif (!(F_l01In iq 0 ((((ap).length / 2 : Nat) : Int) - 1))) then (0, 2) else (gI (F_l03Polarities ap 1) iq, 0))
theorem cf_s_NodePolarity (args : Array Value) (w : World) : (callFunc 25 args).run Try.prog w = .ok (.enter 25 args) w := by kernel_rfl
set_option maxRecDepth 100000 in
theorem c_s_NodePolarity (apA : Option Addr) (apN apC : Nat) (ap : List Int) (iq : Int) (w : World) (apR : RdS w 2 apA apN apC ap) (hl : ap.length ≤ 4194304) :
    Calls Try.prog 25 #[.slice apA apN apC, .int .i64 iq] w (Ret fun v w' => v = .tuple #[.int .i64 ((F_s_NodePolarity ap iq).1), .int .i64 ((F_s_NodePolarity ap iq).2)] ∧ Ext w w') := by
  obtain rfl : apN = ap.length / 2 := (apR.lenD (by decide)).symm
  have apEv := apR.ev (by decide)
  have apLe := apR.le
  have hS := St.nil w
  have hS1 := St.rd0 hS rfl apR; clear hS
  refine enter (args := [.slice apA ((ap).length / 2 : Nat) apC, .int .i64 iq]) Try.func25 rfl rfl ?_
  rw [Try.ntmps25]; intro a hE
  have hE := hE.sub (L' := [(0, .slice apA ((ap).length / 2 : Nat) apC), (1, .int .i64 iq)]) ⟨rfl, rfl, trivial⟩
  refine c_seq ?_
  refine c_reg ?_
  refine q_step (v := .int .i64 0) hE (y_assign rfl) rfl rfl rfl ?_; intro a2 hE3; clear hE
  refine q_step (v := .int .i64 0) hE3 (y_assign rfl) rfl rfl rfl ?_; intro a4 hE5; clear hE3
  refine c_nil ?_
  have hE6 := hE5.sub (L' := [(0, .slice apA ((ap).length / 2 : Nat) apC), (1, .int .i64 iq)]) ⟨rfl, rfl, trivial⟩; clear hE5
  refine p_tn ?_
  refine c_seq ?_
  refine c_seq ?_
  refine c_reg ?_
  refine q_step (v := .slice apA ((ap).length / 2 : Nat) apC) hE6 (y_move rfl) rfl rfl rfl ?_; intro a7 hE8; clear hE6
  refine l_step hE8 rfl (l_call (f := 70) (argv := [.slice apA ((ap).length / 2 : Nat) apC]) hE8 (fun _ => cf_l02Is _ _) rfl rfl (c_l02Is apA ((ap).length / 2 : Nat) apC ap w (St.rdR (i := 0) hS1 rfl) (by omega)) ?_)
  rintro _ w10 ⟨rfl, he14⟩ a11 hE12; clear hE8
  have hS13 := St.go hS1 he14; clear hS1
  refine q_step (v := .bool (!(F_l02Is ap))) hE12 (y_not rfl) rfl rfl rfl ?_; intro a15 hE16; clear hE12
  refine c_nil ?_
  have hE17 := hE16.sub (L' := [(0, .slice apA ((ap).length / 2 : Nat) apC), (1, .int .i64 iq), (8, .bool (!(F_l02Is ap)))]) ⟨rfl, rfl, rfl, trivial⟩; clear hE16
  refine p_tn ?_
  refine c_cond hE17 rfl (fun ht18 => ?_) (fun ht18 => ?_)
  ·
   have ht19 := bn_t ht18
   have hE20 := hE17; rw [ht18] at hE20; clear hE17
   refine c_seq ?_
   refine c_reg ?_
   refine q_step (v := .int .i64 0) hE20 (y_assign rfl) rfl rfl rfl ?_; intro a21 hE22; clear hE20
   refine q_step (v := .int .i64 1) hE22 (y_assign rfl) rfl rfl rfl ?_; intro a23 hE24; clear hE22
   refine c_nil ?_
   have hE25 := hE24.sub (L' := [(4, .int .i64 0), (5, .int .i64 1)]) ⟨rfl, rfl, trivial⟩; clear hE24
   refine p_tn ?_
   refine wp_ret ?_
   refine p_tr ?_
   have hF : F_s_NodePolarity ap iq = (0, 1) := by unfold F_s_NodePolarity; rw [ht18]; first | done | rfl
   refine c_ret2 hE25 rfl rfl rfl ?_
   exact ⟨(by rw [hF]; first | done | (dsimp only; done) | rfl), hS13.ext⟩
  ·
   have ht26 := bn_f ht18
   have hp27 := isFm_t apEv ht26
   have hE28 := hE17; rw [ht18] at hE28; clear hE17
   refine wp_skip ?_
   refine p_tn ?_
   refine c_seq ?_
   refine c_seq ?_
   refine c_reg ?_
   refine q_step (v := .int .i64 iq) hE28 (y_move rfl) rfl rfl rfl ?_; intro a29 hE30; clear hE28
   refine q_step (v := .slice apA ((ap).length / 2 : Nat) apC) hE30 (y_move rfl) rfl rfl rfl ?_; intro a31 hE32; clear hE30
   refine q_step (v := .int .i64 (((ap).length / 2 : Nat) : Int)) hE32 (y_len (e := 94) (by kernel_rfl) rfl) rfl rfl rfl ?_; intro a33 hE34; clear hE32
   refine q_step (v := .int .i64 ((((ap).length / 2 : Nat) : Int) - 1)) hE34 (y_sub rfl rfl ⟨(by omega), (by omega)⟩) rfl rfl rfl ?_; intro a35 hE36; clear hE34
   refine l_step hE36 rfl (l_call (f := 71) (argv := [.int .i64 iq, .int .i64 0, .int .i64 ((((ap).length / 2 : Nat) : Int) - 1)]) hE36 (fun _ => cf_l01In _ _) rfl rfl (c_l01In iq 0 ((((ap).length / 2 : Nat) : Int) - 1) w10) ?_)
   rintro _ _ ⟨rfl, rfl⟩ a39 hE40; clear hE36
   refine q_step (v := .bool (!(F_l01In iq 0 ((((ap).length / 2 : Nat) : Int) - 1)))) hE40 (y_not rfl) rfl rfl rfl ?_; intro a43 hE44; clear hE40
   refine c_nil ?_
   have hE45 := hE44.sub (L' := [(0, .slice apA ((ap).length / 2 : Nat) apC), (1, .int .i64 iq), (14, .bool (!(F_l01In iq 0 ((((ap).length / 2 : Nat) : Int) - 1))))]) ⟨rfl, rfl, rfl, trivial⟩; clear hE44
   refine p_tn ?_
   refine c_cond hE45 rfl (fun ht46 => ?_) (fun ht46 => ?_)
   ·
    have ht47 := bn_t ht46
    have hE48 := hE45; rw [ht46] at hE48; clear hE45
    refine c_seq ?_
    refine c_reg ?_
    refine q_step (v := .int .i64 0) hE48 (y_assign rfl) rfl rfl rfl ?_; intro a49 hE50; clear hE48
    refine q_step (v := .int .i64 2) hE50 (y_assign rfl) rfl rfl rfl ?_; intro a51 hE52; clear hE50
    refine c_nil ?_
    have hE53 := hE52.sub (L' := [(4, .int .i64 0), (5, .int .i64 2)]) ⟨rfl, rfl, trivial⟩; clear hE52
    refine p_tn ?_
    refine wp_ret ?_
    refine p_tr ?_
    have hF : F_s_NodePolarity ap iq = (0, 2) := by unfold F_s_NodePolarity; rw [ht46, ht18]; first | done | rfl
    refine c_ret2 hE53 rfl rfl rfl ?_
    exact ⟨(by rw [hF]; first | done | (dsimp only; done) | rfl), hS13.ext⟩
   ·
    have ht54 := bn_f ht46
    have hp55 := F_l01In_t ht54
    have hE56 := hE45; rw [ht46] at hE56; clear hE45
    refine wp_skip ?_
    refine p_tn ?_
    refine c_seq ?_
    refine c_reg ?_
    refine q_step (v := .slice apA ((ap).length / 2 : Nat) apC) hE56 (y_move rfl) rfl rfl rfl ?_; intro a57 hE58; clear hE56
    refine l_step hE58 rfl (l_call (f := 79) (argv := [.slice apA ((ap).length / 2 : Nat) apC, .int .i64 1]) hE58 (fun _ => cf_l03Polarities _ _) rfl rfl (c_l03Polarities apA ((ap).length / 2 : Nat) apC ap 1 w10 (St.rdR (i := 0) hS13 rfl) (by omega) (isFm_t apEv (by assumption)).1 (by omega)) ?_)
    rintro _ w60 ⟨b65, c66, rfl, ho67, he64⟩ a61 hE62; clear hE58
    have hpl := l03Pol_len (isFm_t apEv (by assumption)).1
    have hS63 := St.own hS13 he64 ho67; clear hS13
    refine q_step (v := .int .i64 iq) hE62 (y_move rfl) rfl rfl rfl ?_; intro a68 hE69; clear hE62
    refine q_step (v := .pointer (some (adr b65 (Int.toNat iq)))) hE69 (y_idx (by kernel_rfl) (fun _ => by kernel_rfl) rfl rfl (RdS.isS (m := iq) (St.rdO (i := 0) hS63 rfl) (by omega) (by omega)) (by omega) (by omega) (Nat.mul_one _).symm) rfl rfl rfl ?_; intro a70 hE71; clear hE69
    refine q_step (v := .int .i64 (gI (F_l03Polarities ap 1) iq)) hE71 (y_load (fun _ => by kernel_rfl) rfl (RdS.elt (St.rdO (i := 0) hS63 rfl) (by omega) (by omega))) rfl rfl rfl ?_; intro a72 hE73; clear hE71
    refine q_step (v := .int .i64 (gI (F_l03Polarities ap 1) iq)) hE73 (y_assign rfl) rfl rfl rfl ?_; intro a74 hE75; clear hE73
    refine q_step (v := .int .i64 0) hE75 (y_assign rfl) rfl rfl rfl ?_; intro a76 hE77; clear hE75
    refine c_nil ?_
    have hE78 := hE77.sub (L' := [(4, .int .i64 (gI (F_l03Polarities ap 1) iq)), (5, .int .i64 0)]) ⟨rfl, rfl, trivial⟩; clear hE77
    refine p_tn ?_
    refine wp_ret ?_
    have hF : F_s_NodePolarity ap iq = (gI (F_l03Polarities ap 1) iq, 0) := by unfold F_s_NodePolarity; rw [ht46, ht18]; first | done | rfl
    refine c_ret2 hE78 rfl rfl rfl ?_
    exact ⟨(by rw [hF]; first | done | (dsimp only; done) | rfl), hS63.ext⟩

def F_NodePolarity (ap : List Int) (iq : Int) : (Int) × (Int) :=
  bif (!(F_isFormula ap)) then (0, 1) else (bif (!(F_inRange iq 0 (((ap.length / 2 : Nat) : Int) - 1))) then (0, 2) else (gI (F_polarities ap) iq, 0))
theorem cf_NodePolarity (args : Array Value) (w : World) : (callFunc 26 args).run Try.prog w = .ok (.enter 26 args) w := by kernel_rfl
set_option maxRecDepth 100000 in
theorem c_NodePolarity (apA : Option Addr) (apN apC : Nat) (ap : List Int) (iq : Int) (w : World) (apR : RdS w 2 apA apN apC ap) (hl : ap.length ≤ 4194304) :
    Calls Try.prog 26 #[.slice apA apN apC, .int .i64 iq] w (Ret fun v w' => v = .tuple #[.int .i64 ((F_NodePolarity ap iq).1), .int .i64 ((F_NodePolarity ap iq).2)] ∧ Ext w w') := by
  obtain rfl : apN = ap.length / 2 := (apR.lenD (by decide)).symm
  have apEv := apR.ev (by decide)
  have apLe := apR.le
  have hS := St.nil w
  have hS1 := St.rd0 hS rfl apR; clear hS
  refine enter (args := [.slice apA ((ap).length / 2 : Nat) apC, .int .i64 iq]) Try.func26 rfl rfl ?_
  rw [Try.ntmps26]; intro a hE
  have hE := hE.sub (L' := [(0, .slice apA ((ap).length / 2 : Nat) apC), (1, .int .i64 iq)]) ⟨rfl, rfl, trivial⟩
  refine c_seq ?_
  refine c_reg ?_
  refine q_step (v := .int .i64 0) hE (y_assign rfl) rfl rfl rfl ?_; intro a2 hE3; clear hE
  refine q_step (v := .int .i64 0) hE3 (y_assign rfl) rfl rfl rfl ?_; intro a4 hE5; clear hE3
  refine c_nil ?_
  have hE6 := hE5.sub (L' := [(0, .slice apA ((ap).length / 2 : Nat) apC), (1, .int .i64 iq)]) ⟨rfl, rfl, trivial⟩; clear hE5
  refine p_tn ?_
  refine c_seq ?_
  refine wp_block ?_
  refine c_seq ?_
  refine c_reg ?_
  refine q_step (v := .slice apA ((ap).length / 2 : Nat) apC) hE6 (y_move rfl) rfl rfl rfl ?_; intro a7 hE8; clear hE6
  refine l_step hE8 rfl (l_call (f := 74) (argv := [.slice apA ((ap).length / 2 : Nat) apC]) hE8 (fun _ => cf_isFormula _ _) rfl rfl (c_isFormula apA ((ap).length / 2 : Nat) apC ap w (St.rdR (i := 0) hS1 rfl) (by omega)) ?_)
  rintro _ w10 ⟨rfl, he14⟩ a11 hE12; clear hE8
  have hS13 := St.go hS1 he14; clear hS1
  refine q_step (v := .bool (!(F_isFormula ap))) hE12 (y_not rfl) rfl rfl rfl ?_; intro a15 hE16; clear hE12
  refine q_step (v := .bool (!(F_isFormula ap))) hE16 (y_assign rfl) rfl rfl rfl ?_; intro a17 hE18; clear hE16
  refine c_nil ?_
  have hE19 := hE18.sub (L' := [(0, .slice apA ((ap).length / 2 : Nat) apC), (1, .int .i64 iq), (6, .bool (!(F_isFormula ap)))]) ⟨rfl, rfl, rfl, trivial⟩; clear hE18
  refine p_tn ?_
  refine c_cond hE19 rfl (fun ht20 => ?_) (fun ht20 => ?_)
  ·
   have ht21 := bn_t ht20
   have hE22 := hE19; rw [ht20] at hE22; clear hE19
   refine c_seq ?_
   refine c_reg ?_
   refine q_step (v := .int .i64 0) hE22 (y_assign rfl) rfl rfl rfl ?_; intro a23 hE24; clear hE22
   refine q_step (v := .int .i64 1) hE24 (y_assign rfl) rfl rfl rfl ?_; intro a25 hE26; clear hE24
   refine c_nil ?_
   have hE27 := hE26.sub (L' := [(4, .int .i64 0), (5, .int .i64 1)]) ⟨rfl, rfl, trivial⟩; clear hE26
   refine p_tn ?_
   refine wp_ret ?_
   refine p_br ?_
   refine p_tr ?_
   have hF : F_NodePolarity ap iq = (0, 1) := by unfold F_NodePolarity; rw [ht20]; first | done | rfl
   refine c_ret2 hE27 rfl rfl rfl ?_
   exact ⟨(by rw [hF]; first | done | (dsimp only; done) | rfl), hS13.ext⟩
  ·
   have ht28 := bn_f ht20
   have hp29 := isFm_f apEv ht28
   have hE30 := hE19; rw [ht20] at hE30; clear hE19
   refine c_seq ?_
   refine c_reg ?_
   refine q_step (v := .int .i64 iq) hE30 (y_move rfl) rfl rfl rfl ?_; intro a31 hE32; clear hE30
   refine q_step (v := .slice apA ((ap).length / 2 : Nat) apC) hE32 (y_move rfl) rfl rfl rfl ?_; intro a33 hE34; clear hE32
   refine l_step hE34 rfl (l_call (f := 76) (argv := [.slice apA ((ap).length / 2 : Nat) apC]) hE34 (fun _ => cf_sizeNode _ _) rfl rfl (d_sizeNode apA ((ap).length / 2 : Nat) apC ap w10 (St.rdR (i := 0) hS13 rfl)) ?_)
   rintro _ _ ⟨rfl, rfl⟩ a37 hE38; clear hE34
   refine q_step (v := .int .i64 (((ap.length / 2 : Nat) : Int) - 1)) hE38 (y_sub rfl rfl ⟨(by omega), (by omega)⟩) rfl rfl rfl ?_; intro a41 hE42; clear hE38
   refine l_step hE42 rfl (l_call (f := 75) (argv := [.int .i64 iq, .int .i64 0, .int .i64 (((ap.length / 2 : Nat) : Int) - 1)]) hE42 (fun _ => cf_inRange _ _) rfl rfl (c_inRange iq 0 (((ap.length / 2 : Nat) : Int) - 1) w10) ?_)
   rintro _ _ ⟨rfl, rfl⟩ a45 hE46; clear hE42
   refine q_step (v := .bool (!(F_inRange iq 0 (((ap.length / 2 : Nat) : Int) - 1)))) hE46 (y_not rfl) rfl rfl rfl ?_; intro a49 hE50; clear hE46
   refine q_step (v := .bool (!(F_inRange iq 0 (((ap.length / 2 : Nat) : Int) - 1)))) hE50 (y_assign rfl) rfl rfl rfl ?_; intro a51 hE52; clear hE50
   refine c_nil ?_
   have hE53 := hE52.sub (L' := [(0, .slice apA ((ap).length / 2 : Nat) apC), (1, .int .i64 iq), (10, .bool (!(F_inRange iq 0 (((ap.length / 2 : Nat) : Int) - 1))))]) ⟨rfl, rfl, rfl, trivial⟩; clear hE52
   refine p_tn ?_
   refine c_cond hE53 rfl (fun ht54 => ?_) (fun ht54 => ?_)
   ·
    have ht55 := bn_t ht54
    have hE56 := hE53; rw [ht54] at hE56; clear hE53
    refine c_seq ?_
    refine c_reg ?_
    refine q_step (v := .int .i64 0) hE56 (y_assign rfl) rfl rfl rfl ?_; intro a57 hE58; clear hE56
    refine q_step (v := .int .i64 2) hE58 (y_assign rfl) rfl rfl rfl ?_; intro a59 hE60; clear hE58
    refine c_nil ?_
    have hE61 := hE60.sub (L' := [(4, .int .i64 0), (5, .int .i64 2)]) ⟨rfl, rfl, trivial⟩; clear hE60
    refine p_tn ?_
    refine wp_ret ?_
    refine p_br ?_
    refine p_tr ?_
    have hF : F_NodePolarity ap iq = (0, 2) := by unfold F_NodePolarity; rw [ht54, ht20]; first | done | rfl
    refine c_ret2 hE61 rfl rfl rfl ?_
    exact ⟨(by rw [hF]; first | done | (dsimp only; done) | rfl), hS13.ext⟩
   ·
    have ht62 := bn_f ht54
    have hp63 := F_inRange_t ht62
    have hE64 := hE53; rw [ht54] at hE64; clear hE53
    refine wp_skip ?_
    refine p_bn ?_
    refine p_tn ?_
    refine c_seq ?_
    refine c_reg ?_
    refine q_step (v := .slice apA ((ap).length / 2 : Nat) apC) hE64 (y_move rfl) rfl rfl rfl ?_; intro a65 hE66; clear hE64
    refine l_step hE66 rfl (l_call (f := 80) (argv := [.slice apA ((ap).length / 2 : Nat) apC]) hE66 (fun _ => cf_polarities _ _) rfl rfl (c_polarities apA ((ap).length / 2 : Nat) apC ap w10 (St.rdR (i := 0) hS13 rfl) (by omega) (isFm_f apEv (by assumption)).1) ?_)
    rintro _ w68 ⟨b73, c74, rfl, ho75, he72⟩ a69 hE70; clear hE66
    have hpl := polarities_len (isFm_f apEv (by assumption)).1
    have hS71 := St.own hS13 he72 ho75; clear hS13
    refine q_step (v := .int .i64 iq) hE70 (y_move rfl) rfl rfl rfl ?_; intro a76 hE77; clear hE70
    refine q_step (v := .pointer (some (adr b73 (Int.toNat iq)))) hE77 (y_idx (by kernel_rfl) (fun _ => by kernel_rfl) rfl rfl (RdS.isS (m := iq) (St.rdO (i := 0) hS71 rfl) (by omega) (by omega)) (by omega) (by omega) (Nat.mul_one _).symm) rfl rfl rfl ?_; intro a78 hE79; clear hE77
    refine q_step (v := .int .i64 (gI (F_polarities ap) iq)) hE79 (y_load (fun _ => by kernel_rfl) rfl (RdS.elt (St.rdO (i := 0) hS71 rfl) (by omega) (by omega))) rfl rfl rfl ?_; intro a80 hE81; clear hE79
    refine q_step (v := .int .i64 (gI (F_polarities ap) iq)) hE81 (y_assign rfl) rfl rfl rfl ?_; intro a82 hE83; clear hE81
    refine q_step (v := .int .i64 0) hE83 (y_assign rfl) rfl rfl rfl ?_; intro a84 hE85; clear hE83
    refine c_nil ?_
    have hE86 := hE85.sub (L' := [(4, .int .i64 (gI (F_polarities ap) iq)), (5, .int .i64 0)]) ⟨rfl, rfl, trivial⟩; clear hE85
    refine p_tn ?_
    refine wp_ret ?_
    have hF : F_NodePolarity ap iq = (gI (F_polarities ap) iq, 0) := by unfold F_NodePolarity; rw [ht54, ht20]; first | done | rfl
    refine c_ret2 hE86 rfl rfl rfl ?_
    exact ⟨(by rw [hF]; first | done | (dsimp only; done) | rfl), hS71.ext⟩

theorem NodePolarity_eq (ap : List Int) (i : Int) (he : ap.length = ap.length / 2 * 2) : F_NodePolarity ap i = F_s_NodePolarity ap i := by
  unfold F_NodePolarity F_s_NodePolarity F_inRange F_l01In
  rw [isFormula_eq]
  cases h : F_l02Is ap
  · rfl
  · rw [show F_polarities ap = F_polarities_k1 ap 1 [] from rfl, polarities_eq (IsFm.of he h)]


end Go.Proofs.Ytkilkfhjfobcdaa
