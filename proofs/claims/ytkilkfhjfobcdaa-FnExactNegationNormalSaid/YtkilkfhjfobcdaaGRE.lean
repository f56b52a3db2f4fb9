/- GRE: models and contracts, printed by wip/gen/gen.py -/
import Derived.Test.YtkilkfhjfobcdaaGRD
set_option linter.unusedVariables false
set_option linter.unusedSimpArgs false
namespace Go.Proofs.Ytkilkfhjfobcdaa
open Go.RowKit

theorem partEnd_un {k v : Int} {a : Fm} (h : (Fm.un k v a).Ok) : F_partEnd (Fm.un k v a).code 1 = 1 + a.size ∧ slI 2 (Fm.un k v a).code 1 (1 + a.size) = a.code := by
  have hl := (Fm.un k v a).code_half
  have hs : (Fm.un k v a).size = a.size + 1 := rfl
  have pa := a.size_pos
  have e1 : slI 2 (Fm.un k v a).code 1 (1 + a.size) = a.code := by
    have := fm_un (k := k) (v := v) (a := a)
    rw [hl, hs] at this
    rw [show (1 : Int) + (a.size : Int) = ((a.size + 1 : Nat) : Int) by omega]; exact this
  refine ⟨?_, e1⟩
  rw [partEnd_l]
  refine l02Part_of ?_
  rw [hl, hs, show Int.toNat (((a.size + 1 : Nat) : Int) - 1) + 1 = 1 + a.size by omega, part_code _ (Fm.code_ev _) a 1 1 1 h.2 (by omega) (by omega) e1.symm (by rw [hl, hs]; omega)]
  rw [show (1 : Int) - 1 = 0 by rfl, part_zero]
theorem partEnd_bin {k v : Int} {a b : Fm} (h : (Fm.bin k v a b).Ok) : F_partEnd (Fm.bin k v a b).code 1 = 1 + a.size ∧ F_partEnd (Fm.bin k v a b).code (1 + a.size) = 1 + a.size + b.size ∧ slI 2 (Fm.bin k v a b).code 1 (1 + a.size) = a.code ∧ slI 2 (Fm.bin k v a b).code (1 + a.size) (1 + a.size + b.size) = b.code := by
  obtain ⟨p1, p2, p3⟩ := fm_part h
  have hl := (Fm.bin k v a b).code_half
  have hs : (Fm.bin k v a b).size = a.size + b.size + 1 := rfl
  have pa := a.size_pos
  have pb := b.size_pos
  rw [hl, hs] at p3
  have e3 : b.code = slI 2 (Fm.bin k v a b).code (1 + a.size) (1 + a.size + b.size) := by
    rw [show (1 : Int) + (a.size : Int) + (b.size : Int) = ((a.size + b.size + 1 : Nat) : Int) by omega]; exact p3.symm
  refine ⟨by rw [partEnd_l]; exact p1, ?_, p2, e3.symm⟩
  rw [partEnd_l]
  refine l02Part_of ?_
  rw [hl, hs, show Int.toNat (((a.size + b.size + 1 : Nat) : Int) - (1 + a.size)) + 1 = 1 + b.size by omega, part_code _ (Fm.code_ev _) b 1 (1 + a.size) 1 h.2.2 (by omega) (by omega) e3 (by rw [hl, hs]; omega)]
  rw [show (1 : Int) - 1 = 0 by rfl, part_zero]
theorem parts_leaf {k v : Int} (h : (Fm.leaf k v).Ok) : F_parts (Fm.leaf k v).code = [] := by
  have hk : F_partsOf (gS 2 0 (Fm.leaf k v).code 0) = 0 := h.1
  unfold F_parts
  rw [hk]; rfl
theorem parts_un {k v : Int} {a : Fm} (h : (Fm.un k v a).Ok) : F_parts (Fm.un k v a).code = [a.code] := by
  have hk : F_partsOf (gS 2 0 (Fm.un k v a).code 0) = 1 := h.1.1
  unfold F_parts
  rw [hk, (partEnd_un h).1, (partEnd_un h).2, decide_eq_true rfl, cond_true]
theorem parts_bin {k v : Int} {a b : Fm} (h : (Fm.bin k v a b).Ok) : F_parts (Fm.bin k v a b).code = [a.code, b.code] := by
  have hk : F_partsOf (gS 2 0 (Fm.bin k v a b).code 0) = 2 := h.1.1
  obtain ⟨p1, p2, p3, p4⟩ := partEnd_bin h
  unfold F_parts
  rw [hk, p1, p2, p3, p4, decide_eq_false (by omega), cond_false, decide_eq_true rfl, cond_true]


def F_negationNormal_L1b (ap : List Int) (positive : Bool) (self : List Int → Bool → (List Int)) (rec : (List Int) → Int → (List Int) × Int) (out6 : List Int) (t41 : Int) : (List Int) × Int :=
  bif (decide (t41 < ((F_parts ap).length : Int))) then (rec (out6 ++ (self (gL (F_parts ap) t41) positive)) (t41 + 1)) else (out6, t41)
def F_negationNormal_L1 (ap : List Int) (positive : Bool) (self : List Int → Bool → (List Int)) : Nat → (List Int) → Int → (List Int) × Int
  | 0, out6, t41 => (out6, t41)
  | r + 1, out6, t41 => F_negationNormal_L1b ap positive self (F_negationNormal_L1 ap positive self r) out6 t41
def F_negationNormal_L2b (ap : List Int) (positive : Bool) (self : List Int → Bool → (List Int)) (rec : (List Int) → Int → (List Int) × Int) (out6L2 : List Int) (t41L2 : Int) : (List Int) × Int :=
  bif (decide (t41L2 < ((F_parts ap).length : Int))) then (rec (out6L2 ++ (self (gL (F_parts ap) t41L2) positive)) (t41L2 + 1)) else (out6L2, t41L2)
def F_negationNormal_L2 (ap : List Int) (positive : Bool) (self : List Int → Bool → (List Int)) : Nat → (List Int) → Int → (List Int) × Int
  | 0, out6L2, t41L2 => (out6L2, t41L2)
  | r + 1, out6L2, t41L2 => F_negationNormal_L2b ap positive self (F_negationNormal_L2 ap positive self r) out6L2 t41L2
def F_negationNormal_b (self : List Int → Bool → (List Int)) (ap : List Int) (positive : Bool) : List Int :=
  bif (decide ((gS 2 0 ap 0) = 0)) then (bif positive then (F_clone ap) else (F_negation ap)) else (bif (decide ((gS 2 0 ap 0) = 1)) then (bif positive then F_falsum else F_truth) else (bif (decide ((gS 2 0 ap 0) = 4)) then (F_implyNormal self ap positive) else (bif (!positive) then ((F_negationNormal_L1 ap positive self (Int.toNat (((F_parts ap).length : Int) - 0) + 1) ([F_dual (gS 2 0 ap 0), 0]) 0).1) else ((F_negationNormal_L2 ap positive self (Int.toNat (((F_parts ap).length : Int) - 0) + 1) ([gS 2 0 ap 0, 0]) 0).1))))
def F_negationNormal_r : Nat → List Int → Bool → (List Int)
  | 0 => fun _ _ => default
  | r + 1 => F_negationNormal_b (F_negationNormal_r r)
def F_negationNormal (ap : List Int) (positive : Bool) : List Int := F_negationNormal_r (ap.length + 1) ap positive
theorem nn_L1a (ap : List Int) (p : Bool) (self : List Int → Bool → List Int) (x : List Int) (h : F_parts ap = [x]) (out : List Int) : (F_negationNormal_L1 ap p self (Int.toNat (((F_parts ap).length : Int) - 0) + 1) out 0).1 = out ++ self x p := by
  rw [show Int.toNat (((F_parts ap).length : Int) - 0) + 1 = 2 by rw [h]; simp]
  show (F_negationNormal_L1b ap p self (F_negationNormal_L1b ap p self (F_negationNormal_L1 ap p self 0)) out 0).1 = _
  unfold F_negationNormal_L1b
  rw [h]
  simp only [List.length_cons, List.length_nil]
  rfl
theorem nn_L1b (ap : List Int) (p : Bool) (self : List Int → Bool → List Int) (x y : List Int) (h : F_parts ap = [x, y]) (out : List Int) : (F_negationNormal_L1 ap p self (Int.toNat (((F_parts ap).length : Int) - 0) + 1) out 0).1 = out ++ self x p ++ self y p := by
  rw [show Int.toNat (((F_parts ap).length : Int) - 0) + 1 = 3 by rw [h]; simp]
  show (F_negationNormal_L1b ap p self (F_negationNormal_L1b ap p self (F_negationNormal_L1b ap p self (F_negationNormal_L1 ap p self 0))) out 0).1 = _
  unfold F_negationNormal_L1b
  rw [h]
  simp only [List.length_cons, List.length_nil]
  rfl
theorem nn_L2a (ap : List Int) (p : Bool) (self : List Int → Bool → List Int) (x : List Int) (h : F_parts ap = [x]) (out : List Int) : (F_negationNormal_L2 ap p self (Int.toNat (((F_parts ap).length : Int) - 0) + 1) out 0).1 = out ++ self x p := by
  rw [show Int.toNat (((F_parts ap).length : Int) - 0) + 1 = 2 by rw [h]; simp]
  show (F_negationNormal_L2b ap p self (F_negationNormal_L2b ap p self (F_negationNormal_L2 ap p self 0)) out 0).1 = _
  unfold F_negationNormal_L2b
  rw [h]
  simp only [List.length_cons, List.length_nil]
  rfl
theorem nn_L2b (ap : List Int) (p : Bool) (self : List Int → Bool → List Int) (x y : List Int) (h : F_parts ap = [x, y]) (out : List Int) : (F_negationNormal_L2 ap p self (Int.toNat (((F_parts ap).length : Int) - 0) + 1) out 0).1 = out ++ self x p ++ self y p := by
  rw [show Int.toNat (((F_parts ap).length : Int) - 0) + 1 = 3 by rw [h]; simp]
  show (F_negationNormal_L2b ap p self (F_negationNormal_L2b ap p self (F_negationNormal_L2b ap p self (F_negationNormal_L2 ap p self 0))) out 0).1 = _
  unfold F_negationNormal_L2b
  rw [h]
  simp only [List.length_cons, List.length_nil]
  rfl
theorem nn_tree : ∀ (t : Fm) (r : Nat) (p : Bool), t.Ok → t.code.length < r → F_negationNormal_r r t.code p = t.nrm p := by
  intro t
  induction t with
  | leaf k v =>
    intro r p h hr
    obtain ⟨r, rfl⟩ : ∃ r', r = r' + 1 := ⟨r - 1, by omega⟩
    show F_negationNormal_b (F_negationNormal_r r) (Fm.leaf k v).code p = _
    unfold F_negationNormal_b
    rw [show gS 2 0 (Fm.leaf k v).code 0 = k from rfl, show (Fm.leaf k v).code = [k, v] from rfl, negation_eq, truth_eq, show F_falsum = F_l02False from rfl, show F_clone [k, v] = F_l02Own [k, v] from rfl]
    have hk : k = 0 ∨ k = 1 := by
      have h0 := parts_k k
      have h1 := h.1
      have h2 := h.2.1
      omega
    unfold Fm.nrm
    rcases hk with h' | h'
    · rw [decide_eq_true h', cond_true, cond_true]
    · rw [decide_eq_false (show ¬ k = 0 by omega), cond_false, cond_false, decide_eq_true h', cond_true]
  | un k v a ih =>
    intro r p h hr
    obtain ⟨r, rfl⟩ : ∃ r', r = r' + 1 := ⟨r - 1, by omega⟩
    have hl : a.code.length < r := by
      have e : (Fm.un k v a).code = k :: v :: a.code := rfl
      rw [e, List.length_cons, List.length_cons] at hr; omega
    have hk : k = 5 ∨ k = 6 := by
      have h1 := h.1.1
      have h2 := h.1.2.1
      rcases (show k = 0 ∨ k = 1 ∨ k = 2 ∨ k = 3 ∨ k = 4 ∨ k = 5 ∨ k = 6 by omega) with h' | h' | h' | h' | h' | h' | h'
      · rw [h'] at h1; exact absurd h1 (by decide)
      · rw [h'] at h1; exact absurd h1 (by decide)
      · rw [h'] at h1; exact absurd h1 (by decide)
      · rw [h'] at h1; exact absurd h1 (by decide)
      · rw [h'] at h1; exact absurd h1 (by decide)
      · exact .inl h'
      · exact .inr h'
    have hd : F_dual k = 11 - k := by rcases hk with rfl | rfl <;> rfl
    show F_negationNormal_b (F_negationNormal_r r) (Fm.un k v a).code p = _
    unfold F_negationNormal_b
    rw [nn_L1a _ _ _ _ (parts_un h), nn_L2a _ _ _ _ (parts_un h), show gS 2 0 (Fm.un k v a).code 0 = k from rfl, ih r p h.2 hl, hd,
      decide_eq_false (show ¬ k = 0 by omega), cond_false, decide_eq_false (show ¬ k = 1 by omega), cond_false, decide_eq_false (show ¬ k = 4 by omega), cond_false]
    rfl
  | bin k v a b iha ihb =>
    intro r p h hr
    obtain ⟨r, rfl⟩ : ∃ r', r = r' + 1 := ⟨r - 1, by omega⟩
    have e : (Fm.bin k v a b).code = k :: v :: (a.code ++ b.code) := rfl
    have hla : a.code.length < r := by rw [e, List.length_cons, List.length_cons, List.length_append] at hr; omega
    have hlb : b.code.length < r := by rw [e, List.length_cons, List.length_cons, List.length_append] at hr; omega
    obtain ⟨p1, p2, p3, p4⟩ := partEnd_bin h
    have hk : k = 2 ∨ k = 3 ∨ k = 4 := by
      have h1 := h.1.1
      have h2 := h.1.2.1
      rcases (show k = 0 ∨ k = 1 ∨ k = 2 ∨ k = 3 ∨ k = 4 ∨ k = 5 ∨ k = 6 by omega) with h' | h' | h' | h' | h' | h' | h'
      · rw [h'] at h1; exact absurd h1 (by decide)
      · rw [h'] at h1; exact absurd h1 (by decide)
      · exact .inl h'
      · exact .inr (.inl h')
      · exact .inr (.inr h')
      · rw [h'] at h1; exact absurd h1 (by decide)
      · rw [h'] at h1; exact absurd h1 (by decide)
    show F_negationNormal_b (F_negationNormal_r r) (Fm.bin k v a b).code p = _
    unfold F_negationNormal_b
    rw [nn_L1b _ _ _ _ _ (parts_bin h), nn_L2b _ _ _ _ _ (parts_bin h), show gS 2 0 (Fm.bin k v a b).code 0 = k from rfl, iha r p h.2.1 hla, ihb r p h.2.2 hlb,
      decide_eq_false (show ¬ k = 0 by omega), cond_false, decide_eq_false (show ¬ k = 1 by omega), cond_false]
    by_cases h4 : k = 4
    · rw [decide_eq_true h4, cond_true]
      unfold F_implyNormal F_isFalsum
      rw [p1, p2, p3, p4, iha r true h.2.1 hla, ihb r true h.2.2 hlb, iha r false h.2.1 hla, ihb r false h.2.2 hlb, iha r (!p) h.2.1 hla, join_pair, join_pair, truth_eq, show F_falsum = F_l02False from rfl]
      rw [Fm.nrm]
      rw [decide_eq_false (show ¬ k = 2 by omega), cond_false, decide_eq_false (show ¬ k = 3 by omega), cond_false]
    · have hd : F_dual k = 5 - k := by
        rcases hk with rfl | rfl | rfl
        · rfl
        · rfl
        · exact absurd rfl h4
      rw [decide_eq_false h4, cond_false, hd]
      rw [Fm.nrm]
      by_cases h2 : k = 2
      · rw [decide_eq_true h2, cond_true]; rfl
      · rw [decide_eq_false h2, cond_false, decide_eq_true (show k = 3 by omega), cond_true]; rfl
theorem nnLen : ∀ (r : Nat) (ap : List Int) (positive : Bool) (hl : ap.length ≤ 100) (hf : IsFm ap) (hm : ap.length < r), (F_negationNormal_r r ap positive).length ≤ 3 * ap.length := by
  intro r ap positive hl hf hm
  have h3 := norLen r ap positive hl hf
  obtain ⟨t, ht, rfl⟩ := hf
  rw [nn_tree t r positive ht hm, ← normal_tree t r positive ht hm]
  exact h3
theorem negationNormal_eq {ap : List Int} (hf : IsFm ap) (p : Bool) : F_negationNormal ap p = F_l03Normal ap p := by
  obtain ⟨t, ht, rfl⟩ := hf
  show F_negationNormal_r _ t.code p = F_l03Normal_r _ t.code p
  rw [nn_tree t _ p ht (Nat.lt_succ_self _), normal_tree t _ p ht (Nat.lt_succ_self _)]


set_option maxRecDepth 100000 in
theorem cb_negationNormal (self : List Int → Bool → (List Int)) (mu : Nat) (hpost : ∀ (ap : List Int) (positive : Bool) (hl : ap.length ≤ 100) (hf : IsFm ap) (hm : ap.length < mu), (self ap positive).length ≤ 3 * ap.length) (apA : Option Addr) (apN apC : Nat) (ap : List Int) (positive : Bool) (w : World) (apR : RdS w 2 apA apN apC ap) (hl : ap.length ≤ 100) (hf : IsFm ap) (hmu : mu = ap.length) (ih : ∀ (apA : Option Addr) (apN apC : Nat) (ap : List Int) (positive : Bool) (w : World) (apR : RdS w 2 apA apN apC ap) (hl : ap.length ≤ 100) (hf : IsFm ap) (hdec : ap.length < mu), Calls Try.prog 89 #[.slice apA apN apC, .bool positive] w (Ret fun v w' => ∃ b1 : Option Addr, ∃ c1 : Nat, v = .slice b1 ((self ap positive).length / 2 : Nat) c1 ∧ OwnS w' w.heap.size 94 2 b1 ((self ap positive).length / 2 : Nat) c1 (self ap positive) ∧ Ext w w')) :
    Calls Try.prog 89 #[.slice apA apN apC, .bool positive] w (Ret fun v w' => ∃ b1 : Option Addr, ∃ c1 : Nat, v = .slice b1 ((F_negationNormal_b self ap positive).length / 2 : Nat) c1 ∧ OwnS w' w.heap.size 94 2 b1 ((F_negationNormal_b self ap positive).length / 2 : Nat) c1 (F_negationNormal_b self ap positive) ∧ Ext w w') := by
  obtain rfl : apN = ap.length / 2 := (apR.lenD (by decide)).symm
  have apEv := apR.ev (by decide)
  have apLe := apR.le
  have hl1 := hf.len
  have hrg := hf.rng
  have hpk := parts_k (gS 2 0 ap 0)
  have hpt := parts_rows hf
  have hS := St.nil w
  have hS1 := St.rd0 hS rfl apR; clear hS
  refine enter (args := [.slice apA ((ap).length / 2 : Nat) apC, .bool positive]) Try.func89 rfl rfl ?_
  rw [Try.ntmps89]; intro a hE
  have hE := hE.sub (L' := [(0, .slice apA ((ap).length / 2 : Nat) apC), (1, .bool positive)]) ⟨rfl, rfl, trivial⟩
  refine c_seq ?_
  refine c_reg ?_
  refine q_step (v := .slice none 0 0) hE (y_assign rfl) rfl rfl rfl ?_; intro a2 hE3; clear hE
  refine c_nil ?_
  have hE4 := hE3.sub (L' := [(0, .slice apA ((ap).length / 2 : Nat) apC), (1, .bool positive)]) ⟨rfl, rfl, trivial⟩; clear hE3
  refine p_tn ?_
  refine c_seq ?_
  refine c_reg ?_
  refine q_step (v := .slice apA ((ap).length / 2 : Nat) apC) hE4 (y_move rfl) rfl rfl rfl ?_; intro a5 hE6; clear hE4
  refine q_step (v := .pointer (some (adr apA (Int.toNat 0 * 2)))) hE6 (y_idx (by kernel_rfl) (fun _ => by kernel_rfl) rfl rfl (RdS.isS (m := 0) (St.rdR (i := 0) hS1 rfl) (by omega) (by omega)) (by omega) (by omega) rfl) rfl rfl rfl ?_; intro a7 hE8; clear hE6
  refine q_step (v := .pointer (some (adr apA ((Int.toNat 0 * 2) + 0)))) hE8 (y_fieldE (o := 0) (fun _ _ => by kernel_rfl) rfl) rfl rfl rfl ?_; intro a9 hE10; clear hE8
  refine q_step (v := .int .i64 (gS 2 0 ap 0)) hE10 (y_load (fun _ => by kernel_rfl) rfl (RdS.eltS (j := 0) (St.rdR (i := 0) hS1 rfl) (by omega) (by omega) (by decide))) rfl rfl rfl ?_; intro a11 hE12; clear hE10
  refine q_step (v := .int .i64 (gS 2 0 ap 0)) hE12 (y_assign rfl) rfl rfl rfl ?_; intro a13 hE14; clear hE12
  refine c_nil ?_
  have hE15 := hE14.sub (L' := [(0, .slice apA ((ap).length / 2 : Nat) apC), (1, .bool positive), (5, .int .i64 (gS 2 0 ap 0))]) ⟨rfl, rfl, rfl, trivial⟩; clear hE14
  refine p_tn ?_
  refine c_seq ?_
  refine c_seq ?_
  refine c_reg ?_
  refine q_step (v := .int .i64 (gS 2 0 ap 0)) hE15 (y_move rfl) rfl rfl rfl ?_; intro a16 hE17; clear hE15
  refine c_nil ?_
  have hE18 := hE17.sub (L' := [(0, .slice apA ((ap).length / 2 : Nat) apC), (1, .bool positive), (5, .int .i64 (gS 2 0 ap 0)), (13, .int .i64 (gS 2 0 ap 0))]) ⟨rfl, rfl, rfl, rfl, trivial⟩; clear hE17
  refine p_tn ?_
  refine wp_block ?_
  refine c_seq ?_
  refine c_reg ?_
  refine q_step (v := .bool (decide ((gS 2 0 ap 0) = 0))) hE18 (y_eql rfl rfl) rfl rfl rfl ?_; intro a19 hE20; clear hE18
  refine q_step (v := .bool (decide ((gS 2 0 ap 0) = 0))) hE20 (y_assign rfl) rfl rfl rfl ?_; intro a21 hE22; clear hE20
  refine c_nil ?_
  have hE23 := hE22.sub (L' := [(0, .slice apA ((ap).length / 2 : Nat) apC), (1, .bool positive), (5, .int .i64 (gS 2 0 ap 0)), (13, .int .i64 (gS 2 0 ap 0)), (14, .bool (decide ((gS 2 0 ap 0) = 0)))]) ⟨rfl, rfl, rfl, rfl, rfl, trivial⟩; clear hE22
  refine p_tn ?_
  refine c_cond hE23 rfl (fun ht24 => ?_) (fun ht24 => ?_)
  ·
   have hp25 := of_decide_eq_true ht24
   have hE26 := hE23; rw [ht24] at hE26; clear hE23
   refine c_seq ?_
   refine c_seq ?_
   refine c_reg ?_
   refine q_step (v := .bool positive) hE26 (y_move rfl) rfl rfl rfl ?_; intro a27 hE28; clear hE26
   refine c_nil ?_
   have hE29 := hE28.sub (L' := [(0, .slice apA ((ap).length / 2 : Nat) apC), (16, .bool positive)]) ⟨rfl, rfl, trivial⟩; clear hE28
   refine p_tn ?_
   refine c_cond hE29 rfl (fun ht30 => ?_) (fun ht30 => ?_)
   ·
    have hE31 := hE29; rw [ht30] at hE31; clear hE29
    refine c_seq ?_
    refine c_reg ?_
    refine q_step (v := .slice apA ((ap).length / 2 : Nat) apC) hE31 (y_move rfl) rfl rfl rfl ?_; intro a32 hE33; clear hE31
    have hc40 := c_clone apA ((ap).length / 2 : Nat) apC ap w (St.rdR (i := 0) hS1 rfl) (by omega)
    refine l_step hE33 rfl (l_call (f := 151) (argv := [.slice apA ((ap).length / 2 : Nat) apC]) hE33 (fun _ => cf_clone _ _) rfl rfl (by exact hc40) ?_)
    rintro _ w35 ⟨b41, c42, rfl, ho43, he39⟩ a36 hE37; clear hE33
    have hS38 := St.own hS1 he39 ho43; clear hS1
    refine q_step (v := .slice b41 ((F_clone ap).length / 2 : Nat) c42) hE37 (y_assign rfl) rfl rfl rfl ?_; intro a44 hE45; clear hE37
    refine c_nil ?_
    have hE46 := hE45.sub (L' := [(4, .slice b41 ((F_clone ap).length / 2 : Nat) c42)]) ⟨rfl, trivial⟩; clear hE45
    refine p_tn ?_
    refine wp_ret ?_
    refine p_tr ?_
    refine p_br ?_
    refine p_tr ?_
    have hF : F_negationNormal_b self ap positive = F_clone ap := by unfold F_negationNormal_b; rw [ht30, ht24]; first | done | rfl
    refine c_ret1 hE46 rfl rfl ?_
    exact ⟨b41, c42, (by rw [hF]; first | done | (dsimp only; done) | rfl), (by rw [hF]; (try dsimp only); exact hS38.ok 0 _ rfl), hS38.ext⟩
   ·
    have hE47 := hE29; rw [ht30] at hE47; clear hE29
    refine wp_skip ?_
    refine p_tn ?_
    refine c_seq ?_
    refine c_reg ?_
    refine q_step (v := .slice apA ((ap).length / 2 : Nat) apC) hE47 (y_move rfl) rfl rfl rfl ?_; intro a48 hE49; clear hE47
    have hc56 := c_negation apA ((ap).length / 2 : Nat) apC ap w (St.rdR (i := 0) hS1 rfl) (by omega)
    refine l_step hE49 rfl (l_call (f := 84) (argv := [.slice apA ((ap).length / 2 : Nat) apC]) hE49 (fun _ => cf_negation _ _) rfl rfl (by exact hc56) ?_)
    rintro _ w51 ⟨b57, c58, rfl, ho59, he55⟩ a52 hE53; clear hE49
    have hf60 := negation_len ap
    have hS54 := St.own hS1 he55 ho59; clear hS1
    refine q_step (v := .slice b57 ((F_negation ap).length / 2 : Nat) c58) hE53 (y_assign rfl) rfl rfl rfl ?_; intro a61 hE62; clear hE53
    refine c_nil ?_
    have hE63 := hE62.sub (L' := [(4, .slice b57 ((F_negation ap).length / 2 : Nat) c58)]) ⟨rfl, trivial⟩; clear hE62
    refine p_tn ?_
    refine wp_ret ?_
    refine p_br ?_
    refine p_tr ?_
    have hF : F_negationNormal_b self ap positive = F_negation ap := by unfold F_negationNormal_b; rw [ht30, ht24]; first | done | rfl
    refine c_ret1 hE63 rfl rfl ?_
    exact ⟨b57, c58, (by rw [hF]; first | done | (dsimp only; done) | rfl), (by rw [hF]; (try dsimp only); exact hS54.ok 0 _ rfl), hS54.ext⟩
  ·
   have hp64 := of_decide_eq_false ht24
   have hE65 := hE23; rw [ht24] at hE65; clear hE23
   refine c_seq ?_
   refine c_reg ?_
   refine q_step (v := .bool (decide ((gS 2 0 ap 0) = 1))) hE65 (y_eql rfl rfl) rfl rfl rfl ?_; intro a66 hE67; clear hE65
   refine q_step (v := .bool (decide ((gS 2 0 ap 0) = 1))) hE67 (y_assign rfl) rfl rfl rfl ?_; intro a68 hE69; clear hE67
   refine c_nil ?_
   have hE70 := hE69.sub (L' := [(0, .slice apA ((ap).length / 2 : Nat) apC), (1, .bool positive), (5, .int .i64 (gS 2 0 ap 0)), (13, .int .i64 (gS 2 0 ap 0)), (21, .bool (decide ((gS 2 0 ap 0) = 1)))]) ⟨rfl, rfl, rfl, rfl, rfl, trivial⟩; clear hE69
   refine p_tn ?_
   refine c_cond hE70 rfl (fun ht71 => ?_) (fun ht71 => ?_)
   ·
    have hp72 := of_decide_eq_true ht71
    have hE73 := hE70; rw [ht71] at hE73; clear hE70
    refine c_seq ?_
    refine c_seq ?_
    refine c_reg ?_
    refine q_step (v := .bool positive) hE73 (y_move rfl) rfl rfl rfl ?_; intro a74 hE75; clear hE73
    refine c_nil ?_
    have hE76 := hE75.sub (L' := [(23, .bool positive)]) ⟨rfl, trivial⟩; clear hE75
    refine p_tn ?_
    refine c_cond hE76 rfl (fun ht77 => ?_) (fun ht77 => ?_)
    ·
     have hE78 := hE76; rw [ht77] at hE78; clear hE76
     refine c_seq ?_
     refine c_reg ?_
     have hc85 := c_falsum w
     refine l_step hE78 rfl (l_call (f := 144) (argv := []) hE78 (fun _ => cf_falsum _ _) rfl rfl (by exact hc85) ?_)
     rintro _ w80 ⟨b86, c87, rfl, ho88, he84⟩ a81 hE82; clear hE78
     have hf89 := falsum_len
     have hS83 := St.own hS1 he84 ho88; clear hS1
     refine q_step (v := .slice b86 ((F_falsum).length / 2 : Nat) c87) hE82 (y_assign rfl) rfl rfl rfl ?_; intro a90 hE91; clear hE82
     refine c_nil ?_
     have hE92 := hE91.sub (L' := [(4, .slice b86 ((F_falsum).length / 2 : Nat) c87)]) ⟨rfl, trivial⟩; clear hE91
     refine p_tn ?_
     refine wp_ret ?_
     refine p_tr ?_
     refine p_br ?_
     refine p_tr ?_
     have hF : F_negationNormal_b self ap positive = F_falsum := by unfold F_negationNormal_b; rw [ht77, ht71, ht24]; first | done | rfl
     refine c_ret1 hE92 rfl rfl ?_
     exact ⟨b86, c87, (by rw [hF]; first | done | (dsimp only; done) | rfl), (by rw [hF]; (try dsimp only); exact hS83.ok 0 _ rfl), hS83.ext⟩
    ·
     have hE93 := hE76; rw [ht77] at hE93; clear hE76
     refine wp_skip ?_
     refine p_tn ?_
     refine c_seq ?_
     refine c_reg ?_
     have hc100 := c_truth w
     refine l_step hE93 rfl (l_call (f := 152) (argv := []) hE93 (fun _ => cf_truth _ _) rfl rfl (by exact hc100) ?_)
     rintro _ w95 ⟨b101, c102, rfl, ho103, he99⟩ a96 hE97; clear hE93
     have hf104 := truth_len
     have hS98 := St.own hS1 he99 ho103; clear hS1
     refine q_step (v := .slice b101 ((F_truth).length / 2 : Nat) c102) hE97 (y_assign rfl) rfl rfl rfl ?_; intro a105 hE106; clear hE97
     refine c_nil ?_
     have hE107 := hE106.sub (L' := [(4, .slice b101 ((F_truth).length / 2 : Nat) c102)]) ⟨rfl, trivial⟩; clear hE106
     refine p_tn ?_
     refine wp_ret ?_
     refine p_br ?_
     refine p_tr ?_
     have hF : F_negationNormal_b self ap positive = F_truth := by unfold F_negationNormal_b; rw [ht77, ht71, ht24]; first | done | rfl
     refine c_ret1 hE107 rfl rfl ?_
     exact ⟨b101, c102, (by rw [hF]; first | done | (dsimp only; done) | rfl), (by rw [hF]; (try dsimp only); exact hS98.ok 0 _ rfl), hS98.ext⟩
   ·
    have hp108 := of_decide_eq_false ht71
    have hE109 := hE70; rw [ht71] at hE109; clear hE70
    refine c_seq ?_
    refine c_reg ?_
    refine q_step (v := .bool (decide ((gS 2 0 ap 0) = 4))) hE109 (y_eql rfl rfl) rfl rfl rfl ?_; intro a110 hE111; clear hE109
    refine q_step (v := .bool (decide ((gS 2 0 ap 0) = 4))) hE111 (y_assign rfl) rfl rfl rfl ?_; intro a112 hE113; clear hE111
    refine c_nil ?_
    have hE114 := hE113.sub (L' := [(0, .slice apA ((ap).length / 2 : Nat) apC), (1, .bool positive), (5, .int .i64 (gS 2 0 ap 0)), (26, .bool (decide ((gS 2 0 ap 0) = 4)))]) ⟨rfl, rfl, rfl, rfl, trivial⟩; clear hE113
    refine p_tn ?_
    refine c_cond hE114 rfl (fun ht115 => ?_) (fun ht115 => ?_)
    ·
     have hp116 := of_decide_eq_true ht115
     have hE117 := hE114; rw [ht115] at hE117; clear hE114
     refine c_seq ?_
     refine c_reg ?_
     refine q_step (v := .slice apA ((ap).length / 2 : Nat) apC) hE117 (y_move rfl) rfl rfl rfl ?_; intro a118 hE119; clear hE117
     refine q_step (v := .bool positive) hE119 (y_move rfl) rfl rfl rfl ?_; intro a120 hE121; clear hE119
     have hc128 := c_implyNormal self mu hpost ih apA ((ap).length / 2 : Nat) apC ap positive w (St.rdR (i := 0) hS1 rfl) (by omega) (by omega) (by rw [partsOf_k]; omega) (by omega)
     refine l_step hE121 rfl (l_call (f := 153) (argv := [.slice apA ((ap).length / 2 : Nat) apC, .bool positive]) hE121 (fun _ => cf_implyNormal _ _) rfl rfl (by exact hc128) ?_)
     rintro _ w123 ⟨b129, c130, rfl, ho131, he127⟩ a124 hE125; clear hE121
     have hS126 := St.own hS1 he127 ho131; clear hS1
     refine q_step (v := .slice b129 ((F_implyNormal self ap positive).length / 2 : Nat) c130) hE125 (y_assign rfl) rfl rfl rfl ?_; intro a132 hE133; clear hE125
     refine c_nil ?_
     have hE134 := hE133.sub (L' := [(4, .slice b129 ((F_implyNormal self ap positive).length / 2 : Nat) c130)]) ⟨rfl, trivial⟩; clear hE133
     refine p_tn ?_
     refine wp_ret ?_
     refine p_br ?_
     refine p_tr ?_
     have hF : F_negationNormal_b self ap positive = F_implyNormal self ap positive := by unfold F_negationNormal_b; rw [ht115, ht71, ht24]; first | done | rfl
     refine c_ret1 hE134 rfl rfl ?_
     exact ⟨b129, c130, (by rw [hF]; first | done | (dsimp only; done) | rfl), (by rw [hF]; (try dsimp only); exact hS126.ok 0 _ rfl), hS126.ext⟩
    ·
     have hp135 := of_decide_eq_false ht115
     have hE136 := hE114; rw [ht115] at hE136; clear hE114
     refine wp_skip ?_
     refine p_bn ?_
     refine p_tn ?_
     refine c_seq ?_
     refine c_seq ?_
     refine c_reg ?_
     refine q_step (v := .bool positive) hE136 (y_move rfl) rfl rfl rfl ?_; intro a137 hE138; clear hE136
     refine q_step (v := .bool (!positive)) hE138 (y_not rfl) rfl rfl rfl ?_; intro a139 hE140; clear hE138
     refine c_nil ?_
     have hE141 := hE140.sub (L' := [(0, .slice apA ((ap).length / 2 : Nat) apC), (1, .bool positive), (5, .int .i64 (gS 2 0 ap 0)), (32, .bool (!positive))]) ⟨rfl, rfl, rfl, rfl, trivial⟩; clear hE140
     refine p_tn ?_
     refine c_cond hE141 rfl (fun ht142 => ?_) (fun ht142 => ?_)
     ·
      have ht143 := bn_t ht142
      have hE144 := hE141; rw [ht142] at hE144; clear hE141
      refine c_reg ?_
      refine q_step (v := .int .i64 (gS 2 0 ap 0)) hE144 (y_move rfl) rfl rfl rfl ?_; intro a145 hE146; clear hE144
      have hc153 := c_dual (gS 2 0 ap 0) w
      refine l_step hE146 rfl (l_call (f := 154) (argv := [.int .i64 (gS 2 0 ap 0)]) hE146 (fun _ => cf_dual _ _) rfl rfl (by exact hc153) ?_)
      rintro _ _ ⟨rfl, rfl⟩ a149 hE150; clear hE146
      refine q_step (v := .int .i64 (F_dual (gS 2 0 ap 0))) hE150 (y_assign rfl) rfl rfl rfl ?_; intro a154 hE155; clear hE150
      refine c_nil ?_
      have hE156 := hE155.sub (L' := [(0, .slice apA ((ap).length / 2 : Nat) apC), (1, .bool positive), (5, .int .i64 (F_dual (gS 2 0 ap 0)))]) ⟨rfl, rfl, rfl, trivial⟩; clear hE155
      refine p_tn ?_
      refine c_seq ?_
      refine c_reg ?_
      refine q_step (v := .int .i64 (F_dual (gS 2 0 ap 0))) hE156 (y_move rfl) rfl rfl rfl ?_; intro a157 hE158; clear hE156
      refine q_step (v := .agg #[.int .i64 (F_dual (gS 2 0 ap 0)), .int .i64 0]) hE158 (y_build (vs := #[(0, .int .i64 (F_dual (gS 2 0 ap 0))), (1, .int .i64 0)]) (fun a n hE => by simp only [hE.eval (x := .tmp 35) (v := .int .i64 (F_dual (gS 2 0 ap 0))) rfl, hE.eval (x := .const (.int .i64 0)) (v := .int .i64 0) rfl, List.map_toArray, List.map_cons, List.map_nil]) (fun _ => by kernel_rfl)) rfl rfl rfl ?_; intro a159 hE160; clear hE158
      refine l_step hE160 rfl (l_lit (e := 94) (s := 2) (xs := [F_dual (gS 2 0 ap 0), 0]) (vs := [.agg #[.int .i64 (F_dual (gS 2 0 ap 0)), .int .i64 0]]) hS1 hE160 rfl (fun _ => by kernel_rfl) rfl rfl rfl ?_)
      intro b161 w162 hS165 he166 a163 hE164; clear hS1 hE160
      refine q_step (v := .slice (some ⟨b161, 0, none⟩) 1 1) hE164 (y_assign rfl) rfl rfl rfl ?_; intro a167 hE168; clear hE164
      refine c_nil ?_
      have hE169 := hE168.sub (L' := [(0, .slice apA ((ap).length / 2 : Nat) apC), (1, .bool positive), (6, .slice (some ⟨b161, 0, none⟩) 1 1)]) ⟨rfl, rfl, rfl, trivial⟩; clear hE168
      refine p_tn ?_
      refine c_seq ?_
      refine c_seq ?_
      refine c_reg ?_
      refine q_step (v := .slice apA ((ap).length / 2 : Nat) apC) hE169 (y_move rfl) rfl rfl rfl ?_; intro a170 hE171; clear hE169
      have hc178 := c_parts apA ((ap).length / 2 : Nat) apC ap w162 (St.rdR (i := 1) hS165 rfl) (by omega) (by omega)
      refine l_step hE171 rfl (l_call (f := 142) (argv := [.slice apA ((ap).length / 2 : Nat) apC]) hE171 (fun _ => cf_parts _ _) rfl rfl (by exact hc178) ?_)
      rintro _ w173 ⟨b179, c180, rfl, ho181, he177⟩ a174 hE175; clear hE171
      have hS176 := St.ownRows (rows := partRows apA apC ap) hS165 he177 ho181 rfl (partRows_xs _ _ _) (partRows_ok (St.rdR (i := 1) hS165 rfl) (St.robR (i := 1) hS165 rfl) hf); clear hS165
      refine q_step (v := .int .i64 ((F_parts ap).length : Int)) hE175 (y_len (e := 32) (by kernel_rfl) rfl) rfl rfl rfl ?_; intro a182 hE183; clear hE175
      refine q_step (v := .int .i64 0) hE183 (y_move rfl) rfl rfl rfl ?_; intro a184 hE185; clear hE183
      refine c_nil ?_
      have hE186 := hE185.sub (L' := [(1, .bool positive), (6, .slice (some ⟨b161, 0, none⟩) 1 1), (39, .slice b179 ((F_parts ap).length) c180), (40, .int .i64 ((F_parts ap).length : Int)), (41, .int .i64 0)]) ⟨rfl, rfl, rfl, rfl, rfl, trivial⟩; clear hE185
      refine p_tn ?_
      refine c_cut1 (fun a' w' => ∃ out6A_187 : Option Addr, ∃ out6C_187 : Nat, (0 ≤ ((F_negationNormal_L1 ap positive self (Int.toNat (((F_parts ap).length : Int) - 0) + 1) ([F_dual (gS 2 0 ap 0), 0]) 0).2)) ∧ ((((F_negationNormal_L1 ap positive self (Int.toNat (((F_parts ap).length : Int) - 0) + 1) ([F_dual (gS 2 0 ap 0), 0]) 0).1).length : Int) ≤ 2 + ((F_negationNormal_L1 ap positive self (Int.toNat (((F_parts ap).length : Int) - 0) + 1) ([F_dual (gS 2 0 ap 0), 0]) 0).2) * 300) ∧ (((F_negationNormal_L1 ap positive self (Int.toNat (((F_parts ap).length : Int) - 0) + 1) ([F_dual (gS 2 0 ap 0), 0]) 0).2) ≤ ((F_parts ap).length : Int)) ∧ E a' 52 [(1, .bool positive), (6, .slice out6A_187 (((F_negationNormal_L1 ap positive self (Int.toNat (((F_parts ap).length : Int) - 0) + 1) ([F_dual (gS 2 0 ap 0), 0]) 0).1).length / 2 : Nat) out6C_187), (39, .slice b179 ((F_parts ap).length) c180), (40, .int .i64 ((F_parts ap).length : Int)), (41, .int .i64 ((F_negationNormal_L1 ap positive self (Int.toNat (((F_parts ap).length : Int) - 0) + 1) ([F_dual (gS 2 0 ap 0), 0]) 0).2))] ∧ St w w' [.nest 32 2 none b179 c180 ((partRows apA apC ap).map (·.1)) (F_parts ap), .own 94 2 out6A_187 (((F_negationNormal_L1 ap positive self (Int.toNat (((F_parts ap).length : Int) - 0) + 1) ([F_dual (gS 2 0 ap 0), 0]) 0).1).length / 2 : Nat) out6C_187 ((F_negationNormal_L1 ap positive self (Int.toNat (((F_parts ap).length : Int) - 0) + 1) ([F_dual (gS 2 0 ap 0), 0]) 0).1), .rd 2 apA ((ap).length / 2 : Nat) apC ap]) ?_ ?_
      ·
       refine wp_block ?_
       refine c_loop (fun r a' w' => ∃ out6 : List Int, ∃ t41 : Int, ∃ out6A : Option Addr, ∃ out6C : Nat, F_negationNormal_L1 ap positive self r out6 t41 = F_negationNormal_L1 ap positive self (Int.toNat (((F_parts ap).length : Int) - 0) + 1) ([F_dual (gS 2 0 ap 0), 0]) 0 ∧ Int.toNat (((F_parts ap).length : Int) - t41) < r ∧ (0 ≤ t41) ∧ ((out6.length : Int) ≤ 2 + t41 * 300) ∧ (t41 ≤ ((F_parts ap).length : Int)) ∧ E a' 52 [(1, .bool positive), (6, .slice out6A ((out6).length / 2 : Nat) out6C), (39, .slice b179 ((F_parts ap).length) c180), (40, .int .i64 ((F_parts ap).length : Int)), (41, .int .i64 t41)] ∧ St w w' [.nest 32 2 none b179 c180 ((partRows apA apC ap).map (·.1)) (F_parts ap), .own 94 2 out6A ((out6).length / 2 : Nat) out6C out6, .rd 2 apA ((ap).length / 2 : Nat) apC ap]) (r := (Int.toNat (((F_parts ap).length : Int) - 0) + 1)) ?_ ?_
       · exact ⟨[F_dual (gS 2 0 ap 0), 0], 0, some ⟨b161, 0, none⟩, 1, rfl, Nat.lt_succ_self _, (by first | omega | (simp only [sS_len, sL_len]; omega) | (simp only [List.length_replicate, sI_len]; omega) | (simp only [List.length_append, List.length_cons, List.length_nil, sI_len, cond_true, cond_false]; omega) | (simp only [List.length_append, List.length_cons, List.length_nil, sI_len, cond_eq_ite, apply_ite List.length]; split <;> simp only [List.length_append, List.length_cons, List.length_nil, sI_len] <;> omega) | grind), (by first | omega | (simp only [sS_len, sL_len]; omega) | (simp only [List.length_replicate, sI_len]; omega) | (simp only [List.length_append, List.length_cons, List.length_nil, sI_len, cond_true, cond_false]; omega) | (simp only [List.length_append, List.length_cons, List.length_nil, sI_len, cond_eq_ite, apply_ite List.length]; split <;> simp only [List.length_append, List.length_cons, List.length_nil, sI_len] <;> omega) | grind), (by first | omega | (simp only [sS_len, sL_len]; omega) | (simp only [List.length_replicate, sI_len]; omega) | (simp only [List.length_append, List.length_cons, List.length_nil, sI_len, cond_true, cond_false]; omega) | (simp only [List.length_append, List.length_cons, List.length_nil, sI_len, cond_eq_ite, apply_ite List.length]; split <;> simp only [List.length_append, List.length_cons, List.length_nil, sI_len] <;> omega) | grind), (by rw [(show (([F_dual (gS 2 0 ap 0), 0]).length / 2 : Nat) = 1 by simp)]; exact (hE186.sub (L' := [(1, .bool positive), (6, .slice (some ⟨b161, 0, none⟩) 1 1), (39, .slice b179 ((F_parts ap).length) c180), (40, .int .i64 ((F_parts ap).length : Int)), (41, .int .i64 0)]) ⟨rfl, rfl, rfl, rfl, rfl, trivial⟩)), (by rw [(show (([F_dual (gS 2 0 ap 0), 0]).length / 2 : Nat) = 1 by simp)]; exact (St.pick (Γ' := [.nest 32 2 none b179 c180 ((partRows apA apC ap).map (·.1)) (F_parts ap), .own 94 2 (some ⟨b161, 0, none⟩) 1 1 ([F_dual (gS 2 0 ap 0), 0]), .rd 2 apA ((ap).length / 2 : Nat) apC ap]) hS176 [0, 1, 2] (by decide) rfl))⟩
       ·
        clear hE186 hS176
        rintro r197 a188 w189 ⟨out6, t41, out6A, out6C, hT192, hr193, hi194, hi195, hi196, hE190, hS191⟩
        obtain ⟨r197, rfl⟩ : ∃ r', r197 = r' + 1 := ⟨r197 - 1, by omega⟩
        refine c_seq ?_
        refine c_reg ?_
        refine q_step (v := .bool (decide (t41 < ((F_parts ap).length : Int)))) hE190 (y_lss rfl rfl) rfl rfl rfl ?_; intro a198 hE199; clear hE190
        refine c_nil ?_
        have hE200 := hE199.sub (L' := [(1, .bool positive), (6, .slice out6A ((out6).length / 2 : Nat) out6C), (39, .slice b179 ((F_parts ap).length) c180), (40, .int .i64 ((F_parts ap).length : Int)), (41, .int .i64 t41), (42, .bool (decide (t41 < ((F_parts ap).length : Int))))]) ⟨rfl, rfl, rfl, rfl, rfl, rfl, trivial⟩; clear hE199
        refine p_tn ?_
        refine c_seq ?_
        refine c_cond hE200 rfl (fun ht201 => ?_) (fun ht201 => ?_)
        ·
         have hp202 := of_decide_eq_true ht201
         have hE203 := hE200; rw [ht201] at hE203; clear hE200
         have hrow := hpt.2 t41 (by omega) (by omega)
         refine wp_skip ?_
         refine p_tn ?_
         refine c_seq ?_
         refine wp_block ?_
         refine c_seq ?_
         refine c_reg ?_
         refine q_step (v := .pointer (some (adr b179 (Int.toNat t41)))) hE203 (y_idx (by kernel_rfl) (fun _ => by kernel_rfl) rfl rfl (RdN.isS (m := t41) (St.rdNo (i := 0) hS191 rfl) (by omega) (by omega)) (by omega) (by omega) (Nat.mul_one _).symm) rfl rfl rfl ?_; intro a204 hE205; clear hE203
         have hv206 : (0 : Int) ≤ t41 ∧ t41 < ((F_parts ap).length : Int) := ⟨(by omega), (by omega)⟩
         refine q_step (v := .slice (hdA ((partRows apA apC ap).map (·.1)) t41) ((gL (F_parts ap) t41).length / 2 : Nat) (hdC ((partRows apA apC ap).map (·.1)) t41)) hE205 (y_load (fun _ => by kernel_rfl) rfl (RdN.eltD (St.rdNo (i := 0) hS191 rfl) (by decide) (by omega) (by omega))) rfl rfl rfl ?_; intro a208 hE209; clear hE205
         refine q_step (v := .slice (hdA ((partRows apA apC ap).map (·.1)) t41) ((gL (F_parts ap) t41).length / 2 : Nat) (hdC ((partRows apA apC ap).map (·.1)) t41)) hE209 (y_assign rfl) rfl rfl rfl ?_; intro a210 hE211; clear hE209
         refine c_nil ?_
         have hE212 := hE211.sub (L' := [(1, .bool positive), (6, .slice out6A ((out6).length / 2 : Nat) out6C), (8, .slice (hdA ((partRows apA apC ap).map (·.1)) t41) ((gL (F_parts ap) t41).length / 2 : Nat) (hdC ((partRows apA apC ap).map (·.1)) t41)), (39, .slice b179 ((F_parts ap).length) c180), (40, .int .i64 ((F_parts ap).length : Int)), (41, .int .i64 t41)]) ⟨rfl, rfl, rfl, rfl, rfl, rfl, trivial⟩; clear hE211
         refine p_tn ?_
         refine c_reg ?_
         refine q_step (v := .slice out6A ((out6).length / 2 : Nat) out6C) hE212 (y_move rfl) rfl rfl rfl ?_; intro a213 hE214; clear hE212
         refine q_step (v := .slice (hdA ((partRows apA apC ap).map (·.1)) t41) ((gL (F_parts ap) t41).length / 2 : Nat) (hdC ((partRows apA apC ap).map (·.1)) t41)) hE214 (y_move rfl) rfl rfl rfl ?_; intro a215 hE216; clear hE214
         refine q_step (v := .bool positive) hE216 (y_move rfl) rfl rfl rfl ?_; intro a217 hE218; clear hE216
         have hr225 := (RdN.rowD (St.rdNo (i := 0) hS191 rfl) (by decide) hv206.1 hv206.2)
         have hc226 := ih (hdA ((partRows apA apC ap).map (·.1)) t41) ((gL (F_parts ap) t41).length / 2 : Nat) (hdC ((partRows apA apC ap).map (·.1)) t41) (gL (F_parts ap) t41) positive w189 hr225 (by have h := hrow.2; omega) hrow.1 (by have h := hrow.2; omega)
         refine l_step hE218 rfl (l_call (f := 89) (argv := [.slice (hdA ((partRows apA apC ap).map (·.1)) t41) ((gL (F_parts ap) t41).length / 2 : Nat) (hdC ((partRows apA apC ap).map (·.1)) t41), .bool positive]) hE218 (fun _ => cf_negationNormal _ _) rfl rfl (by exact hc226) ?_)
         rintro _ w220 ⟨b227, c228, rfl, ho229, he224⟩ a221 hE222; clear hE218
         have hf230 := hpost (gL (F_parts ap) t41) positive (by first | (have h := hrow.2; omega) | exact (Nat.le_trans (slI_le 2 _ _ _) hl)) (by first | (with_reducible exact hrow.1) | first | (with_reducible exact hi1.1) | (with_reducible exact hi1.2.1)) (by first | (have h := hrow.2; omega) | (have h := hi1.2.2; omega))
         have hS223 := St.own hS191 he224 ho229; clear hS191
         obtain ⟨_, hi1, hi2, hi3, hi4⟩ := info_parts (show (Try.prog.info? 94).map (fun i => (i.zero, i.size, i.bytes)) = some (some (.agg #[.int .i64 0, .int .i64 0]), 2, 16) by kernel_rfl)
         refine l_step hE222 rfl (l_append (k := 2) (n' := ((out6 ++ (self (gL (F_parts ap) t41) positive)).length / 2 : Nat)) hS223 hE222 (by kernel_rfl) hi1 hi2 hi3 rfl (by decide) (by rw [hi4]; decide) rfl rfl rfl (St.rdO (i := 0) hS223 rfl) (by first | omega | (simp only [List.length_append, List.length_cons, List.length_nil]; omega)) (by have h1 := (St.rdO (i := 2) hS223 rfl).1; have h2 := (St.rdO (i := 0) hS223 rfl).1; simp only [List.length_append, List.length_nil, List.length_cons] at h1 h2 ⊢; omega) rfl ?_)
         intro b231 c237 w232 hS235 a233 hE234; clear hS223 hE222 hi1 hi2 hi3 hi4
         refine q_step (v := .slice b231 ((out6 ++ (self (gL (F_parts ap) t41) positive)).length / 2 : Nat) c237) hE234 (y_assign rfl) rfl rfl rfl ?_; intro a238 hE239; clear hE234
         refine c_nil ?_
         have hE240 := hE239.sub (L' := [(1, .bool positive), (6, .slice b231 ((out6 ++ (self (gL (F_parts ap) t41) positive)).length / 2 : Nat) c237), (39, .slice b179 ((F_parts ap).length) c180), (40, .int .i64 ((F_parts ap).length : Int)), (41, .int .i64 t41)]) ⟨rfl, rfl, rfl, rfl, rfl, trivial⟩; clear hE239
         refine p_bn ?_
         refine p_tn ?_
         refine c_reg ?_
         refine q_step (v := .int .i64 (t41 + 1)) hE240 (y_add rfl rfl ⟨(by omega), (by omega)⟩) rfl rfl rfl ?_; intro a241 hE242; clear hE240
         refine q_step (v := .int .i64 (t41 + 1)) hE242 (y_move rfl) rfl rfl rfl ?_; intro a243 hE244; clear hE242
         refine c_nil ?_
         have hE245 := hE244.sub (L' := [(1, .bool positive), (6, .slice b231 ((out6 ++ (self (gL (F_parts ap) t41) positive)).length / 2 : Nat) c237), (39, .slice b179 ((F_parts ap).length) c180), (40, .int .i64 ((F_parts ap).length : Int)), (41, .int .i64 (t41 + 1))]) ⟨rfl, rfl, rfl, rfl, rfl, trivial⟩; clear hE244
         refine p_tn ⟨r197, Nat.lt_succ_self _, out6 ++ (self (gL (F_parts ap) t41) positive), t41 + 1, b231, c237, (hT192.symm.trans (show F_negationNormal_L1b ap positive self (F_negationNormal_L1 ap positive self r197) out6 t41 = F_negationNormal_L1 ap positive self r197 (out6 ++ (self (gL (F_parts ap) t41) positive)) (t41 + 1) by unfold F_negationNormal_L1b; rw [ht201]; first | done | rfl)).symm, (by omega), (by first | omega | (simp only [sS_len, sL_len]; omega) | (simp only [List.length_replicate, sI_len]; omega) | (simp only [List.length_append, List.length_cons, List.length_nil, sI_len, cond_true, cond_false]; omega) | (simp only [List.length_append, List.length_cons, List.length_nil, sI_len, cond_eq_ite, apply_ite List.length]; split <;> simp only [List.length_append, List.length_cons, List.length_nil, sI_len] <;> omega) | grind), (by first | omega | (simp only [sS_len, sL_len]; omega) | (simp only [List.length_replicate, sI_len]; omega) | (simp only [List.length_append, List.length_cons, List.length_nil, sI_len, cond_true, cond_false]; omega) | (simp only [List.length_append, List.length_cons, List.length_nil, sI_len, cond_eq_ite, apply_ite List.length]; split <;> simp only [List.length_append, List.length_cons, List.length_nil, sI_len] <;> omega) | grind), (by first | omega | (simp only [sS_len, sL_len]; omega) | (simp only [List.length_replicate, sI_len]; omega) | (simp only [List.length_append, List.length_cons, List.length_nil, sI_len, cond_true, cond_false]; omega) | (simp only [List.length_append, List.length_cons, List.length_nil, sI_len, cond_eq_ite, apply_ite List.length]; split <;> simp only [List.length_append, List.length_cons, List.length_nil, sI_len] <;> omega) | grind), (hE245.sub (L' := [(1, .bool positive), (6, .slice b231 ((out6 ++ (self (gL (F_parts ap) t41) positive)).length / 2 : Nat) c237), (39, .slice b179 ((F_parts ap).length) c180), (40, .int .i64 ((F_parts ap).length : Int)), (41, .int .i64 (t41 + 1))]) ⟨rfl, rfl, rfl, rfl, rfl, trivial⟩), (St.pick (Γ' := [.nest 32 2 none b179 c180 ((partRows apA apC ap).map (·.1)) (F_parts ap), .own 94 2 b231 ((out6 ++ (self (gL (F_parts ap) t41) positive)).length / 2 : Nat) c237 (out6 ++ (self (gL (F_parts ap) t41) positive)), .rd 2 apA ((ap).length / 2 : Nat) apC ap]) hS235 [1, 2, 3] (by decide) rfl)⟩
        ·
         have hp246 := of_decide_eq_false ht201
         have hE247 := hE200; rw [ht201] at hE247; clear hE200
         refine wp_exit ?_
         refine p_te ?_
         have hX248 : F_negationNormal_L1 ap positive self (Int.toNat (((F_parts ap).length : Int) - 0) + 1) ([F_dual (gS 2 0 ap 0), 0]) 0 = (out6, t41) := hT192.symm.trans (show F_negationNormal_L1b ap positive self (F_negationNormal_L1 ap positive self r197) out6 t41 = (out6, t41) by unfold F_negationNormal_L1b; rw [ht201]; first | done | rfl)
         refine p_te (p_be (p_tn ?_))
         exact ⟨out6A, out6C, (by rw [hX248]; exact (show 0 ≤ t41 from (by first | omega | (simp only [sS_len, sL_len]; omega) | (simp only [List.length_replicate, sI_len]; omega) | (simp only [List.length_append, List.length_cons, List.length_nil, sI_len, cond_true, cond_false]; omega) | (simp only [List.length_append, List.length_cons, List.length_nil, sI_len, cond_eq_ite, apply_ite List.length]; split <;> simp only [List.length_append, List.length_cons, List.length_nil, sI_len] <;> omega) | grind))), (by rw [hX248]; exact (show (out6.length : Int) ≤ 2 + t41 * 300 from (by first | omega | (simp only [sS_len, sL_len]; omega) | (simp only [List.length_replicate, sI_len]; omega) | (simp only [List.length_append, List.length_cons, List.length_nil, sI_len, cond_true, cond_false]; omega) | (simp only [List.length_append, List.length_cons, List.length_nil, sI_len, cond_eq_ite, apply_ite List.length]; split <;> simp only [List.length_append, List.length_cons, List.length_nil, sI_len] <;> omega) | grind))), (by rw [hX248]; exact (show t41 ≤ ((F_parts ap).length : Int) from (by first | omega | (simp only [sS_len, sL_len]; omega) | (simp only [List.length_replicate, sI_len]; omega) | (simp only [List.length_append, List.length_cons, List.length_nil, sI_len, cond_true, cond_false]; omega) | (simp only [List.length_append, List.length_cons, List.length_nil, sI_len, cond_eq_ite, apply_ite List.length]; split <;> simp only [List.length_append, List.length_cons, List.length_nil, sI_len] <;> omega) | grind))), (by rw [hX248]; exact (hE247.sub (L' := [(1, .bool positive), (6, .slice out6A ((out6).length / 2 : Nat) out6C), (39, .slice b179 ((F_parts ap).length) c180), (40, .int .i64 ((F_parts ap).length : Int)), (41, .int .i64 t41)]) ⟨rfl, rfl, rfl, rfl, rfl, trivial⟩)), (by rw [hX248]; exact (St.pick (Γ' := [.nest 32 2 none b179 c180 ((partRows apA apC ap).map (·.1)) (F_parts ap), .own 94 2 out6A ((out6).length / 2 : Nat) out6C out6, .rd 2 apA ((ap).length / 2 : Nat) apC ap]) hS191 [0, 1, 2] (by decide) rfl))⟩
      ·
       rintro a249 w250 ⟨out6A_187, out6C_187, hi254, hi255, hi256, hE251, hS252⟩; clear hE186 hS176
       refine p_tn ?_
       refine c_seq ?_
       refine c_reg ?_
       refine q_step (v := .slice out6A_187 (((F_negationNormal_L1 ap positive self (Int.toNat (((F_parts ap).length : Int) - 0) + 1) ([F_dual (gS 2 0 ap 0), 0]) 0).1).length / 2 : Nat) out6C_187) hE251 (y_move rfl) rfl rfl rfl ?_; intro a257 hE258; clear hE251
       refine q_step (v := .slice out6A_187 (((F_negationNormal_L1 ap positive self (Int.toNat (((F_parts ap).length : Int) - 0) + 1) ([F_dual (gS 2 0 ap 0), 0]) 0).1).length / 2 : Nat) out6C_187) hE258 (y_assign rfl) rfl rfl rfl ?_; intro a259 hE260; clear hE258
       refine c_nil ?_
       have hE261 := hE260.sub (L' := [(4, .slice out6A_187 (((F_negationNormal_L1 ap positive self (Int.toNat (((F_parts ap).length : Int) - 0) + 1) ([F_dual (gS 2 0 ap 0), 0]) 0).1).length / 2 : Nat) out6C_187)]) ⟨rfl, trivial⟩; clear hE260
       refine p_tn ?_
       refine wp_ret ?_
       have hF : F_negationNormal_b self ap positive = (F_negationNormal_L1 ap positive self (Int.toNat (((F_parts ap).length : Int) - 0) + 1) ([F_dual (gS 2 0 ap 0), 0]) 0).1 := by unfold F_negationNormal_b; rw [ht142, ht115, ht71, ht24]; first | done | rfl
       refine c_ret1 hE261 rfl rfl ?_
       exact ⟨out6A_187, out6C_187, (by rw [hF]; first | done | (dsimp only; done) | rfl), (by rw [hF]; (try dsimp only); exact hS252.ok 1 _ rfl), hS252.ext⟩
     ·
      have ht262 := bn_f ht142
      have hE263 := hE141; rw [ht142] at hE263; clear hE141
      refine wp_skip ?_
      refine p_tn ?_
      refine c_seq ?_
      refine c_reg ?_
      refine q_step (v := .int .i64 (gS 2 0 ap 0)) hE263 (y_move rfl) rfl rfl rfl ?_; intro a264 hE265; clear hE263
      refine q_step (v := .agg #[.int .i64 (gS 2 0 ap 0), .int .i64 0]) hE265 (y_build (vs := #[(0, .int .i64 (gS 2 0 ap 0)), (1, .int .i64 0)]) (fun a n hE => by simp only [hE.eval (x := .tmp 35) (v := .int .i64 (gS 2 0 ap 0)) rfl, hE.eval (x := .const (.int .i64 0)) (v := .int .i64 0) rfl, List.map_toArray, List.map_cons, List.map_nil]) (fun _ => by kernel_rfl)) rfl rfl rfl ?_; intro a266 hE267; clear hE265
      refine l_step hE267 rfl (l_lit (e := 94) (s := 2) (xs := [gS 2 0 ap 0, 0]) (vs := [.agg #[.int .i64 (gS 2 0 ap 0), .int .i64 0]]) hS1 hE267 rfl (fun _ => by kernel_rfl) rfl rfl rfl ?_)
      intro b268 w269 hS272 he273 a270 hE271; clear hS1 hE267
      refine q_step (v := .slice (some ⟨b268, 0, none⟩) 1 1) hE271 (y_assign rfl) rfl rfl rfl ?_; intro a274 hE275; clear hE271
      refine c_nil ?_
      have hE276 := hE275.sub (L' := [(0, .slice apA ((ap).length / 2 : Nat) apC), (1, .bool positive), (6, .slice (some ⟨b268, 0, none⟩) 1 1)]) ⟨rfl, rfl, rfl, trivial⟩; clear hE275
      refine p_tn ?_
      refine c_seq ?_
      refine c_seq ?_
      refine c_reg ?_
      refine q_step (v := .slice apA ((ap).length / 2 : Nat) apC) hE276 (y_move rfl) rfl rfl rfl ?_; intro a277 hE278; clear hE276
      have hc285 := c_parts apA ((ap).length / 2 : Nat) apC ap w269 (St.rdR (i := 1) hS272 rfl) (by omega) (by omega)
      refine l_step hE278 rfl (l_call (f := 142) (argv := [.slice apA ((ap).length / 2 : Nat) apC]) hE278 (fun _ => cf_parts _ _) rfl rfl (by exact hc285) ?_)
      rintro _ w280 ⟨b286, c287, rfl, ho288, he284⟩ a281 hE282; clear hE278
      have hS283 := St.ownRows (rows := partRows apA apC ap) hS272 he284 ho288 rfl (partRows_xs _ _ _) (partRows_ok (St.rdR (i := 1) hS272 rfl) (St.robR (i := 1) hS272 rfl) hf); clear hS272
      refine q_step (v := .int .i64 ((F_parts ap).length : Int)) hE282 (y_len (e := 32) (by kernel_rfl) rfl) rfl rfl rfl ?_; intro a289 hE290; clear hE282
      refine q_step (v := .int .i64 0) hE290 (y_move rfl) rfl rfl rfl ?_; intro a291 hE292; clear hE290
      refine c_nil ?_
      have hE293 := hE292.sub (L' := [(1, .bool positive), (6, .slice (some ⟨b268, 0, none⟩) 1 1), (39, .slice b286 ((F_parts ap).length) c287), (40, .int .i64 ((F_parts ap).length : Int)), (41, .int .i64 0)]) ⟨rfl, rfl, rfl, rfl, rfl, trivial⟩; clear hE292
      refine p_tn ?_
      refine c_cut1 (fun a' w' => ∃ out6L2A_294 : Option Addr, ∃ out6L2C_294 : Nat, (0 ≤ ((F_negationNormal_L2 ap positive self (Int.toNat (((F_parts ap).length : Int) - 0) + 1) ([gS 2 0 ap 0, 0]) 0).2)) ∧ ((((F_negationNormal_L2 ap positive self (Int.toNat (((F_parts ap).length : Int) - 0) + 1) ([gS 2 0 ap 0, 0]) 0).1).length : Int) ≤ 2 + ((F_negationNormal_L2 ap positive self (Int.toNat (((F_parts ap).length : Int) - 0) + 1) ([gS 2 0 ap 0, 0]) 0).2) * 300) ∧ (((F_negationNormal_L2 ap positive self (Int.toNat (((F_parts ap).length : Int) - 0) + 1) ([gS 2 0 ap 0, 0]) 0).2) ≤ ((F_parts ap).length : Int)) ∧ E a' 52 [(1, .bool positive), (6, .slice out6L2A_294 (((F_negationNormal_L2 ap positive self (Int.toNat (((F_parts ap).length : Int) - 0) + 1) ([gS 2 0 ap 0, 0]) 0).1).length / 2 : Nat) out6L2C_294), (39, .slice b286 ((F_parts ap).length) c287), (40, .int .i64 ((F_parts ap).length : Int)), (41, .int .i64 ((F_negationNormal_L2 ap positive self (Int.toNat (((F_parts ap).length : Int) - 0) + 1) ([gS 2 0 ap 0, 0]) 0).2))] ∧ St w w' [.nest 32 2 none b286 c287 ((partRows apA apC ap).map (·.1)) (F_parts ap), .own 94 2 out6L2A_294 (((F_negationNormal_L2 ap positive self (Int.toNat (((F_parts ap).length : Int) - 0) + 1) ([gS 2 0 ap 0, 0]) 0).1).length / 2 : Nat) out6L2C_294 ((F_negationNormal_L2 ap positive self (Int.toNat (((F_parts ap).length : Int) - 0) + 1) ([gS 2 0 ap 0, 0]) 0).1), .rd 2 apA ((ap).length / 2 : Nat) apC ap]) ?_ ?_
      ·
       refine wp_block ?_
       refine c_loop (fun r a' w' => ∃ out6L2 : List Int, ∃ t41L2 : Int, ∃ out6L2A : Option Addr, ∃ out6L2C : Nat, F_negationNormal_L2 ap positive self r out6L2 t41L2 = F_negationNormal_L2 ap positive self (Int.toNat (((F_parts ap).length : Int) - 0) + 1) ([gS 2 0 ap 0, 0]) 0 ∧ Int.toNat (((F_parts ap).length : Int) - t41L2) < r ∧ (0 ≤ t41L2) ∧ ((out6L2.length : Int) ≤ 2 + t41L2 * 300) ∧ (t41L2 ≤ ((F_parts ap).length : Int)) ∧ E a' 52 [(1, .bool positive), (6, .slice out6L2A ((out6L2).length / 2 : Nat) out6L2C), (39, .slice b286 ((F_parts ap).length) c287), (40, .int .i64 ((F_parts ap).length : Int)), (41, .int .i64 t41L2)] ∧ St w w' [.nest 32 2 none b286 c287 ((partRows apA apC ap).map (·.1)) (F_parts ap), .own 94 2 out6L2A ((out6L2).length / 2 : Nat) out6L2C out6L2, .rd 2 apA ((ap).length / 2 : Nat) apC ap]) (r := (Int.toNat (((F_parts ap).length : Int) - 0) + 1)) ?_ ?_
       · exact ⟨[gS 2 0 ap 0, 0], 0, some ⟨b268, 0, none⟩, 1, rfl, Nat.lt_succ_self _, (by first | omega | (simp only [sS_len, sL_len]; omega) | (simp only [List.length_replicate, sI_len]; omega) | (simp only [List.length_append, List.length_cons, List.length_nil, sI_len, cond_true, cond_false]; omega) | (simp only [List.length_append, List.length_cons, List.length_nil, sI_len, cond_eq_ite, apply_ite List.length]; split <;> simp only [List.length_append, List.length_cons, List.length_nil, sI_len] <;> omega) | grind), (by first | omega | (simp only [sS_len, sL_len]; omega) | (simp only [List.length_replicate, sI_len]; omega) | (simp only [List.length_append, List.length_cons, List.length_nil, sI_len, cond_true, cond_false]; omega) | (simp only [List.length_append, List.length_cons, List.length_nil, sI_len, cond_eq_ite, apply_ite List.length]; split <;> simp only [List.length_append, List.length_cons, List.length_nil, sI_len] <;> omega) | grind), (by first | omega | (simp only [sS_len, sL_len]; omega) | (simp only [List.length_replicate, sI_len]; omega) | (simp only [List.length_append, List.length_cons, List.length_nil, sI_len, cond_true, cond_false]; omega) | (simp only [List.length_append, List.length_cons, List.length_nil, sI_len, cond_eq_ite, apply_ite List.length]; split <;> simp only [List.length_append, List.length_cons, List.length_nil, sI_len] <;> omega) | grind), (by rw [(show (([gS 2 0 ap 0, 0]).length / 2 : Nat) = 1 by simp)]; exact (hE293.sub (L' := [(1, .bool positive), (6, .slice (some ⟨b268, 0, none⟩) 1 1), (39, .slice b286 ((F_parts ap).length) c287), (40, .int .i64 ((F_parts ap).length : Int)), (41, .int .i64 0)]) ⟨rfl, rfl, rfl, rfl, rfl, trivial⟩)), (by rw [(show (([gS 2 0 ap 0, 0]).length / 2 : Nat) = 1 by simp)]; exact (St.pick (Γ' := [.nest 32 2 none b286 c287 ((partRows apA apC ap).map (·.1)) (F_parts ap), .own 94 2 (some ⟨b268, 0, none⟩) 1 1 ([gS 2 0 ap 0, 0]), .rd 2 apA ((ap).length / 2 : Nat) apC ap]) hS283 [0, 1, 2] (by decide) rfl))⟩
       ·
        clear hE293 hS283
        rintro r304 a295 w296 ⟨out6L2, t41L2, out6L2A, out6L2C, hT299, hr300, hi301, hi302, hi303, hE297, hS298⟩
        obtain ⟨r304, rfl⟩ : ∃ r', r304 = r' + 1 := ⟨r304 - 1, by omega⟩
        refine c_seq ?_
        refine c_reg ?_
        refine q_step (v := .bool (decide (t41L2 < ((F_parts ap).length : Int)))) hE297 (y_lss rfl rfl) rfl rfl rfl ?_; intro a305 hE306; clear hE297
        refine c_nil ?_
        have hE307 := hE306.sub (L' := [(1, .bool positive), (6, .slice out6L2A ((out6L2).length / 2 : Nat) out6L2C), (39, .slice b286 ((F_parts ap).length) c287), (40, .int .i64 ((F_parts ap).length : Int)), (41, .int .i64 t41L2), (42, .bool (decide (t41L2 < ((F_parts ap).length : Int))))]) ⟨rfl, rfl, rfl, rfl, rfl, rfl, trivial⟩; clear hE306
        refine p_tn ?_
        refine c_seq ?_
        refine c_cond hE307 rfl (fun ht308 => ?_) (fun ht308 => ?_)
        ·
         have hp309 := of_decide_eq_true ht308
         have hE310 := hE307; rw [ht308] at hE310; clear hE307
         have hrow := hpt.2 t41L2 (by omega) (by omega)
         refine wp_skip ?_
         refine p_tn ?_
         refine c_seq ?_
         refine wp_block ?_
         refine c_seq ?_
         refine c_reg ?_
         refine q_step (v := .pointer (some (adr b286 (Int.toNat t41L2)))) hE310 (y_idx (by kernel_rfl) (fun _ => by kernel_rfl) rfl rfl (RdN.isS (m := t41L2) (St.rdNo (i := 0) hS298 rfl) (by omega) (by omega)) (by omega) (by omega) (Nat.mul_one _).symm) rfl rfl rfl ?_; intro a311 hE312; clear hE310
         have hv313 : (0 : Int) ≤ t41L2 ∧ t41L2 < ((F_parts ap).length : Int) := ⟨(by omega), (by omega)⟩
         refine q_step (v := .slice (hdA ((partRows apA apC ap).map (·.1)) t41L2) ((gL (F_parts ap) t41L2).length / 2 : Nat) (hdC ((partRows apA apC ap).map (·.1)) t41L2)) hE312 (y_load (fun _ => by kernel_rfl) rfl (RdN.eltD (St.rdNo (i := 0) hS298 rfl) (by decide) (by omega) (by omega))) rfl rfl rfl ?_; intro a315 hE316; clear hE312
         refine q_step (v := .slice (hdA ((partRows apA apC ap).map (·.1)) t41L2) ((gL (F_parts ap) t41L2).length / 2 : Nat) (hdC ((partRows apA apC ap).map (·.1)) t41L2)) hE316 (y_assign rfl) rfl rfl rfl ?_; intro a317 hE318; clear hE316
         refine c_nil ?_
         have hE319 := hE318.sub (L' := [(1, .bool positive), (6, .slice out6L2A ((out6L2).length / 2 : Nat) out6L2C), (8, .slice (hdA ((partRows apA apC ap).map (·.1)) t41L2) ((gL (F_parts ap) t41L2).length / 2 : Nat) (hdC ((partRows apA apC ap).map (·.1)) t41L2)), (39, .slice b286 ((F_parts ap).length) c287), (40, .int .i64 ((F_parts ap).length : Int)), (41, .int .i64 t41L2)]) ⟨rfl, rfl, rfl, rfl, rfl, rfl, trivial⟩; clear hE318
         refine p_tn ?_
         refine c_reg ?_
         refine q_step (v := .slice out6L2A ((out6L2).length / 2 : Nat) out6L2C) hE319 (y_move rfl) rfl rfl rfl ?_; intro a320 hE321; clear hE319
         refine q_step (v := .slice (hdA ((partRows apA apC ap).map (·.1)) t41L2) ((gL (F_parts ap) t41L2).length / 2 : Nat) (hdC ((partRows apA apC ap).map (·.1)) t41L2)) hE321 (y_move rfl) rfl rfl rfl ?_; intro a322 hE323; clear hE321
         refine q_step (v := .bool positive) hE323 (y_move rfl) rfl rfl rfl ?_; intro a324 hE325; clear hE323
         have hr332 := (RdN.rowD (St.rdNo (i := 0) hS298 rfl) (by decide) hv313.1 hv313.2)
         have hc333 := ih (hdA ((partRows apA apC ap).map (·.1)) t41L2) ((gL (F_parts ap) t41L2).length / 2 : Nat) (hdC ((partRows apA apC ap).map (·.1)) t41L2) (gL (F_parts ap) t41L2) positive w296 hr332 (by have h := hrow.2; omega) hrow.1 (by have h := hrow.2; omega)
         refine l_step hE325 rfl (l_call (f := 89) (argv := [.slice (hdA ((partRows apA apC ap).map (·.1)) t41L2) ((gL (F_parts ap) t41L2).length / 2 : Nat) (hdC ((partRows apA apC ap).map (·.1)) t41L2), .bool positive]) hE325 (fun _ => cf_negationNormal _ _) rfl rfl (by exact hc333) ?_)
         rintro _ w327 ⟨b334, c335, rfl, ho336, he331⟩ a328 hE329; clear hE325
         have hf337 := hpost (gL (F_parts ap) t41L2) positive (by first | (have h := hrow.2; omega) | exact (Nat.le_trans (slI_le 2 _ _ _) hl)) (by first | (with_reducible exact hrow.1) | first | (with_reducible exact hi1.1) | (with_reducible exact hi1.2.1)) (by first | (have h := hrow.2; omega) | (have h := hi1.2.2; omega))
         have hS330 := St.own hS298 he331 ho336; clear hS298
         obtain ⟨_, hi1, hi2, hi3, hi4⟩ := info_parts (show (Try.prog.info? 94).map (fun i => (i.zero, i.size, i.bytes)) = some (some (.agg #[.int .i64 0, .int .i64 0]), 2, 16) by kernel_rfl)
         refine l_step hE329 rfl (l_append (k := 2) (n' := ((out6L2 ++ (self (gL (F_parts ap) t41L2) positive)).length / 2 : Nat)) hS330 hE329 (by kernel_rfl) hi1 hi2 hi3 rfl (by decide) (by rw [hi4]; decide) rfl rfl rfl (St.rdO (i := 0) hS330 rfl) (by first | omega | (simp only [List.length_append, List.length_cons, List.length_nil]; omega)) (by have h1 := (St.rdO (i := 2) hS330 rfl).1; have h2 := (St.rdO (i := 0) hS330 rfl).1; simp only [List.length_append, List.length_nil, List.length_cons] at h1 h2 ⊢; omega) rfl ?_)
         intro b338 c344 w339 hS342 a340 hE341; clear hS330 hE329 hi1 hi2 hi3 hi4
         refine q_step (v := .slice b338 ((out6L2 ++ (self (gL (F_parts ap) t41L2) positive)).length / 2 : Nat) c344) hE341 (y_assign rfl) rfl rfl rfl ?_; intro a345 hE346; clear hE341
         refine c_nil ?_
         have hE347 := hE346.sub (L' := [(1, .bool positive), (6, .slice b338 ((out6L2 ++ (self (gL (F_parts ap) t41L2) positive)).length / 2 : Nat) c344), (39, .slice b286 ((F_parts ap).length) c287), (40, .int .i64 ((F_parts ap).length : Int)), (41, .int .i64 t41L2)]) ⟨rfl, rfl, rfl, rfl, rfl, trivial⟩; clear hE346
         refine p_bn ?_
         refine p_tn ?_
         refine c_reg ?_
         refine q_step (v := .int .i64 (t41L2 + 1)) hE347 (y_add rfl rfl ⟨(by omega), (by omega)⟩) rfl rfl rfl ?_; intro a348 hE349; clear hE347
         refine q_step (v := .int .i64 (t41L2 + 1)) hE349 (y_move rfl) rfl rfl rfl ?_; intro a350 hE351; clear hE349
         refine c_nil ?_
         have hE352 := hE351.sub (L' := [(1, .bool positive), (6, .slice b338 ((out6L2 ++ (self (gL (F_parts ap) t41L2) positive)).length / 2 : Nat) c344), (39, .slice b286 ((F_parts ap).length) c287), (40, .int .i64 ((F_parts ap).length : Int)), (41, .int .i64 (t41L2 + 1))]) ⟨rfl, rfl, rfl, rfl, rfl, trivial⟩; clear hE351
         refine p_tn ⟨r304, Nat.lt_succ_self _, out6L2 ++ (self (gL (F_parts ap) t41L2) positive), t41L2 + 1, b338, c344, (hT299.symm.trans (show F_negationNormal_L2b ap positive self (F_negationNormal_L2 ap positive self r304) out6L2 t41L2 = F_negationNormal_L2 ap positive self r304 (out6L2 ++ (self (gL (F_parts ap) t41L2) positive)) (t41L2 + 1) by unfold F_negationNormal_L2b; rw [ht308]; first | done | rfl)).symm, (by omega), (by first | omega | (simp only [sS_len, sL_len]; omega) | (simp only [List.length_replicate, sI_len]; omega) | (simp only [List.length_append, List.length_cons, List.length_nil, sI_len, cond_true, cond_false]; omega) | (simp only [List.length_append, List.length_cons, List.length_nil, sI_len, cond_eq_ite, apply_ite List.length]; split <;> simp only [List.length_append, List.length_cons, List.length_nil, sI_len] <;> omega) | grind), (by first | omega | (simp only [sS_len, sL_len]; omega) | (simp only [List.length_replicate, sI_len]; omega) | (simp only [List.length_append, List.length_cons, List.length_nil, sI_len, cond_true, cond_false]; omega) | (simp only [List.length_append, List.length_cons, List.length_nil, sI_len, cond_eq_ite, apply_ite List.length]; split <;> simp only [List.length_append, List.length_cons, List.length_nil, sI_len] <;> omega) | grind), (by first | omega | (simp only [sS_len, sL_len]; omega) | (simp only [List.length_replicate, sI_len]; omega) | (simp only [List.length_append, List.length_cons, List.length_nil, sI_len, cond_true, cond_false]; omega) | (simp only [List.length_append, List.length_cons, List.length_nil, sI_len, cond_eq_ite, apply_ite List.length]; split <;> simp only [List.length_append, List.length_cons, List.length_nil, sI_len] <;> omega) | grind), (hE352.sub (L' := [(1, .bool positive), (6, .slice b338 ((out6L2 ++ (self (gL (F_parts ap) t41L2) positive)).length / 2 : Nat) c344), (39, .slice b286 ((F_parts ap).length) c287), (40, .int .i64 ((F_parts ap).length : Int)), (41, .int .i64 (t41L2 + 1))]) ⟨rfl, rfl, rfl, rfl, rfl, trivial⟩), (St.pick (Γ' := [.nest 32 2 none b286 c287 ((partRows apA apC ap).map (·.1)) (F_parts ap), .own 94 2 b338 ((out6L2 ++ (self (gL (F_parts ap) t41L2) positive)).length / 2 : Nat) c344 (out6L2 ++ (self (gL (F_parts ap) t41L2) positive)), .rd 2 apA ((ap).length / 2 : Nat) apC ap]) hS342 [1, 2, 3] (by decide) rfl)⟩
        ·
         have hp353 := of_decide_eq_false ht308
         have hE354 := hE307; rw [ht308] at hE354; clear hE307
         refine wp_exit ?_
         refine p_te ?_
         have hX355 : F_negationNormal_L2 ap positive self (Int.toNat (((F_parts ap).length : Int) - 0) + 1) ([gS 2 0 ap 0, 0]) 0 = (out6L2, t41L2) := hT299.symm.trans (show F_negationNormal_L2b ap positive self (F_negationNormal_L2 ap positive self r304) out6L2 t41L2 = (out6L2, t41L2) by unfold F_negationNormal_L2b; rw [ht308]; first | done | rfl)
         refine p_te (p_be (p_tn ?_))
         exact ⟨out6L2A, out6L2C, (by rw [hX355]; exact (show 0 ≤ t41L2 from (by first | omega | (simp only [sS_len, sL_len]; omega) | (simp only [List.length_replicate, sI_len]; omega) | (simp only [List.length_append, List.length_cons, List.length_nil, sI_len, cond_true, cond_false]; omega) | (simp only [List.length_append, List.length_cons, List.length_nil, sI_len, cond_eq_ite, apply_ite List.length]; split <;> simp only [List.length_append, List.length_cons, List.length_nil, sI_len] <;> omega) | grind))), (by rw [hX355]; exact (show (out6L2.length : Int) ≤ 2 + t41L2 * 300 from (by first | omega | (simp only [sS_len, sL_len]; omega) | (simp only [List.length_replicate, sI_len]; omega) | (simp only [List.length_append, List.length_cons, List.length_nil, sI_len, cond_true, cond_false]; omega) | (simp only [List.length_append, List.length_cons, List.length_nil, sI_len, cond_eq_ite, apply_ite List.length]; split <;> simp only [List.length_append, List.length_cons, List.length_nil, sI_len] <;> omega) | grind))), (by rw [hX355]; exact (show t41L2 ≤ ((F_parts ap).length : Int) from (by first | omega | (simp only [sS_len, sL_len]; omega) | (simp only [List.length_replicate, sI_len]; omega) | (simp only [List.length_append, List.length_cons, List.length_nil, sI_len, cond_true, cond_false]; omega) | (simp only [List.length_append, List.length_cons, List.length_nil, sI_len, cond_eq_ite, apply_ite List.length]; split <;> simp only [List.length_append, List.length_cons, List.length_nil, sI_len] <;> omega) | grind))), (by rw [hX355]; exact (hE354.sub (L' := [(1, .bool positive), (6, .slice out6L2A ((out6L2).length / 2 : Nat) out6L2C), (39, .slice b286 ((F_parts ap).length) c287), (40, .int .i64 ((F_parts ap).length : Int)), (41, .int .i64 t41L2)]) ⟨rfl, rfl, rfl, rfl, rfl, trivial⟩)), (by rw [hX355]; exact (St.pick (Γ' := [.nest 32 2 none b286 c287 ((partRows apA apC ap).map (·.1)) (F_parts ap), .own 94 2 out6L2A ((out6L2).length / 2 : Nat) out6L2C out6L2, .rd 2 apA ((ap).length / 2 : Nat) apC ap]) hS298 [0, 1, 2] (by decide) rfl))⟩
      ·
       rintro a356 w357 ⟨out6L2A_294, out6L2C_294, hi361, hi362, hi363, hE358, hS359⟩; clear hE293 hS283
       refine p_tn ?_
       refine c_seq ?_
       refine c_reg ?_
       refine q_step (v := .slice out6L2A_294 (((F_negationNormal_L2 ap positive self (Int.toNat (((F_parts ap).length : Int) - 0) + 1) ([gS 2 0 ap 0, 0]) 0).1).length / 2 : Nat) out6L2C_294) hE358 (y_move rfl) rfl rfl rfl ?_; intro a364 hE365; clear hE358
       refine q_step (v := .slice out6L2A_294 (((F_negationNormal_L2 ap positive self (Int.toNat (((F_parts ap).length : Int) - 0) + 1) ([gS 2 0 ap 0, 0]) 0).1).length / 2 : Nat) out6L2C_294) hE365 (y_assign rfl) rfl rfl rfl ?_; intro a366 hE367; clear hE365
       refine c_nil ?_
       have hE368 := hE367.sub (L' := [(4, .slice out6L2A_294 (((F_negationNormal_L2 ap positive self (Int.toNat (((F_parts ap).length : Int) - 0) + 1) ([gS 2 0 ap 0, 0]) 0).1).length / 2 : Nat) out6L2C_294)]) ⟨rfl, trivial⟩; clear hE367
       refine p_tn ?_
       refine wp_ret ?_
       have hF : F_negationNormal_b self ap positive = (F_negationNormal_L2 ap positive self (Int.toNat (((F_parts ap).length : Int) - 0) + 1) ([gS 2 0 ap 0, 0]) 0).1 := by unfold F_negationNormal_b; rw [ht142, ht115, ht71, ht24]; first | done | rfl
       refine c_ret1 hE368 rfl rfl ?_
       exact ⟨out6L2A_294, out6L2C_294, (by rw [hF]; first | done | (dsimp only; done) | rfl), (by rw [hF]; (try dsimp only); exact hS359.ok 1 _ rfl), hS359.ext⟩
theorem c_negationNormal_r : ∀ (r : Nat) (apA : Option Addr) (apN apC : Nat) (ap : List Int) (positive : Bool) (w : World) (apR : RdS w 2 apA apN apC ap) (hl : ap.length ≤ 100) (hf : IsFm ap) (hlt : ap.length < r), Calls Try.prog 89 #[.slice apA apN apC, .bool positive] w (Ret fun v w' => ∃ b1 : Option Addr, ∃ c1 : Nat, v = .slice b1 (((F_negationNormal_r r) ap positive).length / 2 : Nat) c1 ∧ OwnS w' w.heap.size 94 2 b1 (((F_negationNormal_r r) ap positive).length / 2 : Nat) c1 ((F_negationNormal_r r) ap positive) ∧ Ext w w') := by
  intro r
  induction r with
  | zero => intros; omega
  | succ r ih =>
    intro apA apN apC ap positive w apR hl hf hlt
    exact cb_negationNormal (F_negationNormal_r r) ap.length (fun ap positive hl hf hm => nnLen r ap positive hl hf (by omega)) apA apN apC ap positive w apR hl hf rfl (fun apA apN apC ap positive w apR hl hf hdec => ih apA apN apC ap positive w apR hl hf (by omega))
theorem c_negationNormal (apA : Option Addr) (apN apC : Nat) (ap : List Int) (positive : Bool) (w : World) (apR : RdS w 2 apA apN apC ap) (hl : ap.length ≤ 100) (hf : IsFm ap) :
    Calls Try.prog 89 #[.slice apA apN apC, .bool positive] w (Ret fun v w' => ∃ b1 : Option Addr, ∃ c1 : Nat, v = .slice b1 ((F_negationNormal ap positive).length / 2 : Nat) c1 ∧ OwnS w' w.heap.size 94 2 b1 ((F_negationNormal ap positive).length / 2 : Nat) c1 (F_negationNormal ap positive) ∧ Ext w w') := c_negationNormal_r (ap.length + 1) apA apN apC ap positive w apR hl hf (Nat.lt_succ_self _)

end Go.Proofs.Ytkilkfhjfobcdaa
