/- GDC: models and contracts, printed by wip/gen/gen.py -/
import Derived.Test.YtlbonhloeefnmaaKCNGAM2
import Derived.Test.YtlbonhloeefnmaaKCNGDF
import Derived.Test.YtlbonhloeefnmaaKCNGQF
import Derived.Test.YtlbonhloeefnmaaKCNGLB
import Derived.Test.YtlbonhloeefnmaaKCNPart
set_option linter.unusedVariables false
set_option linter.unusedSimpArgs false
namespace Go.Proofs.Ytlbonhloeefnmaa
open Go.RowKit
theorem Lf_pos : ∀ (d t : Nat), 1 ≤ Lf d t := by
  intro d
  induction d with
  | zero => intro t; exact Nat.le_refl _
  | succ d ih =>
    intro t
    rw [Lf_eq, LfS_succ]
    have := ih (max t (t + 1))
    omega
theorem l08Parts_pos {n : Int} (h0 : 0 ≤ n) (h1 : n ≤ 8) : 1 ≤ (F_l08Parts n [] 0 []).length ∧ (F_l08Parts n [] 0 []).length ≤ 4140 := by
  refine ⟨?_, l08Parts_len h0 h1⟩
  rw [l08Parts_eq h0, Dfs_len]
  exact Lf_pos _ _
/-- A list of classes, each at most one above those before it, t classes being there. -/
def OrdF : Nat → List Int → Prop
  | _, [] => True
  | t, y :: ys => 0 ≤ y ∧ y ≤ (t : Int) ∧ OrdF (max t (y.toNat + 1)) ys
theorem Dfs_mem : ∀ (d : Nat) (cs : List Int) (t : Nat) (ys : List Int), ys.length = d → OrdF t ys → cs ++ ys ∈ Dfs d cs t := by
  intro d
  induction d with
  | zero =>
    intro cs t ys hl _
    have : ys = [] := List.eq_nil_of_length_eq_zero hl
    rw [this, List.append_nil]
    exact List.mem_singleton.2 rfl
  | succ d ih =>
    intro cs t ys hl ho
    cases ys with
    | nil => simp at hl
    | cons y ys =>
      obtain ⟨h1, h2, h3⟩ := ho
      show cs ++ (y :: ys) ∈ (List.range (t + 1)).flatMap fun (k : Nat) => Dfs d (cs ++ [(k : Int)]) (max t (k + 1))
      rw [List.mem_flatMap]
      refine ⟨y.toNat, List.mem_range.2 (by omega), ?_⟩
      have := ih (cs ++ [((y.toNat : Nat) : Int)]) (max t (y.toNat + 1)) ys (by simpa using hl) h3
      rw [List.append_assoc] at this
      rw [show (y :: ys) = [((y.toNat : Nat) : Int)] ++ ys by rw [Int.toNat_of_nonneg h1]; rfl]
      exact this
theorem drop_gI {l : List Int} {i : Nat} (h : i < l.length) : l.drop i = gI l (i : Int) :: l.drop (i + 1) := by
  rw [List.drop_eq_getElem_cons h]
  congr 1
  unfold gI
  rw [Int.toNat_natCast]; exact (gi_get h).symm
theorem areCl_ord (list : List Int) : ∀ (k c i : Nat), list.length = i + k → (bif isOk (F_areClasses_L1 list (k + 1) (c : Int) (i : Int)) then true else errD (F_areClasses_L1 list (k + 1) (c : Int) (i : Int))) = true → OrdF c (list.drop i) := by
  intro k
  induction k with
  | zero =>
    intro c i hl _
    rw [List.drop_eq_nil_of_le (by omega)]; trivial
  | succ k ih =>
    intro c i hl h
    have e : F_areClasses_L1 list (k + 1 + 1) (c : Int) (i : Int) = bif (!(F_inRange (gI list (i : Int)) 0 (c : Int))) then (.error false) else (bif (decide ((gI list (i : Int)) = (c : Int))) then (F_areClasses_L1 list (k + 1) ((c + 1 : Nat) : Int) ((i + 1 : Nat) : Int)) else (F_areClasses_L1 list (k + 1) (c : Int) ((i + 1 : Nat) : Int))) := by
      show F_areClasses_L1b list _ (c : Int) (i : Int) = _
      unfold F_areClasses_L1b; rw [decide_eq_true (by omega), cond_true, show (i : Int) + 1 = ((i + 1 : Nat) : Int) by omega, show (c : Int) + 1 = ((c + 1 : Nat) : Int) by omega]
    rw [e] at h
    cases hr : F_inRange (gI list (i : Int)) 0 (c : Int)
    · rw [hr] at h; cases h
    · rw [hr, Bool.not_true, cond_false] at h
      have hb := F_inRange_t hr
      rw [drop_gI (by omega)]
      refine ⟨hb.1, hb.2, ?_⟩
      by_cases hd : gI list (i : Int) = (c : Int)
      · rw [decide_eq_true hd, cond_true] at h
        rw [show max c ((gI list (i : Int)).toNat + 1) = c + 1 by omega]
        exact ih (c + 1) (i + 1) (by omega) h
      · rw [decide_eq_false hd, cond_false] at h
        rw [show max c ((gI list (i : Int)).toNat + 1) = c by omega]
        exact ih c (i + 1) (by omega) h
theorem cong_mem {f0 : Int} {f1 x : List Int} (h0 : 0 ≤ f0) (h : F_l08Congruence f0 f1 x = true) : x ∈ F_l08Congruences f0 f1 := by
  rw [l08Congruences_eq f1 h0, List.mem_filter]
  refine ⟨?_, h⟩
  rw [l08Cong_eq, Bool.and_eq_true, l08Ordered_eq, Bool.and_eq_true, decide_eq_true_iff] at h
  have ha := h.1.2
  unfold F_areClasses at ha
  rw [show Int.toNat ((x.length : Int) - 0) = x.length by omega] at ha
  have ho := areCl_ord x x.length 0 0 (by omega) ha
  rw [List.drop_zero] at ho
  have := Dfs_mem f0.toNat [] 0 x (by omega) ho
  rwa [List.nil_append] at this
/-- Each world a class of its own. -/
def idsL (n : Nat) : List Int := (List.range n).map fun (k : Nat) => (k : Int)
theorem ids_gI {n k : Nat} (h : k < n) : gI (idsL n) (k : Int) = (k : Int) := gI_map h
theorem ids_len (n : Nat) : (idsL n).length = n := by unfold idsL; simp
theorem ids_cl (n : Nat) : F_areClasses (idsL n) = true := by
  have key : ∀ (k i : Nat), i + k = n → F_areClasses_L1 (idsL n) (k + 1) (i : Int) (i : Int) = .ok ((n : Int), (n : Int)) := by
    intro k
    induction k with
    | zero =>
      intro i h
      show F_areClasses_L1b (idsL n) _ (i : Int) (i : Int) = _
      unfold F_areClasses_L1b
      rw [ids_len, decide_eq_false (by omega), cond_false, show i = n by omega]
    | succ k ih =>
      intro i h
      show F_areClasses_L1b (idsL n) (F_areClasses_L1 (idsL n) (k + 1)) (i : Int) (i : Int) = _
      unfold F_areClasses_L1b
      have hr : F_inRange (i : Int) 0 (i : Int) = true := by unfold F_inRange; rw [decide_eq_true (by omega), decide_eq_true (by omega)]; rfl
      rw [ids_len, decide_eq_true (by omega), cond_true, ids_gI (by omega), hr, decide_eq_true rfl, Bool.not_true, cond_false, cond_true, show (i : Int) + 1 = ((i + 1 : Nat) : Int) by omega]
      exact ih (i + 1) (by omega)
  unfold F_areClasses
  rw [show Int.toNat (((idsL n).length : Int) - 0) = n by rw [ids_len]; omega]
  have := key n 0 (by omega)
  rw [show ((0 : Nat) : Int) = 0 from rfl] at this
  rw [this]; rfl
theorem ids_cong (n : Nat) (f1 : List Int) : F_l08Congruence (n : Int) f1 (idsL n) = true := by
  rw [l08Cong_eq, Bool.and_eq_true, l08Ordered_eq, Bool.and_eq_true, decide_eq_true_iff]
  refine ⟨⟨by rw [ids_len], ids_cl n⟩, ?_⟩
  rw [List.all_eq_true]
  intro x hx
  rw [List.all_eq_true]
  intro y hy
  have hx := List.mem_range.1 hx
  have hy := List.mem_range.1 hy
  rw [ids_len] at hx
  rw [ids_gI hx, ids_gI (by omega), decide_eq_false (by omega)]; rfl
theorem l08Cong_pos {f0 : Int} {f1 : List Int} (h : F_l05Is f0 f1 = true) : 1 ≤ (F_l08Congruences f0 f1).length ∧ (F_l08Congruences f0 f1).length ≤ 4140 := by
  have ht := l05Is_t h
  obtain ⟨n, rfl⟩ : ∃ n : Nat, f0 = (n : Int) := ⟨f0.toNat, by omega⟩
  have hm := cong_mem (f1 := f1) (x := idsL n) (by omega) (ids_cong n f1)
  refine ⟨List.length_pos_of_mem hm, ?_⟩
  rw [l08Congruences_eq f1 (by omega)]
  refine Nat.le_trans (List.length_filter_le _ _) ?_
  rw [Dfs_len]
  exact Lf8 (by omega) ht.1.2
theorem gL_or (xs : List (List Int)) (i : Int) : gL xs i = [] ∨ gL xs i ∈ xs := by
  by_cases h : i.toNat < xs.length
  · exact .inr (List.mem_of_getElem? (getD_some (l := xs) (k := i.toNat) (d := []) h))
  · left
    unfold gL
    show xs[i.toNat]?.getD [] = _
    rw [List.getElem?_eq_none (by omega)]; rfl
theorem parts_gl {n : Int} (h0 : 0 ≤ n) (h1 : n ≤ 8) (i : Int) : (gL (F_l08Parts n [] 0 []) i).length ≤ 8 := by
  rcases gL_or (F_l08Parts n [] 0 []) i with h | h
  · rw [h]; exact Nat.zero_le _
  · have h' := h
    rw [l08Parts_eq h0] at h'
    have := Dfs_row _ _ _ _ h'
    rw [l08Parts_eq h0]
    simp at this
    omega
theorem cong_gl {n : Int} (f1 : List Int) (h0 : 0 ≤ n) (h1 : n ≤ 8) (i : Int) : (gL (F_l08Congruences n f1) i).length ≤ 8 := by
  rcases gL_or (F_l08Congruences n f1) i with h | h
  · rw [h]; exact Nat.zero_le _
  · have h' := h
    rw [l08Congruences_eq f1 h0] at h'
    have := Dfs_row _ _ _ _ (List.mem_filter.1 h').1
    rw [l08Congruences_eq f1 h0]
    simp at this
    omega
def F_s_DrawIsCongruence (code : List Int) : (Int × List Int) × (List Int) :=
  bif (!(F_l05Is (((F_l05Draw code (F_l01From code) 6).1).1) (((F_l05Draw code (F_l01From code) 6).1).2))) then ((((F_l05Draw code (F_l01From code) 6).1).1, ((F_l05Draw code (F_l01From code) 6).1).2), []) else (bif (decide (((F_l01Next code ((F_l05Draw code (F_l01From code) 6).2) 3).1) = 0)) then (bif (decide (((F_l01Next code ((F_l01Next code ((F_l01Next code ((F_l05Draw code (F_l01From code) 6).2) 3).2) (((F_l08Parts (((F_l05Draw code (F_l01From code) 6).1).1) ([]) 0 ([]))).length : Int)).2) 12).1) = 0)) then (bif (decide (0 < ((gL (F_l08Parts (((F_l05Draw code (F_l01From code) 6).1).1) ([]) 0 ([])) ((F_l01Next code ((F_l01Next code ((F_l05Draw code (F_l01From code) 6).2) 3).2) (((F_l08Parts (((F_l05Draw code (F_l01From code) 6).1).1) ([]) 0 ([]))).length : Int)).1)).length : Int))) then ((((F_l05Draw code (F_l01From code) 6).1).1, ((F_l05Draw code (F_l01From code) 6).1).2), sI (gL (F_l08Parts (((F_l05Draw code (F_l01From code) 6).1).1) ([]) 0 ([])) ((F_l01Next code ((F_l01Next code ((F_l05Draw code (F_l01From code) 6).2) 3).2) (((F_l08Parts (((F_l05Draw code (F_l01From code) 6).1).1) ([]) 0 ([]))).length : Int)).1)) ((F_l01Next code ((F_l01Next code ((F_l01Next code ((F_l01Next code ((F_l05Draw code (F_l01From code) 6).2) 3).2) (((F_l08Parts (((F_l05Draw code (F_l01From code) 6).1).1) ([]) 0 ([]))).length : Int)).2) 12).2) ((gL (F_l08Parts (((F_l05Draw code (F_l01From code) 6).1).1) ([]) 0 ([])) ((F_l01Next code ((F_l01Next code ((F_l05Draw code (F_l01From code) 6).2) 3).2) (((F_l08Parts (((F_l05Draw code (F_l01From code) 6).1).1) ([]) 0 ([]))).length : Int)).1)).length : Int)).1) (((F_l01Next code ((F_l01Next code ((F_l01Next code ((F_l01Next code ((F_l01Next code ((F_l05Draw code (F_l01From code) 6).2) 3).2) (((F_l08Parts (((F_l05Draw code (F_l01From code) 6).1).1) ([]) 0 ([]))).length : Int)).2) 12).2) ((gL (F_l08Parts (((F_l05Draw code (F_l01From code) 6).1).1) ([]) 0 ([])) ((F_l01Next code ((F_l01Next code ((F_l05Draw code (F_l01From code) 6).2) 3).2) (((F_l08Parts (((F_l05Draw code (F_l01From code) 6).1).1) ([]) 0 ([]))).length : Int)).1)).length : Int)).2) 9).1) - 1)) else ((((F_l05Draw code (F_l01From code) 6).1).1, ((F_l05Draw code (F_l01From code) 6).1).2), (gL (F_l08Parts (((F_l05Draw code (F_l01From code) 6).1).1) ([]) 0 ([])) ((F_l01Next code ((F_l01Next code ((F_l05Draw code (F_l01From code) 6).2) 3).2) (((F_l08Parts (((F_l05Draw code (F_l01From code) 6).1).1) ([]) 0 ([]))).length : Int)).1)))) else ((((F_l05Draw code (F_l01From code) 6).1).1, ((F_l05Draw code (F_l01From code) 6).1).2), (gL (F_l08Parts (((F_l05Draw code (F_l01From code) 6).1).1) ([]) 0 ([])) ((F_l01Next code ((F_l01Next code ((F_l05Draw code (F_l01From code) 6).2) 3).2) (((F_l08Parts (((F_l05Draw code (F_l01From code) 6).1).1) ([]) 0 ([]))).length : Int)).1)))) else (bif (decide (((F_l01Next code ((F_l01Next code ((F_l01Next code ((F_l05Draw code (F_l01From code) 6).2) 3).2) ((F_l08Congruences (((F_l05Draw code (F_l01From code) 6).1).1) (((F_l05Draw code (F_l01From code) 6).1).2)).length : Int)).2) 12).1) = 0)) then (bif (decide (0 < ((gL (F_l08Congruences (((F_l05Draw code (F_l01From code) 6).1).1) (((F_l05Draw code (F_l01From code) 6).1).2)) ((F_l01Next code ((F_l01Next code ((F_l05Draw code (F_l01From code) 6).2) 3).2) ((F_l08Congruences (((F_l05Draw code (F_l01From code) 6).1).1) (((F_l05Draw code (F_l01From code) 6).1).2)).length : Int)).1)).length : Int))) then ((((F_l05Draw code (F_l01From code) 6).1).1, ((F_l05Draw code (F_l01From code) 6).1).2), sI (gL (F_l08Congruences (((F_l05Draw code (F_l01From code) 6).1).1) (((F_l05Draw code (F_l01From code) 6).1).2)) ((F_l01Next code ((F_l01Next code ((F_l05Draw code (F_l01From code) 6).2) 3).2) ((F_l08Congruences (((F_l05Draw code (F_l01From code) 6).1).1) (((F_l05Draw code (F_l01From code) 6).1).2)).length : Int)).1)) ((F_l01Next code ((F_l01Next code ((F_l01Next code ((F_l01Next code ((F_l05Draw code (F_l01From code) 6).2) 3).2) ((F_l08Congruences (((F_l05Draw code (F_l01From code) 6).1).1) (((F_l05Draw code (F_l01From code) 6).1).2)).length : Int)).2) 12).2) ((gL (F_l08Congruences (((F_l05Draw code (F_l01From code) 6).1).1) (((F_l05Draw code (F_l01From code) 6).1).2)) ((F_l01Next code ((F_l01Next code ((F_l05Draw code (F_l01From code) 6).2) 3).2) ((F_l08Congruences (((F_l05Draw code (F_l01From code) 6).1).1) (((F_l05Draw code (F_l01From code) 6).1).2)).length : Int)).1)).length : Int)).1) (((F_l01Next code ((F_l01Next code ((F_l01Next code ((F_l01Next code ((F_l01Next code ((F_l05Draw code (F_l01From code) 6).2) 3).2) ((F_l08Congruences (((F_l05Draw code (F_l01From code) 6).1).1) (((F_l05Draw code (F_l01From code) 6).1).2)).length : Int)).2) 12).2) ((gL (F_l08Congruences (((F_l05Draw code (F_l01From code) 6).1).1) (((F_l05Draw code (F_l01From code) 6).1).2)) ((F_l01Next code ((F_l01Next code ((F_l05Draw code (F_l01From code) 6).2) 3).2) ((F_l08Congruences (((F_l05Draw code (F_l01From code) 6).1).1) (((F_l05Draw code (F_l01From code) 6).1).2)).length : Int)).1)).length : Int)).2) 9).1) - 1)) else ((((F_l05Draw code (F_l01From code) 6).1).1, ((F_l05Draw code (F_l01From code) 6).1).2), (gL (F_l08Congruences (((F_l05Draw code (F_l01From code) 6).1).1) (((F_l05Draw code (F_l01From code) 6).1).2)) ((F_l01Next code ((F_l01Next code ((F_l05Draw code (F_l01From code) 6).2) 3).2) ((F_l08Congruences (((F_l05Draw code (F_l01From code) 6).1).1) (((F_l05Draw code (F_l01From code) 6).1).2)).length : Int)).1)))) else ((((F_l05Draw code (F_l01From code) 6).1).1, ((F_l05Draw code (F_l01From code) 6).1).2), (gL (F_l08Congruences (((F_l05Draw code (F_l01From code) 6).1).1) (((F_l05Draw code (F_l01From code) 6).1).2)) ((F_l01Next code ((F_l01Next code ((F_l05Draw code (F_l01From code) 6).2) 3).2) ((F_l08Congruences (((F_l05Draw code (F_l01From code) 6).1).1) (((F_l05Draw code (F_l01From code) 6).1).2)).length : Int)).1)))))
theorem cf_s_DrawIsCongruence (args : Array Value) (w : World) : (callFunc 110 args).run Try.prog w = .ok (.enter 110 args) w := by kernel_rfl
set_option maxRecDepth 100000 in
theorem c_s_DrawIsCongruence (codeA : Option Addr) (codeN codeC : Nat) (code : List Int) (w : World) (codeR : RdB w codeA codeN codeC code) :
    Calls Try.prog 110 #[.slice codeA code.length codeC] w (Ret fun v w' => ∃ b1 : Option Addr, ∃ c1 : Nat, ∃ b2 : Option Addr, ∃ c2 : Nat, v = .tuple #[.agg #[.int .i64 (((F_s_DrawIsCongruence code).1).1), .slice b1 (((F_s_DrawIsCongruence code).1).2).length c1], .slice b2 ((F_s_DrawIsCongruence code).2).length c2] ∧ Own2 w' w.heap.size 2 b1 (((F_s_DrawIsCongruence code).1).2).length c1 (((F_s_DrawIsCongruence code).1).2) b2 ((F_s_DrawIsCongruence code).2).length c2 ((F_s_DrawIsCongruence code).2) ∧ Ext w w') := by
  obtain rfl : codeN = code.length := codeR.len
  have codeLe := codeR.le
  have hS := St.nil w
  refine enter (args := [.slice codeA code.length codeC]) Try.func110 rfl rfl ?_
  rw [Try.ntmps110]; intro a hE
  have hE := hE.sub (L' := [(0, .slice codeA code.length codeC)]) ⟨rfl, trivial⟩
  refine c_seq ?_
  refine c_reg ?_
  refine l_step hE rfl (l_alloc (z := .agg #[.int .i64 0, .slice none 0 0]) (cs := #[.int .i64 0, .slice none 0 0]) hS hE (fun _ => by kernel_rfl) rfl rfl ?_)
  intro b1 w2 hS5 he6 a3 hE4; clear hS hE
  refine q_step (v := .slice none 0 0) hE4 (y_assign rfl) rfl rfl rfl ?_; intro a7 hE8; clear hE4
  refine c_nil ?_
  have hE9 := hE8.sub (L' := [(0, .slice codeA code.length codeC), (2, .pointer (some ⟨b1, 0, none⟩))]) ⟨rfl, rfl, trivial⟩; clear hE8
  refine p_tn ?_
  refine c_seq ?_
  refine c_reg ?_
  refine q_step (v := .slice codeA code.length codeC) hE9 (y_move rfl) rfl rfl rfl ?_; intro a10 hE11; clear hE9
  refine l_step hE11 rfl (l_call (f := 128) (argv := [.slice codeA code.length codeC]) hE11 (fun _ => cf_l01From _ _) rfl rfl (c_l01From codeA code.length codeC code w2 (codeR.ext hS5.ext)) ?_)
  rintro _ w13 ⟨b18, rfl, ho19⟩ a14 hE15; clear hE11
  have he17 := ho19.ext
  have hS16 := St.comp hS5 ho19 rfl; clear hS5
  simp only [List.cons_append, List.nil_append] at hS16
  refine q_step (v := .pointer (some ⟨b18, 0, none⟩)) hE15 (y_assign rfl) rfl rfl rfl ?_; intro a20 hE21; clear hE15
  refine c_nil ?_
  have hE22 := hE21.sub (L' := [(2, .pointer (some ⟨b1, 0, none⟩)), (4, .pointer (some ⟨b18, 0, none⟩))]) ⟨rfl, rfl, trivial⟩; clear hE21
  refine p_tn ?_
  refine c_seq ?_
  refine c_reg ?_
  refine q_step (v := .pointer (some ⟨b18, 0, none⟩)) hE22 (y_move rfl) rfl rfl rfl ?_; intro a23 hE24; clear hE22
  have hS31 := (St.pick (Γ' := [.blk b18 #[.slice codeA code.length codeC, .int .i64 (((F_l01From code).1 : Nat) : Int), .int .u64 ((F_l01From code).2)] 156, .blk b1 #[.int .i64 0, .slice none 0 0] 30]) hS16 [0, 1] (by decide) rfl); clear hS16
  refine l_step hE24 rfl (l_call (f := 134) (argv := [.pointer (some ⟨b18, 0, none⟩), .int .i64 6]) hE24 (fun _ => cf_l05Draw _ _) rfl rfl (c_l05Draw b18 codeA code.length codeC code (F_l01From code) 6 w13 w [.blk b1 #[.int .i64 0, .slice none 0 0] 30] hS31 codeR (by omega) (by omega)) ?_)
  rintro _ w26 ⟨b32, c33, rfl, hS29⟩ a27 hE28; clear hE24 hS31
  have hf34 := l05Draw_len codeR (F_l01From code) 6 (by omega) (by omega)
  refine l_step hE28 rfl (l_alloc (z := .agg #[.int .i64 0, .slice none 0 0]) (cs := #[.int .i64 0, .slice none 0 0]) hS29 hE28 (fun _ => by kernel_rfl) rfl rfl ?_)
  intro b35 w36 hS39 he40 a37 hE38; clear hS29 hE28
  refine l_step hE38 rfl (l_storeS (k := 0) (cs' := #[.int .i64 (((F_l05Draw code (F_l01From code) 6).1).1), .slice b32 ((((F_l05Draw code (F_l01From code) 6).1).2).length) c33]) hS39 hE38 (by kernel_rfl) rfl rfl (by kernel_rfl) rfl rfl ?_)
  intro w42 hS45 a43 hE44; clear hS39 hE38
  refine c_nil ?_
  have hE47 := hE44.sub (L' := [(2, .pointer (some ⟨b1, 0, none⟩)), (4, .pointer (some ⟨b18, 0, none⟩)), (5, .pointer (some ⟨b35, 0, none⟩))]) ⟨rfl, rfl, rfl, trivial⟩; clear hE44
  refine p_tn ?_
  refine c_seq ?_
  refine c_seq ?_
  refine c_reg ?_
  refine q_step (v := .agg #[.int .i64 (((F_l05Draw code (F_l01From code) 6).1).1), .slice b32 ((((F_l05Draw code (F_l01From code) 6).1).2).length) c33]) hE47 (y_loadS Try.underlying30 rfl (by kernel_rfl) rfl (St.row (i := 0) hS45 rfl)) rfl rfl rfl ?_; intro a48 hE49; clear hE47
  refine l_step hE49 rfl (l_call (f := 94) (argv := [.agg #[.int .i64 (((F_l05Draw code (F_l01From code) 6).1).1), .slice b32 ((((F_l05Draw code (F_l01From code) 6).1).2).length) c33]]) hE49 (fun _ => cf_l05Is _ _) rfl rfl (c_l05Is (((F_l05Draw code (F_l01From code) 6).1).1) b32 ((((F_l05Draw code (F_l01From code) 6).1).2).length) c33 (((F_l05Draw code (F_l01From code) 6).1).2) w42 (St.rdO (i := 1) hS45 rfl)) ?_)
  rintro _ w51 ⟨rfl, he55⟩ a52 hE53; clear hE49
  have hS54 := St.go hS45 he55; clear hS45
  refine q_step (v := .bool (!(F_l05Is (((F_l05Draw code (F_l01From code) 6).1).1) (((F_l05Draw code (F_l01From code) 6).1).2)))) hE53 (y_not rfl) rfl rfl rfl ?_; intro a56 hE57; clear hE53
  refine c_nil ?_
  have hE58 := hE57.sub (L' := [(2, .pointer (some ⟨b1, 0, none⟩)), (4, .pointer (some ⟨b18, 0, none⟩)), (5, .pointer (some ⟨b35, 0, none⟩)), (14, .bool (!(F_l05Is (((F_l05Draw code (F_l01From code) 6).1).1) (((F_l05Draw code (F_l01From code) 6).1).2))))]) ⟨rfl, rfl, rfl, rfl, trivial⟩; clear hE57
  refine p_tn ?_
  refine c_cond hE58 rfl (fun ht59 => ?_) (fun ht59 => ?_)
  ·
   have ht60 := bn_t ht59
   have hE61 := hE58; rw [ht59] at hE61; clear hE58
   refine c_seq ?_
   refine c_reg ?_
   refine q_step (v := .agg #[.int .i64 (((F_l05Draw code (F_l01From code) 6).1).1), .slice b32 ((((F_l05Draw code (F_l01From code) 6).1).2).length) c33]) hE61 (y_loadS Try.underlying30 rfl (by kernel_rfl) rfl (St.row (i := 0) hS54 rfl)) rfl rfl rfl ?_; intro a62 hE63; clear hE61
   refine l_step hE63 rfl (l_lit (e := 2) (s := 1) (xs := []) (vs := []) hS54 hE63 rfl (fun _ => by kernel_rfl) rfl rfl rfl ?_)
   intro b64 w65 hS68 he69 a66 hE67; clear hS54 hE63
   refine l_step hE67 rfl (l_storeS (k := 4) (cs' := #[.int .i64 (((F_l05Draw code (F_l01From code) 6).1).1), .slice b32 ((((F_l05Draw code (F_l01From code) 6).1).2).length) c33]) hS68 hE67 (by kernel_rfl) rfl rfl (by kernel_rfl) rfl rfl ?_)
   intro w71 hS74 a72 hE73; clear hS68 hE67
   refine q_step (v := .slice (some ⟨b64, 0, none⟩) 0 0) hE73 (y_assign rfl) rfl rfl rfl ?_; intro a76 hE77; clear hE73
   refine c_nil ?_
   have hE78 := hE77.sub (L' := [(2, .pointer (some ⟨b1, 0, none⟩)), (3, .slice (some ⟨b64, 0, none⟩) 0 0)]) ⟨rfl, rfl, trivial⟩; clear hE77
   refine p_tn ?_
   refine wp_ret ?_
   refine p_tr ?_
   have hF : F_s_DrawIsCongruence code = ((((F_l05Draw code (F_l01From code) 6).1).1, ((F_l05Draw code (F_l01From code) 6).1).2), []) := by unfold F_s_DrawIsCongruence; rw [ht59]; first | done | rfl
   refine c_retC2 hE78 rfl rfl rfl Try.underlying30 rfl (by kernel_rfl) (St.row (i := 4) hS74 rfl _ (Ext.refl _)) ?_
   exact ⟨b32, c33, some ⟨b64, 0, none⟩, 0, (by rw [hF]; first | rfl | (rw [(St.rdO (i := 0) hS74 rfl).len1])), (by rw [hF, (St.rdO (i := 0) hS74 rfl).len1]; exact St.own2 2 0 hS74 rfl rfl (by decide)), hS74.ext⟩
  ·
   have ht79 := bn_f ht59
   have hp80 := l05Is_t ht79
   have hE81 := hE58; rw [ht59] at hE81; clear hE58
   refine wp_skip ?_
   refine p_tn ?_
   refine c_seq ?_
   refine c_reg ?_
   refine q_step (v := .agg #[.int .i64 (((F_l05Draw code (F_l01From code) 6).1).1), .slice b32 ((((F_l05Draw code (F_l01From code) 6).1).2).length) c33]) hE81 (y_loadS Try.underlying30 rfl (by kernel_rfl) rfl (St.row (i := 0) hS54 rfl)) rfl rfl rfl ?_; intro a82 hE83; clear hE81
   refine l_step hE83 rfl (l_call (f := 108) (argv := [.agg #[.int .i64 (((F_l05Draw code (F_l01From code) 6).1).1), .slice b32 ((((F_l05Draw code (F_l01From code) 6).1).2).length) c33]]) hE83 (fun _ => cf_l08Congruences _ _) rfl rfl (c_l08Congruences (((F_l05Draw code (F_l01From code) 6).1).1) b32 ((((F_l05Draw code (F_l01From code) 6).1).2).length) c33 (((F_l05Draw code (F_l01From code) 6).1).2) w51 (St.rdO (i := 1) hS54 rfl) (by omega) (by omega) (l05Is_m (by assumption))) ?_)
   rintro _ w85 ⟨b90, c91, h92, rfl, hf94, ho93⟩ a86 hE87; clear hE83
   have he89 := ho93.ext
   have hf95 := l08Congruences_len (((F_l05Draw code (F_l01From code) 6).1).1) (((F_l05Draw code (F_l01From code) 6).1).2)
   have hcn := l08Cong_pos (f0 := (((F_l05Draw code (F_l01From code) 6).1).1)) (f1 := (((F_l05Draw code (F_l01From code) 6).1).2)) (by assumption)
   have hf96 := FrH.mono hf94 (hS54.ext.size)
   have hS88 := St.compF hS54 ho93 hf94; clear hS54
   refine q_step (v := .slice b90 ((F_l08Congruences (((F_l05Draw code (F_l01From code) 6).1).1) (((F_l05Draw code (F_l01From code) 6).1).2)).length) c91) hE87 (y_assign rfl) rfl rfl rfl ?_; intro a97 hE98; clear hE87
   refine c_nil ?_
   have hE99 := hE98.sub (L' := [(2, .pointer (some ⟨b1, 0, none⟩)), (4, .pointer (some ⟨b18, 0, none⟩)), (5, .pointer (some ⟨b35, 0, none⟩)), (6, .slice b90 ((F_l08Congruences (((F_l05Draw code (F_l01From code) 6).1).1) (((F_l05Draw code (F_l01From code) 6).1).2)).length) c91)]) ⟨rfl, rfl, rfl, rfl, trivial⟩; clear hE98
   refine p_tn ?_
   refine c_seq ?_
   refine c_seq ?_
   refine c_reg ?_
   refine q_step (v := .pointer (some ⟨b18, 0, none⟩)) hE99 (y_move rfl) rfl rfl rfl ?_; intro a100 hE101; clear hE99
   have hS108 := (St.pick (Γ' := [.blk b18 #[.slice codeA code.length codeC, .int .i64 ((((F_l05Draw code (F_l01From code) 6).2).1 : Nat) : Int), .int .u64 (((F_l05Draw code (F_l01From code) 6).2).2)] 156, .nest 22 1 none b90 c91 h92 (F_l08Congruences (((F_l05Draw code (F_l01From code) 6).1).1) (((F_l05Draw code (F_l01From code) 6).1).2)), .blk b35 #[.int .i64 (((F_l05Draw code (F_l01From code) 6).1).1), .slice b32 ((((F_l05Draw code (F_l01From code) 6).1).2).length) c33] 30, .own 2 1 b32 ((((F_l05Draw code (F_l01From code) 6).1).2).length) c33 (((F_l05Draw code (F_l01From code) 6).1).2), .blk b1 #[.int .i64 0, .slice none 0 0] 30]) hS88 [3, 0, 1, 2, 4] (by decide) rfl); clear hS88
   refine l_step hE101 rfl (l_call (f := 135) (argv := [.pointer (some ⟨b18, 0, none⟩), .int .i64 3]) hE101 (fun _ => cf_l01Next0 _ _) rfl rfl (c_l01Next b18 codeA code.length codeC code ((F_l05Draw code (F_l01From code) 6).2) 3 w85 w [.nest 22 1 none b90 c91 h92 (F_l08Congruences (((F_l05Draw code (F_l01From code) 6).1).1) (((F_l05Draw code (F_l01From code) 6).1).2)), .blk b35 #[.int .i64 (((F_l05Draw code (F_l01From code) 6).1).1), .slice b32 ((((F_l05Draw code (F_l01From code) 6).1).2).length) c33] 30, .own 2 1 b32 ((((F_l05Draw code (F_l01From code) 6).1).2).length) c33 (((F_l05Draw code (F_l01From code) 6).1).2), .blk b1 #[.int .i64 0, .slice none 0 0] 30] hS108 codeR) ?_)
   rintro _ w103 ⟨rfl, hS106⟩ a104 hE105; clear hE101 hS108
   have hf109 := l01Next_bd codeR ((F_l05Draw code (F_l01From code) 6).2) 3
   refine q_step (v := .bool (decide (((F_l01Next code ((F_l05Draw code (F_l01From code) 6).2) 3).1) = 0))) hE105 (y_eql rfl rfl) rfl rfl rfl ?_; intro a110 hE111; clear hE105
   refine c_nil ?_
   have hE112 := hE111.sub (L' := [(2, .pointer (some ⟨b1, 0, none⟩)), (4, .pointer (some ⟨b18, 0, none⟩)), (5, .pointer (some ⟨b35, 0, none⟩)), (6, .slice b90 ((F_l08Congruences (((F_l05Draw code (F_l01From code) 6).1).1) (((F_l05Draw code (F_l01From code) 6).1).2)).length) c91), (21, .bool (decide (((F_l01Next code ((F_l05Draw code (F_l01From code) 6).2) 3).1) = 0)))]) ⟨rfl, rfl, rfl, rfl, rfl, trivial⟩; clear hE111
   refine p_tn ?_
   refine c_cond hE112 rfl (fun ht113 => ?_) (fun ht113 => ?_)
   ·
    have hp114 := of_decide_eq_true ht113
    have hE115 := hE112; rw [ht113] at hE115; clear hE112
    refine c_reg ?_
    refine q_step (v := .pointer (some ⟨b35, 0, none⟩)) hE115 (y_field rfl (fun _ => by kernel_rfl)) rfl rfl rfl ?_; intro a116 hE117; clear hE115
    refine q_step (v := .int .i64 (((F_l05Draw code (F_l01From code) 6).1).1)) hE117 (y_load (fun _ => by kernel_rfl) rfl (St.cell (i := 2) hS106 rfl rfl)) rfl rfl rfl ?_; intro a118 hE119; clear hE117
    refine l_step hE119 rfl (l_lit (e := 2) (s := 1) (xs := []) (vs := []) hS106 hE119 rfl (fun _ => by kernel_rfl) rfl rfl rfl ?_)
    intro b120 w121 hS124 he125 a122 hE123; clear hS106 hE119
    refine l_step hE123 rfl (l_lit0N (e := 22) (t' := 2) (s := 1) hS124 hE123 (fun _ => by kernel_rfl) rfl ?_)
    intro b126 w127 hS130 he131 a128 hE129; clear hS124 hE123
    have hS138 := (St.pick (Γ' := [.own 2 1 (some ⟨b120, 0, none⟩) 0 0 ([]), .nest 22 1 (some 2) (some ⟨b126, 0, none⟩) 0 ([]) ([]), .blk b18 #[.slice codeA code.length codeC, .int .i64 ((((F_l01Next code ((F_l05Draw code (F_l01From code) 6).2) 3).2).1 : Nat) : Int), .int .u64 (((F_l01Next code ((F_l05Draw code (F_l01From code) 6).2) 3).2).2)] 156, .nest 22 1 none b90 c91 h92 (F_l08Congruences (((F_l05Draw code (F_l01From code) 6).1).1) (((F_l05Draw code (F_l01From code) 6).1).2)), .blk b35 #[.int .i64 (((F_l05Draw code (F_l01From code) 6).1).1), .slice b32 ((((F_l05Draw code (F_l01From code) 6).1).2).length) c33] 30, .own 2 1 b32 ((((F_l05Draw code (F_l01From code) 6).1).2).length) c33 (((F_l05Draw code (F_l01From code) 6).1).2), .blk b1 #[.int .i64 0, .slice none 0 0] 30]) hS130 [1, 0, 2, 3, 4, 5, 6] (by decide) rfl); clear hS130
    have hc139 := c_l08Parts (((F_l05Draw code (F_l01From code) 6).1).1) (some ⟨b120, 0, none⟩) 0 0 ([]) 0 (some ⟨b126, 0, none⟩) 0 ([]) ([]) w127 w [.blk b18 #[.slice codeA code.length codeC, .int .i64 ((((F_l01Next code ((F_l05Draw code (F_l01From code) 6).2) 3).2).1 : Nat) : Int), .int .u64 (((F_l01Next code ((F_l05Draw code (F_l01From code) 6).2) 3).2).2)] 156, .nest 22 1 none b90 c91 h92 (F_l08Congruences (((F_l05Draw code (F_l01From code) 6).1).1) (((F_l05Draw code (F_l01From code) 6).1).2)), .blk b35 #[.int .i64 (((F_l05Draw code (F_l01From code) 6).1).1), .slice b32 ((((F_l05Draw code (F_l01From code) 6).1).2).length) c33] 30, .own 2 1 b32 ((((F_l05Draw code (F_l01From code) 6).1).2).length) c33 (((F_l05Draw code (F_l01From code) 6).1).2), .blk b1 #[.int .i64 0, .slice none 0 0] 30] hS138 (by omega) (by simp; omega) (by simp) (by have h8 := Lf8 (n := (((F_l05Draw code (F_l01From code) 6).1).1)) (by omega) (by omega); simp; omega)
    refine l_step hE129 rfl (l_call (f := 189) (argv := [.int .i64 (((F_l05Draw code (F_l01From code) 6).1).1), .slice (some ⟨b120, 0, none⟩) 0 0, .int .i64 0, .slice (some ⟨b126, 0, none⟩) 0 0]) hE129 (fun _ => cf_l08Parts _ _) rfl rfl (by exact hc139) ?_)
    rintro _ w133 ⟨b140, c141, h142, rfl, hS136⟩ a134 hE135; clear hE129 hc139
    have hpn := l08Parts_pos (n := (((F_l05Draw code (F_l01From code) 6).1).1)) (by omega) (by omega)
    refine q_step (v := .slice b140 (((F_l08Parts (((F_l05Draw code (F_l01From code) 6).1).1) ([]) 0 ([]))).length) c141) hE135 (y_assign rfl) rfl rfl rfl ?_; intro a143 hE144; clear hE135
    refine c_nil ?_
    have hE145 := hE144.sub (L' := [(2, .pointer (some ⟨b1, 0, none⟩)), (4, .pointer (some ⟨b18, 0, none⟩)), (5, .pointer (some ⟨b35, 0, none⟩)), (6, .slice b140 (((F_l08Parts (((F_l05Draw code (F_l01From code) 6).1).1) ([]) 0 ([]))).length) c141)]) ⟨rfl, rfl, rfl, rfl, trivial⟩; clear hE144
    refine p_tn ?_
    refine c_seq ?_
    refine c_reg ?_
    refine q_step (v := .slice b140 (((F_l08Parts (((F_l05Draw code (F_l01From code) 6).1).1) ([]) 0 ([]))).length) c141) hE145 (y_move rfl) rfl rfl rfl ?_; intro a146 hE147; clear hE145
    refine q_step (v := .pointer (some ⟨b18, 0, none⟩)) hE147 (y_move rfl) rfl rfl rfl ?_; intro a148 hE149; clear hE147
    refine q_step (v := .slice b140 (((F_l08Parts (((F_l05Draw code (F_l01From code) 6).1).1) ([]) 0 ([]))).length) c141) hE149 (y_move rfl) rfl rfl rfl ?_; intro a150 hE151; clear hE149
    refine q_step (v := .int .i64 (((F_l08Parts (((F_l05Draw code (F_l01From code) 6).1).1) ([]) 0 ([]))).length : Int)) hE151 (y_len (e := 22) (by kernel_rfl) rfl) rfl rfl rfl ?_; intro a152 hE153; clear hE151
    have hS160 := (St.pick (Γ' := [.blk b18 #[.slice codeA code.length codeC, .int .i64 ((((F_l01Next code ((F_l05Draw code (F_l01From code) 6).2) 3).2).1 : Nat) : Int), .int .u64 (((F_l01Next code ((F_l05Draw code (F_l01From code) 6).2) 3).2).2)] 156, .nest 22 1 (some 2) b140 c141 h142 (F_l08Parts (((F_l05Draw code (F_l01From code) 6).1).1) ([]) 0 ([])), .nest 22 1 none b90 c91 h92 (F_l08Congruences (((F_l05Draw code (F_l01From code) 6).1).1) (((F_l05Draw code (F_l01From code) 6).1).2)), .blk b35 #[.int .i64 (((F_l05Draw code (F_l01From code) 6).1).1), .slice b32 ((((F_l05Draw code (F_l01From code) 6).1).2).length) c33] 30, .own 2 1 b32 ((((F_l05Draw code (F_l01From code) 6).1).2).length) c33 (((F_l05Draw code (F_l01From code) 6).1).2), .blk b1 #[.int .i64 0, .slice none 0 0] 30]) hS136 [1, 0, 2, 3, 4, 5] (by decide) rfl); clear hS136
    refine l_step hE153 rfl (l_call (f := 135) (argv := [.pointer (some ⟨b18, 0, none⟩), .int .i64 (((F_l08Parts (((F_l05Draw code (F_l01From code) 6).1).1) ([]) 0 ([]))).length : Int)]) hE153 (fun _ => cf_l01Next0 _ _) rfl rfl (c_l01Next b18 codeA code.length codeC code ((F_l01Next code ((F_l05Draw code (F_l01From code) 6).2) 3).2) (((F_l08Parts (((F_l05Draw code (F_l01From code) 6).1).1) ([]) 0 ([]))).length : Int) w133 w [.nest 22 1 (some 2) b140 c141 h142 (F_l08Parts (((F_l05Draw code (F_l01From code) 6).1).1) ([]) 0 ([])), .nest 22 1 none b90 c91 h92 (F_l08Congruences (((F_l05Draw code (F_l01From code) 6).1).1) (((F_l05Draw code (F_l01From code) 6).1).2)), .blk b35 #[.int .i64 (((F_l05Draw code (F_l01From code) 6).1).1), .slice b32 ((((F_l05Draw code (F_l01From code) 6).1).2).length) c33] 30, .own 2 1 b32 ((((F_l05Draw code (F_l01From code) 6).1).2).length) c33 (((F_l05Draw code (F_l01From code) 6).1).2), .blk b1 #[.int .i64 0, .slice none 0 0] 30] hS160 codeR) ?_)
    rintro _ w155 ⟨rfl, hS158⟩ a156 hE157; clear hE153 hS160
    have hf161 := l01Next_bd codeR ((F_l01Next code ((F_l05Draw code (F_l01From code) 6).2) 3).2) (((F_l08Parts (((F_l05Draw code (F_l01From code) 6).1).1) ([]) 0 ([]))).length : Int)
    refine q_step (v := .pointer (some (adr b140 (Int.toNat ((F_l01Next code ((F_l01Next code ((F_l05Draw code (F_l01From code) 6).2) 3).2) (((F_l08Parts (((F_l05Draw code (F_l01From code) 6).1).1) ([]) 0 ([]))).length : Int)).1))))) hE157 (y_idx (by kernel_rfl) (fun _ => by kernel_rfl) rfl rfl (RdN.isS (m := (F_l01Next code ((F_l01Next code ((F_l05Draw code (F_l01From code) 6).2) 3).2) (((F_l08Parts (((F_l05Draw code (F_l01From code) 6).1).1) ([]) 0 ([]))).length : Int)).1) (St.rdNo (i := 1) hS158 rfl) (by omega) (by omega)) (by omega) (by omega) (Nat.mul_one _).symm) rfl rfl rfl ?_; intro a162 hE163; clear hE157
    have hv164 : (0 : Int) ≤ ((F_l01Next code ((F_l01Next code ((F_l05Draw code (F_l01From code) 6).2) 3).2) (((F_l08Parts (((F_l05Draw code (F_l01From code) 6).1).1) ([]) 0 ([]))).length : Int)).1) ∧ ((F_l01Next code ((F_l01Next code ((F_l05Draw code (F_l01From code) 6).2) 3).2) (((F_l08Parts (((F_l05Draw code (F_l01From code) 6).1).1) ([]) 0 ([]))).length : Int)).1) < (((F_l08Parts (((F_l05Draw code (F_l01From code) 6).1).1) ([]) 0 ([]))).length : Int) := ⟨(by omega), (by omega)⟩
    refine q_step (v := .slice (hdA h142 ((F_l01Next code ((F_l01Next code ((F_l05Draw code (F_l01From code) 6).2) 3).2) (((F_l08Parts (((F_l05Draw code (F_l01From code) 6).1).1) ([]) 0 ([]))).length : Int)).1)) ((gL (F_l08Parts (((F_l05Draw code (F_l01From code) 6).1).1) ([]) 0 ([])) ((F_l01Next code ((F_l01Next code ((F_l05Draw code (F_l01From code) 6).2) 3).2) (((F_l08Parts (((F_l05Draw code (F_l01From code) 6).1).1) ([]) 0 ([]))).length : Int)).1)).length) (hdC h142 ((F_l01Next code ((F_l01Next code ((F_l05Draw code (F_l01From code) 6).2) 3).2) (((F_l08Parts (((F_l05Draw code (F_l01From code) 6).1).1) ([]) 0 ([]))).length : Int)).1))) hE163 (y_load (fun _ => by kernel_rfl) rfl (RdN.elt1 (St.rdNo (i := 1) hS158 rfl) (by omega) (by omega))) rfl rfl rfl ?_; intro a166 hE167; clear hE163
    refine l_step hE167 rfl (l_call (f := 140) (argv := [.slice (hdA h142 ((F_l01Next code ((F_l01Next code ((F_l05Draw code (F_l01From code) 6).2) 3).2) (((F_l08Parts (((F_l05Draw code (F_l01From code) 6).1).1) ([]) 0 ([]))).length : Int)).1)) ((gL (F_l08Parts (((F_l05Draw code (F_l01From code) 6).1).1) ([]) 0 ([])) ((F_l01Next code ((F_l01Next code ((F_l05Draw code (F_l01From code) 6).2) 3).2) (((F_l08Parts (((F_l05Draw code (F_l01From code) 6).1).1) ([]) 0 ([]))).length : Int)).1)).length) (hdC h142 ((F_l01Next code ((F_l01Next code ((F_l05Draw code (F_l01From code) 6).2) 3).2) (((F_l08Parts (((F_l05Draw code (F_l01From code) 6).1).1) ([]) 0 ([]))).length : Int)).1))]) hE167 (fun _ => cf_l01Own _ _) rfl rfl (d_l01Own (hdA h142 ((F_l01Next code ((F_l01Next code ((F_l05Draw code (F_l01From code) 6).2) 3).2) (((F_l08Parts (((F_l05Draw code (F_l01From code) 6).1).1) ([]) 0 ([]))).length : Int)).1)) ((gL (F_l08Parts (((F_l05Draw code (F_l01From code) 6).1).1) ([]) 0 ([])) ((F_l01Next code ((F_l01Next code ((F_l05Draw code (F_l01From code) 6).2) 3).2) (((F_l08Parts (((F_l05Draw code (F_l01From code) 6).1).1) ([]) 0 ([]))).length : Int)).1)).length) (hdC h142 ((F_l01Next code ((F_l01Next code ((F_l05Draw code (F_l01From code) 6).2) 3).2) (((F_l08Parts (((F_l05Draw code (F_l01From code) 6).1).1) ([]) 0 ([]))).length : Int)).1)) (gL (F_l08Parts (((F_l05Draw code (F_l01From code) 6).1).1) ([]) 0 ([])) ((F_l01Next code ((F_l01Next code ((F_l05Draw code (F_l01From code) 6).2) 3).2) (((F_l08Parts (((F_l05Draw code (F_l01From code) 6).1).1) ([]) 0 ([]))).length : Int)).1)) w155 (RdN.row1 (St.rdNo (i := 1) hS158 rfl) hv164.1 hv164.2) (by first | omega | exact Nat.le_trans (parts_gl (by omega) (by omega) _) (by decide) | exact Nat.le_trans (cong_gl _ (by omega) (by omega) _) (by decide))) ?_)
    rintro _ w169 ⟨b174, c175, rfl, ho176, he173⟩ a170 hE171; clear hE167
    have hS172 := St.own hS158 he173 ho176; clear hS158
    refine q_step (v := .slice b174 ((gL (F_l08Parts (((F_l05Draw code (F_l01From code) 6).1).1) ([]) 0 ([])) ((F_l01Next code ((F_l01Next code ((F_l05Draw code (F_l01From code) 6).2) 3).2) (((F_l08Parts (((F_l05Draw code (F_l01From code) 6).1).1) ([]) 0 ([]))).length : Int)).1)).length) c175) hE171 (y_assign rfl) rfl rfl rfl ?_; intro a177 hE178; clear hE171
    refine c_nil ?_
    have hE179 := hE178.sub (L' := [(2, .pointer (some ⟨b1, 0, none⟩)), (4, .pointer (some ⟨b18, 0, none⟩)), (5, .pointer (some ⟨b35, 0, none⟩)), (7, .slice b174 ((gL (F_l08Parts (((F_l05Draw code (F_l01From code) 6).1).1) ([]) 0 ([])) ((F_l01Next code ((F_l01Next code ((F_l05Draw code (F_l01From code) 6).2) 3).2) (((F_l08Parts (((F_l05Draw code (F_l01From code) 6).1).1) ([]) 0 ([]))).length : Int)).1)).length) c175)]) ⟨rfl, rfl, rfl, rfl, trivial⟩; clear hE178
    refine p_tn ?_
    refine c_seq ?_
    refine c_seq ?_
    refine c_reg ?_
    refine q_step (v := .pointer (some ⟨b18, 0, none⟩)) hE179 (y_move rfl) rfl rfl rfl ?_; intro a180 hE181; clear hE179
    have hS188 := (St.pick (Γ' := [.blk b18 #[.slice codeA code.length codeC, .int .i64 ((((F_l01Next code ((F_l01Next code ((F_l05Draw code (F_l01From code) 6).2) 3).2) (((F_l08Parts (((F_l05Draw code (F_l01From code) 6).1).1) ([]) 0 ([]))).length : Int)).2).1 : Nat) : Int), .int .u64 (((F_l01Next code ((F_l01Next code ((F_l05Draw code (F_l01From code) 6).2) 3).2) (((F_l08Parts (((F_l05Draw code (F_l01From code) 6).1).1) ([]) 0 ([]))).length : Int)).2).2)] 156, .own 2 1 b174 ((gL (F_l08Parts (((F_l05Draw code (F_l01From code) 6).1).1) ([]) 0 ([])) ((F_l01Next code ((F_l01Next code ((F_l05Draw code (F_l01From code) 6).2) 3).2) (((F_l08Parts (((F_l05Draw code (F_l01From code) 6).1).1) ([]) 0 ([]))).length : Int)).1)).length) c175 (gL (F_l08Parts (((F_l05Draw code (F_l01From code) 6).1).1) ([]) 0 ([])) ((F_l01Next code ((F_l01Next code ((F_l05Draw code (F_l01From code) 6).2) 3).2) (((F_l08Parts (((F_l05Draw code (F_l01From code) 6).1).1) ([]) 0 ([]))).length : Int)).1)), .nest 22 1 (some 2) b140 c141 h142 (F_l08Parts (((F_l05Draw code (F_l01From code) 6).1).1) ([]) 0 ([])), .nest 22 1 none b90 c91 h92 (F_l08Congruences (((F_l05Draw code (F_l01From code) 6).1).1) (((F_l05Draw code (F_l01From code) 6).1).2)), .blk b35 #[.int .i64 (((F_l05Draw code (F_l01From code) 6).1).1), .slice b32 ((((F_l05Draw code (F_l01From code) 6).1).2).length) c33] 30, .own 2 1 b32 ((((F_l05Draw code (F_l01From code) 6).1).2).length) c33 (((F_l05Draw code (F_l01From code) 6).1).2), .blk b1 #[.int .i64 0, .slice none 0 0] 30]) hS172 [1, 0, 2, 3, 4, 5, 6] (by decide) rfl); clear hS172
    refine l_step hE181 rfl (l_call (f := 135) (argv := [.pointer (some ⟨b18, 0, none⟩), .int .i64 12]) hE181 (fun _ => cf_l01Next0 _ _) rfl rfl (c_l01Next b18 codeA code.length codeC code ((F_l01Next code ((F_l01Next code ((F_l05Draw code (F_l01From code) 6).2) 3).2) (((F_l08Parts (((F_l05Draw code (F_l01From code) 6).1).1) ([]) 0 ([]))).length : Int)).2) 12 w169 w [.own 2 1 b174 ((gL (F_l08Parts (((F_l05Draw code (F_l01From code) 6).1).1) ([]) 0 ([])) ((F_l01Next code ((F_l01Next code ((F_l05Draw code (F_l01From code) 6).2) 3).2) (((F_l08Parts (((F_l05Draw code (F_l01From code) 6).1).1) ([]) 0 ([]))).length : Int)).1)).length) c175 (gL (F_l08Parts (((F_l05Draw code (F_l01From code) 6).1).1) ([]) 0 ([])) ((F_l01Next code ((F_l01Next code ((F_l05Draw code (F_l01From code) 6).2) 3).2) (((F_l08Parts (((F_l05Draw code (F_l01From code) 6).1).1) ([]) 0 ([]))).length : Int)).1)), .nest 22 1 (some 2) b140 c141 h142 (F_l08Parts (((F_l05Draw code (F_l01From code) 6).1).1) ([]) 0 ([])), .nest 22 1 none b90 c91 h92 (F_l08Congruences (((F_l05Draw code (F_l01From code) 6).1).1) (((F_l05Draw code (F_l01From code) 6).1).2)), .blk b35 #[.int .i64 (((F_l05Draw code (F_l01From code) 6).1).1), .slice b32 ((((F_l05Draw code (F_l01From code) 6).1).2).length) c33] 30, .own 2 1 b32 ((((F_l05Draw code (F_l01From code) 6).1).2).length) c33 (((F_l05Draw code (F_l01From code) 6).1).2), .blk b1 #[.int .i64 0, .slice none 0 0] 30] hS188 codeR) ?_)
    rintro _ w183 ⟨rfl, hS186⟩ a184 hE185; clear hE181 hS188
    have hf189 := l01Next_bd codeR ((F_l01Next code ((F_l01Next code ((F_l05Draw code (F_l01From code) 6).2) 3).2) (((F_l08Parts (((F_l05Draw code (F_l01From code) 6).1).1) ([]) 0 ([]))).length : Int)).2) 12
    refine q_step (v := .bool (decide (((F_l01Next code ((F_l01Next code ((F_l01Next code ((F_l05Draw code (F_l01From code) 6).2) 3).2) (((F_l08Parts (((F_l05Draw code (F_l01From code) 6).1).1) ([]) 0 ([]))).length : Int)).2) 12).1) = 0))) hE185 (y_eql rfl rfl) rfl rfl rfl ?_; intro a190 hE191; clear hE185
    refine q_step (v := .bool (decide (((F_l01Next code ((F_l01Next code ((F_l01Next code ((F_l05Draw code (F_l01From code) 6).2) 3).2) (((F_l08Parts (((F_l05Draw code (F_l01From code) 6).1).1) ([]) 0 ([]))).length : Int)).2) 12).1) = 0))) hE191 (y_move rfl) rfl rfl rfl ?_; intro a192 hE193; clear hE191
    rcases Bool.eq_false_or_eq_true (decide (((F_l01Next code ((F_l01Next code ((F_l01Next code ((F_l05Draw code (F_l01From code) 6).2) 3).2) (((F_l08Parts (((F_l05Draw code (F_l01From code) 6).1).1) ([]) 0 ([]))).length : Int)).2) 12).1) = 0)) with hb194 | hb194
    ·
     have hE195 := hE193; (try rw [hb194] at hE195); clear hE193
     have hp196 := of_decide_eq_true hb194
     refine q_step (v := .slice b174 ((gL (F_l08Parts (((F_l05Draw code (F_l01From code) 6).1).1) ([]) 0 ([])) ((F_l01Next code ((F_l01Next code ((F_l05Draw code (F_l01From code) 6).2) 3).2) (((F_l08Parts (((F_l05Draw code (F_l01From code) 6).1).1) ([]) 0 ([]))).length : Int)).1)).length) c175) hE195 (y_move rfl) rfl rfl rfl ?_; intro a197 hE198; clear hE195
     refine q_step (v := .int .i64 ((gL (F_l08Parts (((F_l05Draw code (F_l01From code) 6).1).1) ([]) 0 ([])) ((F_l01Next code ((F_l01Next code ((F_l05Draw code (F_l01From code) 6).2) 3).2) (((F_l08Parts (((F_l05Draw code (F_l01From code) 6).1).1) ([]) 0 ([]))).length : Int)).1)).length : Int)) hE198 (y_len (e := 2) (by kernel_rfl) rfl) rfl rfl rfl ?_; intro a199 hE200; clear hE198
     refine q_step (v := .bool (decide (0 < ((gL (F_l08Parts (((F_l05Draw code (F_l01From code) 6).1).1) ([]) 0 ([])) ((F_l01Next code ((F_l01Next code ((F_l05Draw code (F_l01From code) 6).2) 3).2) (((F_l08Parts (((F_l05Draw code (F_l01From code) 6).1).1) ([]) 0 ([]))).length : Int)).1)).length : Int)))) hE200 (y_gtr rfl rfl) rfl rfl rfl ?_; intro a201 hE202; clear hE200
     refine q_step (v := .bool (decide (0 < ((gL (F_l08Parts (((F_l05Draw code (F_l01From code) 6).1).1) ([]) 0 ([])) ((F_l01Next code ((F_l01Next code ((F_l05Draw code (F_l01From code) 6).2) 3).2) (((F_l08Parts (((F_l05Draw code (F_l01From code) 6).1).1) ([]) 0 ([]))).length : Int)).1)).length : Int)))) hE202 (y_pick (b := true) rfl rfl) rfl rfl rfl ?_; intro a203 hE204; clear hE202
     refine c_nil ?_
     have hE205 := hE204.sub (L' := [(2, .pointer (some ⟨b1, 0, none⟩)), (4, .pointer (some ⟨b18, 0, none⟩)), (5, .pointer (some ⟨b35, 0, none⟩)), (7, .slice b174 ((gL (F_l08Parts (((F_l05Draw code (F_l01From code) 6).1).1) ([]) 0 ([])) ((F_l01Next code ((F_l01Next code ((F_l05Draw code (F_l01From code) 6).2) 3).2) (((F_l08Parts (((F_l05Draw code (F_l01From code) 6).1).1) ([]) 0 ([]))).length : Int)).1)).length) c175), (42, .bool (decide (0 < ((gL (F_l08Parts (((F_l05Draw code (F_l01From code) 6).1).1) ([]) 0 ([])) ((F_l01Next code ((F_l01Next code ((F_l05Draw code (F_l01From code) 6).2) 3).2) (((F_l08Parts (((F_l05Draw code (F_l01From code) 6).1).1) ([]) 0 ([]))).length : Int)).1)).length : Int))))]) ⟨rfl, rfl, rfl, rfl, rfl, trivial⟩; clear hE204
     refine p_tn ?_
     refine c_cond hE205 rfl (fun ht206 => ?_) (fun ht206 => ?_)
     ·
      have hp207 := of_decide_eq_true ht206
      have hE208 := hE205; rw [ht206] at hE208; clear hE205
      refine c_reg ?_
      refine q_step (v := .slice b174 ((gL (F_l08Parts (((F_l05Draw code (F_l01From code) 6).1).1) ([]) 0 ([])) ((F_l01Next code ((F_l01Next code ((F_l05Draw code (F_l01From code) 6).2) 3).2) (((F_l08Parts (((F_l05Draw code (F_l01From code) 6).1).1) ([]) 0 ([]))).length : Int)).1)).length) c175) hE208 (y_move rfl) rfl rfl rfl ?_; intro a209 hE210; clear hE208
      refine q_step (v := .pointer (some ⟨b18, 0, none⟩)) hE210 (y_move rfl) rfl rfl rfl ?_; intro a211 hE212; clear hE210
      refine q_step (v := .slice b174 ((gL (F_l08Parts (((F_l05Draw code (F_l01From code) 6).1).1) ([]) 0 ([])) ((F_l01Next code ((F_l01Next code ((F_l05Draw code (F_l01From code) 6).2) 3).2) (((F_l08Parts (((F_l05Draw code (F_l01From code) 6).1).1) ([]) 0 ([]))).length : Int)).1)).length) c175) hE212 (y_move rfl) rfl rfl rfl ?_; intro a213 hE214; clear hE212
      refine q_step (v := .int .i64 ((gL (F_l08Parts (((F_l05Draw code (F_l01From code) 6).1).1) ([]) 0 ([])) ((F_l01Next code ((F_l01Next code ((F_l05Draw code (F_l01From code) 6).2) 3).2) (((F_l08Parts (((F_l05Draw code (F_l01From code) 6).1).1) ([]) 0 ([]))).length : Int)).1)).length : Int)) hE214 (y_len (e := 2) (by kernel_rfl) rfl) rfl rfl rfl ?_; intro a215 hE216; clear hE214
      have hS223 := (St.pick (Γ' := [.blk b18 #[.slice codeA code.length codeC, .int .i64 ((((F_l01Next code ((F_l01Next code ((F_l01Next code ((F_l05Draw code (F_l01From code) 6).2) 3).2) (((F_l08Parts (((F_l05Draw code (F_l01From code) 6).1).1) ([]) 0 ([]))).length : Int)).2) 12).2).1 : Nat) : Int), .int .u64 (((F_l01Next code ((F_l01Next code ((F_l01Next code ((F_l05Draw code (F_l01From code) 6).2) 3).2) (((F_l08Parts (((F_l05Draw code (F_l01From code) 6).1).1) ([]) 0 ([]))).length : Int)).2) 12).2).2)] 156, .own 2 1 b174 ((gL (F_l08Parts (((F_l05Draw code (F_l01From code) 6).1).1) ([]) 0 ([])) ((F_l01Next code ((F_l01Next code ((F_l05Draw code (F_l01From code) 6).2) 3).2) (((F_l08Parts (((F_l05Draw code (F_l01From code) 6).1).1) ([]) 0 ([]))).length : Int)).1)).length) c175 (gL (F_l08Parts (((F_l05Draw code (F_l01From code) 6).1).1) ([]) 0 ([])) ((F_l01Next code ((F_l01Next code ((F_l05Draw code (F_l01From code) 6).2) 3).2) (((F_l08Parts (((F_l05Draw code (F_l01From code) 6).1).1) ([]) 0 ([]))).length : Int)).1)), .nest 22 1 (some 2) b140 c141 h142 (F_l08Parts (((F_l05Draw code (F_l01From code) 6).1).1) ([]) 0 ([])), .nest 22 1 none b90 c91 h92 (F_l08Congruences (((F_l05Draw code (F_l01From code) 6).1).1) (((F_l05Draw code (F_l01From code) 6).1).2)), .blk b35 #[.int .i64 (((F_l05Draw code (F_l01From code) 6).1).1), .slice b32 ((((F_l05Draw code (F_l01From code) 6).1).2).length) c33] 30, .own 2 1 b32 ((((F_l05Draw code (F_l01From code) 6).1).2).length) c33 (((F_l05Draw code (F_l01From code) 6).1).2), .blk b1 #[.int .i64 0, .slice none 0 0] 30]) hS186 [0, 1, 2, 3, 4, 5, 6] (by decide) rfl); clear hS186
      refine l_step hE216 rfl (l_call (f := 135) (argv := [.pointer (some ⟨b18, 0, none⟩), .int .i64 ((gL (F_l08Parts (((F_l05Draw code (F_l01From code) 6).1).1) ([]) 0 ([])) ((F_l01Next code ((F_l01Next code ((F_l05Draw code (F_l01From code) 6).2) 3).2) (((F_l08Parts (((F_l05Draw code (F_l01From code) 6).1).1) ([]) 0 ([]))).length : Int)).1)).length : Int)]) hE216 (fun _ => cf_l01Next0 _ _) rfl rfl (c_l01Next b18 codeA code.length codeC code ((F_l01Next code ((F_l01Next code ((F_l01Next code ((F_l05Draw code (F_l01From code) 6).2) 3).2) (((F_l08Parts (((F_l05Draw code (F_l01From code) 6).1).1) ([]) 0 ([]))).length : Int)).2) 12).2) ((gL (F_l08Parts (((F_l05Draw code (F_l01From code) 6).1).1) ([]) 0 ([])) ((F_l01Next code ((F_l01Next code ((F_l05Draw code (F_l01From code) 6).2) 3).2) (((F_l08Parts (((F_l05Draw code (F_l01From code) 6).1).1) ([]) 0 ([]))).length : Int)).1)).length : Int) w183 w [.own 2 1 b174 ((gL (F_l08Parts (((F_l05Draw code (F_l01From code) 6).1).1) ([]) 0 ([])) ((F_l01Next code ((F_l01Next code ((F_l05Draw code (F_l01From code) 6).2) 3).2) (((F_l08Parts (((F_l05Draw code (F_l01From code) 6).1).1) ([]) 0 ([]))).length : Int)).1)).length) c175 (gL (F_l08Parts (((F_l05Draw code (F_l01From code) 6).1).1) ([]) 0 ([])) ((F_l01Next code ((F_l01Next code ((F_l05Draw code (F_l01From code) 6).2) 3).2) (((F_l08Parts (((F_l05Draw code (F_l01From code) 6).1).1) ([]) 0 ([]))).length : Int)).1)), .nest 22 1 (some 2) b140 c141 h142 (F_l08Parts (((F_l05Draw code (F_l01From code) 6).1).1) ([]) 0 ([])), .nest 22 1 none b90 c91 h92 (F_l08Congruences (((F_l05Draw code (F_l01From code) 6).1).1) (((F_l05Draw code (F_l01From code) 6).1).2)), .blk b35 #[.int .i64 (((F_l05Draw code (F_l01From code) 6).1).1), .slice b32 ((((F_l05Draw code (F_l01From code) 6).1).2).length) c33] 30, .own 2 1 b32 ((((F_l05Draw code (F_l01From code) 6).1).2).length) c33 (((F_l05Draw code (F_l01From code) 6).1).2), .blk b1 #[.int .i64 0, .slice none 0 0] 30] hS223 codeR) ?_)
      rintro _ w218 ⟨rfl, hS221⟩ a219 hE220; clear hE216 hS223
      have hf224 := l01Next_bd codeR ((F_l01Next code ((F_l01Next code ((F_l01Next code ((F_l05Draw code (F_l01From code) 6).2) 3).2) (((F_l08Parts (((F_l05Draw code (F_l01From code) 6).1).1) ([]) 0 ([]))).length : Int)).2) 12).2) ((gL (F_l08Parts (((F_l05Draw code (F_l01From code) 6).1).1) ([]) 0 ([])) ((F_l01Next code ((F_l01Next code ((F_l05Draw code (F_l01From code) 6).2) 3).2) (((F_l08Parts (((F_l05Draw code (F_l01From code) 6).1).1) ([]) 0 ([]))).length : Int)).1)).length : Int)
      refine q_step (v := .pointer (some ⟨b18, 0, none⟩)) hE220 (y_move rfl) rfl rfl rfl ?_; intro a225 hE226; clear hE220
      have hS233 := (St.pick (Γ' := [.blk b18 #[.slice codeA code.length codeC, .int .i64 ((((F_l01Next code ((F_l01Next code ((F_l01Next code ((F_l01Next code ((F_l05Draw code (F_l01From code) 6).2) 3).2) (((F_l08Parts (((F_l05Draw code (F_l01From code) 6).1).1) ([]) 0 ([]))).length : Int)).2) 12).2) ((gL (F_l08Parts (((F_l05Draw code (F_l01From code) 6).1).1) ([]) 0 ([])) ((F_l01Next code ((F_l01Next code ((F_l05Draw code (F_l01From code) 6).2) 3).2) (((F_l08Parts (((F_l05Draw code (F_l01From code) 6).1).1) ([]) 0 ([]))).length : Int)).1)).length : Int)).2).1 : Nat) : Int), .int .u64 (((F_l01Next code ((F_l01Next code ((F_l01Next code ((F_l01Next code ((F_l05Draw code (F_l01From code) 6).2) 3).2) (((F_l08Parts (((F_l05Draw code (F_l01From code) 6).1).1) ([]) 0 ([]))).length : Int)).2) 12).2) ((gL (F_l08Parts (((F_l05Draw code (F_l01From code) 6).1).1) ([]) 0 ([])) ((F_l01Next code ((F_l01Next code ((F_l05Draw code (F_l01From code) 6).2) 3).2) (((F_l08Parts (((F_l05Draw code (F_l01From code) 6).1).1) ([]) 0 ([]))).length : Int)).1)).length : Int)).2).2)] 156, .own 2 1 b174 ((gL (F_l08Parts (((F_l05Draw code (F_l01From code) 6).1).1) ([]) 0 ([])) ((F_l01Next code ((F_l01Next code ((F_l05Draw code (F_l01From code) 6).2) 3).2) (((F_l08Parts (((F_l05Draw code (F_l01From code) 6).1).1) ([]) 0 ([]))).length : Int)).1)).length) c175 (gL (F_l08Parts (((F_l05Draw code (F_l01From code) 6).1).1) ([]) 0 ([])) ((F_l01Next code ((F_l01Next code ((F_l05Draw code (F_l01From code) 6).2) 3).2) (((F_l08Parts (((F_l05Draw code (F_l01From code) 6).1).1) ([]) 0 ([]))).length : Int)).1)), .nest 22 1 (some 2) b140 c141 h142 (F_l08Parts (((F_l05Draw code (F_l01From code) 6).1).1) ([]) 0 ([])), .nest 22 1 none b90 c91 h92 (F_l08Congruences (((F_l05Draw code (F_l01From code) 6).1).1) (((F_l05Draw code (F_l01From code) 6).1).2)), .blk b35 #[.int .i64 (((F_l05Draw code (F_l01From code) 6).1).1), .slice b32 ((((F_l05Draw code (F_l01From code) 6).1).2).length) c33] 30, .own 2 1 b32 ((((F_l05Draw code (F_l01From code) 6).1).2).length) c33 (((F_l05Draw code (F_l01From code) 6).1).2), .blk b1 #[.int .i64 0, .slice none 0 0] 30]) hS221 [0, 1, 2, 3, 4, 5, 6] (by decide) rfl); clear hS221
      refine l_step hE226 rfl (l_call (f := 135) (argv := [.pointer (some ⟨b18, 0, none⟩), .int .i64 9]) hE226 (fun _ => cf_l01Next0 _ _) rfl rfl (c_l01Next b18 codeA code.length codeC code ((F_l01Next code ((F_l01Next code ((F_l01Next code ((F_l01Next code ((F_l05Draw code (F_l01From code) 6).2) 3).2) (((F_l08Parts (((F_l05Draw code (F_l01From code) 6).1).1) ([]) 0 ([]))).length : Int)).2) 12).2) ((gL (F_l08Parts (((F_l05Draw code (F_l01From code) 6).1).1) ([]) 0 ([])) ((F_l01Next code ((F_l01Next code ((F_l05Draw code (F_l01From code) 6).2) 3).2) (((F_l08Parts (((F_l05Draw code (F_l01From code) 6).1).1) ([]) 0 ([]))).length : Int)).1)).length : Int)).2) 9 w218 w [.own 2 1 b174 ((gL (F_l08Parts (((F_l05Draw code (F_l01From code) 6).1).1) ([]) 0 ([])) ((F_l01Next code ((F_l01Next code ((F_l05Draw code (F_l01From code) 6).2) 3).2) (((F_l08Parts (((F_l05Draw code (F_l01From code) 6).1).1) ([]) 0 ([]))).length : Int)).1)).length) c175 (gL (F_l08Parts (((F_l05Draw code (F_l01From code) 6).1).1) ([]) 0 ([])) ((F_l01Next code ((F_l01Next code ((F_l05Draw code (F_l01From code) 6).2) 3).2) (((F_l08Parts (((F_l05Draw code (F_l01From code) 6).1).1) ([]) 0 ([]))).length : Int)).1)), .nest 22 1 (some 2) b140 c141 h142 (F_l08Parts (((F_l05Draw code (F_l01From code) 6).1).1) ([]) 0 ([])), .nest 22 1 none b90 c91 h92 (F_l08Congruences (((F_l05Draw code (F_l01From code) 6).1).1) (((F_l05Draw code (F_l01From code) 6).1).2)), .blk b35 #[.int .i64 (((F_l05Draw code (F_l01From code) 6).1).1), .slice b32 ((((F_l05Draw code (F_l01From code) 6).1).2).length) c33] 30, .own 2 1 b32 ((((F_l05Draw code (F_l01From code) 6).1).2).length) c33 (((F_l05Draw code (F_l01From code) 6).1).2), .blk b1 #[.int .i64 0, .slice none 0 0] 30] hS233 codeR) ?_)
      rintro _ w228 ⟨rfl, hS231⟩ a229 hE230; clear hE226 hS233
      have hf234 := l01Next_bd codeR ((F_l01Next code ((F_l01Next code ((F_l01Next code ((F_l01Next code ((F_l05Draw code (F_l01From code) 6).2) 3).2) (((F_l08Parts (((F_l05Draw code (F_l01From code) 6).1).1) ([]) 0 ([]))).length : Int)).2) 12).2) ((gL (F_l08Parts (((F_l05Draw code (F_l01From code) 6).1).1) ([]) 0 ([])) ((F_l01Next code ((F_l01Next code ((F_l05Draw code (F_l01From code) 6).2) 3).2) (((F_l08Parts (((F_l05Draw code (F_l01From code) 6).1).1) ([]) 0 ([]))).length : Int)).1)).length : Int)).2) 9
      refine q_step (v := .int .i64 (((F_l01Next code ((F_l01Next code ((F_l01Next code ((F_l01Next code ((F_l01Next code ((F_l05Draw code (F_l01From code) 6).2) 3).2) (((F_l08Parts (((F_l05Draw code (F_l01From code) 6).1).1) ([]) 0 ([]))).length : Int)).2) 12).2) ((gL (F_l08Parts (((F_l05Draw code (F_l01From code) 6).1).1) ([]) 0 ([])) ((F_l01Next code ((F_l01Next code ((F_l05Draw code (F_l01From code) 6).2) 3).2) (((F_l08Parts (((F_l05Draw code (F_l01From code) 6).1).1) ([]) 0 ([]))).length : Int)).1)).length : Int)).2) 9).1) - 1)) hE230 (y_sub rfl rfl ⟨(by omega), (by omega)⟩) rfl rfl rfl ?_; intro a235 hE236; clear hE230
      refine q_step (v := .pointer (some (adr b174 (Int.toNat ((F_l01Next code ((F_l01Next code ((F_l01Next code ((F_l01Next code ((F_l05Draw code (F_l01From code) 6).2) 3).2) (((F_l08Parts (((F_l05Draw code (F_l01From code) 6).1).1) ([]) 0 ([]))).length : Int)).2) 12).2) ((gL (F_l08Parts (((F_l05Draw code (F_l01From code) 6).1).1) ([]) 0 ([])) ((F_l01Next code ((F_l01Next code ((F_l05Draw code (F_l01From code) 6).2) 3).2) (((F_l08Parts (((F_l05Draw code (F_l01From code) 6).1).1) ([]) 0 ([]))).length : Int)).1)).length : Int)).1))))) hE236 (y_idx (by kernel_rfl) (fun _ => by kernel_rfl) rfl rfl (RdS.isS (m := (F_l01Next code ((F_l01Next code ((F_l01Next code ((F_l01Next code ((F_l05Draw code (F_l01From code) 6).2) 3).2) (((F_l08Parts (((F_l05Draw code (F_l01From code) 6).1).1) ([]) 0 ([]))).length : Int)).2) 12).2) ((gL (F_l08Parts (((F_l05Draw code (F_l01From code) 6).1).1) ([]) 0 ([])) ((F_l01Next code ((F_l01Next code ((F_l05Draw code (F_l01From code) 6).2) 3).2) (((F_l08Parts (((F_l05Draw code (F_l01From code) 6).1).1) ([]) 0 ([]))).length : Int)).1)).length : Int)).1) (St.rdO (i := 1) hS231 rfl) (by omega) (by omega)) (by omega) (by omega) (Nat.mul_one _).symm) rfl rfl rfl ?_; intro a237 hE238; clear hE236
      refine l_step hE238 rfl (l_store (k := 1) hS231 hE238 (fun _ => by kernel_rfl) rfl rfl rfl (by omega) (by omega) ?_)
      intro w240 hS243 a241 hE242; clear hS231 hE238
      refine c_nil ?_
      have hE245 := hE242.sub (L' := [(2, .pointer (some ⟨b1, 0, none⟩)), (5, .pointer (some ⟨b35, 0, none⟩)), (7, .slice b174 ((gL (F_l08Parts (((F_l05Draw code (F_l01From code) 6).1).1) ([]) 0 ([])) ((F_l01Next code ((F_l01Next code ((F_l05Draw code (F_l01From code) 6).2) 3).2) (((F_l08Parts (((F_l05Draw code (F_l01From code) 6).1).1) ([]) 0 ([]))).length : Int)).1)).length) c175)]) ⟨rfl, rfl, rfl, trivial⟩; clear hE242
      refine p_tn ?_
      refine c_seq ?_
      refine c_reg ?_
      refine q_step (v := .agg #[.int .i64 (((F_l05Draw code (F_l01From code) 6).1).1), .slice b32 ((((F_l05Draw code (F_l01From code) 6).1).2).length) c33]) hE245 (y_loadS Try.underlying30 rfl (by kernel_rfl) rfl (St.row (i := 4) hS243 rfl)) rfl rfl rfl ?_; intro a246 hE247; clear hE245
      refine q_step (v := .slice b174 ((gL (F_l08Parts (((F_l05Draw code (F_l01From code) 6).1).1) ([]) 0 ([])) ((F_l01Next code ((F_l01Next code ((F_l05Draw code (F_l01From code) 6).2) 3).2) (((F_l08Parts (((F_l05Draw code (F_l01From code) 6).1).1) ([]) 0 ([]))).length : Int)).1)).length) c175) hE247 (y_move rfl) rfl rfl rfl ?_; intro a248 hE249; clear hE247
      refine l_step hE249 rfl (l_storeS (k := 6) (cs' := #[.int .i64 (((F_l05Draw code (F_l01From code) 6).1).1), .slice b32 ((((F_l05Draw code (F_l01From code) 6).1).2).length) c33]) hS243 hE249 (by kernel_rfl) rfl rfl (by kernel_rfl) rfl rfl ?_)
      intro w251 hS254 a252 hE253; clear hS243 hE249
      refine q_step (v := .slice b174 ((gL (F_l08Parts (((F_l05Draw code (F_l01From code) 6).1).1) ([]) 0 ([])) ((F_l01Next code ((F_l01Next code ((F_l05Draw code (F_l01From code) 6).2) 3).2) (((F_l08Parts (((F_l05Draw code (F_l01From code) 6).1).1) ([]) 0 ([]))).length : Int)).1)).length) c175) hE253 (y_assign rfl) rfl rfl rfl ?_; intro a256 hE257; clear hE253
      refine c_nil ?_
      have hE258 := hE257.sub (L' := [(2, .pointer (some ⟨b1, 0, none⟩)), (3, .slice b174 ((gL (F_l08Parts (((F_l05Draw code (F_l01From code) 6).1).1) ([]) 0 ([])) ((F_l01Next code ((F_l01Next code ((F_l05Draw code (F_l01From code) 6).2) 3).2) (((F_l08Parts (((F_l05Draw code (F_l01From code) 6).1).1) ([]) 0 ([]))).length : Int)).1)).length) c175)]) ⟨rfl, rfl, trivial⟩; clear hE257
      refine p_tn ?_
      refine wp_ret ?_
      have hF : F_s_DrawIsCongruence code = ((((F_l05Draw code (F_l01From code) 6).1).1, ((F_l05Draw code (F_l01From code) 6).1).2), sI (gL (F_l08Parts (((F_l05Draw code (F_l01From code) 6).1).1) ([]) 0 ([])) ((F_l01Next code ((F_l01Next code ((F_l05Draw code (F_l01From code) 6).2) 3).2) (((F_l08Parts (((F_l05Draw code (F_l01From code) 6).1).1) ([]) 0 ([]))).length : Int)).1)) ((F_l01Next code ((F_l01Next code ((F_l01Next code ((F_l01Next code ((F_l05Draw code (F_l01From code) 6).2) 3).2) (((F_l08Parts (((F_l05Draw code (F_l01From code) 6).1).1) ([]) 0 ([]))).length : Int)).2) 12).2) ((gL (F_l08Parts (((F_l05Draw code (F_l01From code) 6).1).1) ([]) 0 ([])) ((F_l01Next code ((F_l01Next code ((F_l05Draw code (F_l01From code) 6).2) 3).2) (((F_l08Parts (((F_l05Draw code (F_l01From code) 6).1).1) ([]) 0 ([]))).length : Int)).1)).length : Int)).1) (((F_l01Next code ((F_l01Next code ((F_l01Next code ((F_l01Next code ((F_l01Next code ((F_l05Draw code (F_l01From code) 6).2) 3).2) (((F_l08Parts (((F_l05Draw code (F_l01From code) 6).1).1) ([]) 0 ([]))).length : Int)).2) 12).2) ((gL (F_l08Parts (((F_l05Draw code (F_l01From code) 6).1).1) ([]) 0 ([])) ((F_l01Next code ((F_l01Next code ((F_l05Draw code (F_l01From code) 6).2) 3).2) (((F_l08Parts (((F_l05Draw code (F_l01From code) 6).1).1) ([]) 0 ([]))).length : Int)).1)).length : Int)).2) 9).1) - 1)) := by unfold F_s_DrawIsCongruence; rw [ht206, hb194, ht113, ht59]; first | done | rfl
      refine c_retC2 hE258 rfl rfl rfl Try.underlying30 rfl (by kernel_rfl) (St.row (i := 6) hS254 rfl _ (Ext.refl _)) ?_
      exact ⟨b32, c33, b174, c175, (by rw [hF]; first | rfl | (rw [(St.rdO (i := 1) hS254 rfl).len1])), (by rw [hF, (St.rdO (i := 1) hS254 rfl).len1]; exact St.own2 5 1 hS254 rfl rfl (by decide)), hS254.ext⟩
     ·
      have hp259 := of_decide_eq_false ht206
      have hE260 := hE205; rw [ht206] at hE260; clear hE205
      refine wp_skip ?_
      refine p_tn ?_
      refine c_seq ?_
      refine c_reg ?_
      refine q_step (v := .agg #[.int .i64 (((F_l05Draw code (F_l01From code) 6).1).1), .slice b32 ((((F_l05Draw code (F_l01From code) 6).1).2).length) c33]) hE260 (y_loadS Try.underlying30 rfl (by kernel_rfl) rfl (St.row (i := 4) hS186 rfl)) rfl rfl rfl ?_; intro a261 hE262; clear hE260
      refine q_step (v := .slice b174 ((gL (F_l08Parts (((F_l05Draw code (F_l01From code) 6).1).1) ([]) 0 ([])) ((F_l01Next code ((F_l01Next code ((F_l05Draw code (F_l01From code) 6).2) 3).2) (((F_l08Parts (((F_l05Draw code (F_l01From code) 6).1).1) ([]) 0 ([]))).length : Int)).1)).length) c175) hE262 (y_move rfl) rfl rfl rfl ?_; intro a263 hE264; clear hE262
      refine l_step hE264 rfl (l_storeS (k := 6) (cs' := #[.int .i64 (((F_l05Draw code (F_l01From code) 6).1).1), .slice b32 ((((F_l05Draw code (F_l01From code) 6).1).2).length) c33]) hS186 hE264 (by kernel_rfl) rfl rfl (by kernel_rfl) rfl rfl ?_)
      intro w266 hS269 a267 hE268; clear hS186 hE264
      refine q_step (v := .slice b174 ((gL (F_l08Parts (((F_l05Draw code (F_l01From code) 6).1).1) ([]) 0 ([])) ((F_l01Next code ((F_l01Next code ((F_l05Draw code (F_l01From code) 6).2) 3).2) (((F_l08Parts (((F_l05Draw code (F_l01From code) 6).1).1) ([]) 0 ([]))).length : Int)).1)).length) c175) hE268 (y_assign rfl) rfl rfl rfl ?_; intro a271 hE272; clear hE268
      refine c_nil ?_
      have hE273 := hE272.sub (L' := [(2, .pointer (some ⟨b1, 0, none⟩)), (3, .slice b174 ((gL (F_l08Parts (((F_l05Draw code (F_l01From code) 6).1).1) ([]) 0 ([])) ((F_l01Next code ((F_l01Next code ((F_l05Draw code (F_l01From code) 6).2) 3).2) (((F_l08Parts (((F_l05Draw code (F_l01From code) 6).1).1) ([]) 0 ([]))).length : Int)).1)).length) c175)]) ⟨rfl, rfl, trivial⟩; clear hE272
      refine p_tn ?_
      refine wp_ret ?_
      have hF : F_s_DrawIsCongruence code = ((((F_l05Draw code (F_l01From code) 6).1).1, ((F_l05Draw code (F_l01From code) 6).1).2), (gL (F_l08Parts (((F_l05Draw code (F_l01From code) 6).1).1) ([]) 0 ([])) ((F_l01Next code ((F_l01Next code ((F_l05Draw code (F_l01From code) 6).2) 3).2) (((F_l08Parts (((F_l05Draw code (F_l01From code) 6).1).1) ([]) 0 ([]))).length : Int)).1))) := by unfold F_s_DrawIsCongruence; rw [ht206, hb194, ht113, ht59]; first | done | rfl
      refine c_retC2 hE273 rfl rfl rfl Try.underlying30 rfl (by kernel_rfl) (St.row (i := 6) hS269 rfl _ (Ext.refl _)) ?_
      exact ⟨b32, c33, b174, c175, (by rw [hF]; first | done | (dsimp only; done) | rfl), (by rw [hF]; exact St.own2 5 1 hS269 rfl rfl (by decide)), hS269.ext⟩
    ·
     have hE274 := hE193; (try rw [hb194] at hE274); clear hE193
     have hp275 := of_decide_eq_false hb194
     refine q_skip hE274 rfl rfl rfl ?_; intro a276 hE277; clear hE274
     refine q_skip hE277 rfl rfl rfl ?_; intro a278 hE279; clear hE277
     refine q_skip hE279 rfl rfl rfl ?_; intro a280 hE281; clear hE279
     refine q_step (v := .bool false) hE281 (y_pick (b := false) rfl rfl) rfl rfl rfl ?_; intro a282 hE283; clear hE281
     refine c_nil ?_
     have hE284 := hE283.sub (L' := [(2, .pointer (some ⟨b1, 0, none⟩)), (4, .pointer (some ⟨b18, 0, none⟩)), (5, .pointer (some ⟨b35, 0, none⟩)), (7, .slice b174 ((gL (F_l08Parts (((F_l05Draw code (F_l01From code) 6).1).1) ([]) 0 ([])) ((F_l01Next code ((F_l01Next code ((F_l05Draw code (F_l01From code) 6).2) 3).2) (((F_l08Parts (((F_l05Draw code (F_l01From code) 6).1).1) ([]) 0 ([]))).length : Int)).1)).length) c175), (42, .bool false)]) ⟨rfl, rfl, rfl, rfl, rfl, trivial⟩; clear hE283
     refine p_tn ?_
     refine c_false hE284 rfl ?_
     refine wp_skip ?_
     refine p_tn ?_
     refine c_seq ?_
     refine c_reg ?_
     refine q_step (v := .agg #[.int .i64 (((F_l05Draw code (F_l01From code) 6).1).1), .slice b32 ((((F_l05Draw code (F_l01From code) 6).1).2).length) c33]) hE284 (y_loadS Try.underlying30 rfl (by kernel_rfl) rfl (St.row (i := 4) hS186 rfl)) rfl rfl rfl ?_; intro a285 hE286; clear hE284
     refine q_step (v := .slice b174 ((gL (F_l08Parts (((F_l05Draw code (F_l01From code) 6).1).1) ([]) 0 ([])) ((F_l01Next code ((F_l01Next code ((F_l05Draw code (F_l01From code) 6).2) 3).2) (((F_l08Parts (((F_l05Draw code (F_l01From code) 6).1).1) ([]) 0 ([]))).length : Int)).1)).length) c175) hE286 (y_move rfl) rfl rfl rfl ?_; intro a287 hE288; clear hE286
     refine l_step hE288 rfl (l_storeS (k := 6) (cs' := #[.int .i64 (((F_l05Draw code (F_l01From code) 6).1).1), .slice b32 ((((F_l05Draw code (F_l01From code) 6).1).2).length) c33]) hS186 hE288 (by kernel_rfl) rfl rfl (by kernel_rfl) rfl rfl ?_)
     intro w290 hS293 a291 hE292; clear hS186 hE288
     refine q_step (v := .slice b174 ((gL (F_l08Parts (((F_l05Draw code (F_l01From code) 6).1).1) ([]) 0 ([])) ((F_l01Next code ((F_l01Next code ((F_l05Draw code (F_l01From code) 6).2) 3).2) (((F_l08Parts (((F_l05Draw code (F_l01From code) 6).1).1) ([]) 0 ([]))).length : Int)).1)).length) c175) hE292 (y_assign rfl) rfl rfl rfl ?_; intro a295 hE296; clear hE292
     refine c_nil ?_
     have hE297 := hE296.sub (L' := [(2, .pointer (some ⟨b1, 0, none⟩)), (3, .slice b174 ((gL (F_l08Parts (((F_l05Draw code (F_l01From code) 6).1).1) ([]) 0 ([])) ((F_l01Next code ((F_l01Next code ((F_l05Draw code (F_l01From code) 6).2) 3).2) (((F_l08Parts (((F_l05Draw code (F_l01From code) 6).1).1) ([]) 0 ([]))).length : Int)).1)).length) c175)]) ⟨rfl, rfl, trivial⟩; clear hE296
     refine p_tn ?_
     refine wp_ret ?_
     have hF : F_s_DrawIsCongruence code = ((((F_l05Draw code (F_l01From code) 6).1).1, ((F_l05Draw code (F_l01From code) 6).1).2), (gL (F_l08Parts (((F_l05Draw code (F_l01From code) 6).1).1) ([]) 0 ([])) ((F_l01Next code ((F_l01Next code ((F_l05Draw code (F_l01From code) 6).2) 3).2) (((F_l08Parts (((F_l05Draw code (F_l01From code) 6).1).1) ([]) 0 ([]))).length : Int)).1))) := by unfold F_s_DrawIsCongruence; rw [hb194, ht113, ht59]; first | done | rfl
     refine c_retC2 hE297 rfl rfl rfl Try.underlying30 rfl (by kernel_rfl) (St.row (i := 6) hS293 rfl _ (Ext.refl _)) ?_
     exact ⟨b32, c33, b174, c175, (by rw [hF]; first | done | (dsimp only; done) | rfl), (by rw [hF]; exact St.own2 5 1 hS293 rfl rfl (by decide)), hS293.ext⟩
   ·
    have hp298 := of_decide_eq_false ht113
    have hE299 := hE112; rw [ht113] at hE299; clear hE112
    refine wp_skip ?_
    refine p_tn ?_
    refine c_seq ?_
    refine c_reg ?_
    refine q_step (v := .slice b90 ((F_l08Congruences (((F_l05Draw code (F_l01From code) 6).1).1) (((F_l05Draw code (F_l01From code) 6).1).2)).length) c91) hE299 (y_move rfl) rfl rfl rfl ?_; intro a300 hE301; clear hE299
    refine q_step (v := .pointer (some ⟨b18, 0, none⟩)) hE301 (y_move rfl) rfl rfl rfl ?_; intro a302 hE303; clear hE301
    refine q_step (v := .slice b90 ((F_l08Congruences (((F_l05Draw code (F_l01From code) 6).1).1) (((F_l05Draw code (F_l01From code) 6).1).2)).length) c91) hE303 (y_move rfl) rfl rfl rfl ?_; intro a304 hE305; clear hE303
    refine q_step (v := .int .i64 ((F_l08Congruences (((F_l05Draw code (F_l01From code) 6).1).1) (((F_l05Draw code (F_l01From code) 6).1).2)).length : Int)) hE305 (y_len (e := 22) (by kernel_rfl) rfl) rfl rfl rfl ?_; intro a306 hE307; clear hE305
    have hS314 := (St.pick (Γ' := [.blk b18 #[.slice codeA code.length codeC, .int .i64 ((((F_l01Next code ((F_l05Draw code (F_l01From code) 6).2) 3).2).1 : Nat) : Int), .int .u64 (((F_l01Next code ((F_l05Draw code (F_l01From code) 6).2) 3).2).2)] 156, .nest 22 1 none b90 c91 h92 (F_l08Congruences (((F_l05Draw code (F_l01From code) 6).1).1) (((F_l05Draw code (F_l01From code) 6).1).2)), .blk b35 #[.int .i64 (((F_l05Draw code (F_l01From code) 6).1).1), .slice b32 ((((F_l05Draw code (F_l01From code) 6).1).2).length) c33] 30, .own 2 1 b32 ((((F_l05Draw code (F_l01From code) 6).1).2).length) c33 (((F_l05Draw code (F_l01From code) 6).1).2), .blk b1 #[.int .i64 0, .slice none 0 0] 30]) hS106 [0, 1, 2, 3, 4] (by decide) rfl); clear hS106
    refine l_step hE307 rfl (l_call (f := 135) (argv := [.pointer (some ⟨b18, 0, none⟩), .int .i64 ((F_l08Congruences (((F_l05Draw code (F_l01From code) 6).1).1) (((F_l05Draw code (F_l01From code) 6).1).2)).length : Int)]) hE307 (fun _ => cf_l01Next0 _ _) rfl rfl (c_l01Next b18 codeA code.length codeC code ((F_l01Next code ((F_l05Draw code (F_l01From code) 6).2) 3).2) ((F_l08Congruences (((F_l05Draw code (F_l01From code) 6).1).1) (((F_l05Draw code (F_l01From code) 6).1).2)).length : Int) w103 w [.nest 22 1 none b90 c91 h92 (F_l08Congruences (((F_l05Draw code (F_l01From code) 6).1).1) (((F_l05Draw code (F_l01From code) 6).1).2)), .blk b35 #[.int .i64 (((F_l05Draw code (F_l01From code) 6).1).1), .slice b32 ((((F_l05Draw code (F_l01From code) 6).1).2).length) c33] 30, .own 2 1 b32 ((((F_l05Draw code (F_l01From code) 6).1).2).length) c33 (((F_l05Draw code (F_l01From code) 6).1).2), .blk b1 #[.int .i64 0, .slice none 0 0] 30] hS314 codeR) ?_)
    rintro _ w309 ⟨rfl, hS312⟩ a310 hE311; clear hE307 hS314
    have hf315 := l01Next_bd codeR ((F_l01Next code ((F_l05Draw code (F_l01From code) 6).2) 3).2) ((F_l08Congruences (((F_l05Draw code (F_l01From code) 6).1).1) (((F_l05Draw code (F_l01From code) 6).1).2)).length : Int)
    refine q_step (v := .pointer (some (adr b90 (Int.toNat ((F_l01Next code ((F_l01Next code ((F_l05Draw code (F_l01From code) 6).2) 3).2) ((F_l08Congruences (((F_l05Draw code (F_l01From code) 6).1).1) (((F_l05Draw code (F_l01From code) 6).1).2)).length : Int)).1))))) hE311 (y_idx (by kernel_rfl) (fun _ => by kernel_rfl) rfl rfl (RdN.isS (m := (F_l01Next code ((F_l01Next code ((F_l05Draw code (F_l01From code) 6).2) 3).2) ((F_l08Congruences (((F_l05Draw code (F_l01From code) 6).1).1) (((F_l05Draw code (F_l01From code) 6).1).2)).length : Int)).1) (St.rdNo (i := 1) hS312 rfl) (by omega) (by omega)) (by omega) (by omega) (Nat.mul_one _).symm) rfl rfl rfl ?_; intro a316 hE317; clear hE311
    have hv318 : (0 : Int) ≤ ((F_l01Next code ((F_l01Next code ((F_l05Draw code (F_l01From code) 6).2) 3).2) ((F_l08Congruences (((F_l05Draw code (F_l01From code) 6).1).1) (((F_l05Draw code (F_l01From code) 6).1).2)).length : Int)).1) ∧ ((F_l01Next code ((F_l01Next code ((F_l05Draw code (F_l01From code) 6).2) 3).2) ((F_l08Congruences (((F_l05Draw code (F_l01From code) 6).1).1) (((F_l05Draw code (F_l01From code) 6).1).2)).length : Int)).1) < ((F_l08Congruences (((F_l05Draw code (F_l01From code) 6).1).1) (((F_l05Draw code (F_l01From code) 6).1).2)).length : Int) := ⟨(by omega), (by omega)⟩
    refine q_step (v := .slice (hdA h92 ((F_l01Next code ((F_l01Next code ((F_l05Draw code (F_l01From code) 6).2) 3).2) ((F_l08Congruences (((F_l05Draw code (F_l01From code) 6).1).1) (((F_l05Draw code (F_l01From code) 6).1).2)).length : Int)).1)) ((gL (F_l08Congruences (((F_l05Draw code (F_l01From code) 6).1).1) (((F_l05Draw code (F_l01From code) 6).1).2)) ((F_l01Next code ((F_l01Next code ((F_l05Draw code (F_l01From code) 6).2) 3).2) ((F_l08Congruences (((F_l05Draw code (F_l01From code) 6).1).1) (((F_l05Draw code (F_l01From code) 6).1).2)).length : Int)).1)).length) (hdC h92 ((F_l01Next code ((F_l01Next code ((F_l05Draw code (F_l01From code) 6).2) 3).2) ((F_l08Congruences (((F_l05Draw code (F_l01From code) 6).1).1) (((F_l05Draw code (F_l01From code) 6).1).2)).length : Int)).1))) hE317 (y_load (fun _ => by kernel_rfl) rfl (RdN.elt1 (St.rdNo (i := 1) hS312 rfl) (by omega) (by omega))) rfl rfl rfl ?_; intro a320 hE321; clear hE317
    refine l_step hE321 rfl (l_call (f := 140) (argv := [.slice (hdA h92 ((F_l01Next code ((F_l01Next code ((F_l05Draw code (F_l01From code) 6).2) 3).2) ((F_l08Congruences (((F_l05Draw code (F_l01From code) 6).1).1) (((F_l05Draw code (F_l01From code) 6).1).2)).length : Int)).1)) ((gL (F_l08Congruences (((F_l05Draw code (F_l01From code) 6).1).1) (((F_l05Draw code (F_l01From code) 6).1).2)) ((F_l01Next code ((F_l01Next code ((F_l05Draw code (F_l01From code) 6).2) 3).2) ((F_l08Congruences (((F_l05Draw code (F_l01From code) 6).1).1) (((F_l05Draw code (F_l01From code) 6).1).2)).length : Int)).1)).length) (hdC h92 ((F_l01Next code ((F_l01Next code ((F_l05Draw code (F_l01From code) 6).2) 3).2) ((F_l08Congruences (((F_l05Draw code (F_l01From code) 6).1).1) (((F_l05Draw code (F_l01From code) 6).1).2)).length : Int)).1))]) hE321 (fun _ => cf_l01Own _ _) rfl rfl (d_l01Own (hdA h92 ((F_l01Next code ((F_l01Next code ((F_l05Draw code (F_l01From code) 6).2) 3).2) ((F_l08Congruences (((F_l05Draw code (F_l01From code) 6).1).1) (((F_l05Draw code (F_l01From code) 6).1).2)).length : Int)).1)) ((gL (F_l08Congruences (((F_l05Draw code (F_l01From code) 6).1).1) (((F_l05Draw code (F_l01From code) 6).1).2)) ((F_l01Next code ((F_l01Next code ((F_l05Draw code (F_l01From code) 6).2) 3).2) ((F_l08Congruences (((F_l05Draw code (F_l01From code) 6).1).1) (((F_l05Draw code (F_l01From code) 6).1).2)).length : Int)).1)).length) (hdC h92 ((F_l01Next code ((F_l01Next code ((F_l05Draw code (F_l01From code) 6).2) 3).2) ((F_l08Congruences (((F_l05Draw code (F_l01From code) 6).1).1) (((F_l05Draw code (F_l01From code) 6).1).2)).length : Int)).1)) (gL (F_l08Congruences (((F_l05Draw code (F_l01From code) 6).1).1) (((F_l05Draw code (F_l01From code) 6).1).2)) ((F_l01Next code ((F_l01Next code ((F_l05Draw code (F_l01From code) 6).2) 3).2) ((F_l08Congruences (((F_l05Draw code (F_l01From code) 6).1).1) (((F_l05Draw code (F_l01From code) 6).1).2)).length : Int)).1)) w309 (RdN.row1 (St.rdNo (i := 1) hS312 rfl) hv318.1 hv318.2) (by first | omega | exact Nat.le_trans (parts_gl (by omega) (by omega) _) (by decide) | exact Nat.le_trans (cong_gl _ (by omega) (by omega) _) (by decide))) ?_)
    rintro _ w323 ⟨b328, c329, rfl, ho330, he327⟩ a324 hE325; clear hE321
    have hS326 := St.own hS312 he327 ho330; clear hS312
    refine q_step (v := .slice b328 ((gL (F_l08Congruences (((F_l05Draw code (F_l01From code) 6).1).1) (((F_l05Draw code (F_l01From code) 6).1).2)) ((F_l01Next code ((F_l01Next code ((F_l05Draw code (F_l01From code) 6).2) 3).2) ((F_l08Congruences (((F_l05Draw code (F_l01From code) 6).1).1) (((F_l05Draw code (F_l01From code) 6).1).2)).length : Int)).1)).length) c329) hE325 (y_assign rfl) rfl rfl rfl ?_; intro a331 hE332; clear hE325
    refine c_nil ?_
    have hE333 := hE332.sub (L' := [(2, .pointer (some ⟨b1, 0, none⟩)), (4, .pointer (some ⟨b18, 0, none⟩)), (5, .pointer (some ⟨b35, 0, none⟩)), (7, .slice b328 ((gL (F_l08Congruences (((F_l05Draw code (F_l01From code) 6).1).1) (((F_l05Draw code (F_l01From code) 6).1).2)) ((F_l01Next code ((F_l01Next code ((F_l05Draw code (F_l01From code) 6).2) 3).2) ((F_l08Congruences (((F_l05Draw code (F_l01From code) 6).1).1) (((F_l05Draw code (F_l01From code) 6).1).2)).length : Int)).1)).length) c329)]) ⟨rfl, rfl, rfl, rfl, trivial⟩; clear hE332
    refine p_tn ?_
    refine c_seq ?_
    refine c_seq ?_
    refine c_reg ?_
    refine q_step (v := .pointer (some ⟨b18, 0, none⟩)) hE333 (y_move rfl) rfl rfl rfl ?_; intro a334 hE335; clear hE333
    have hS342 := (St.pick (Γ' := [.blk b18 #[.slice codeA code.length codeC, .int .i64 ((((F_l01Next code ((F_l01Next code ((F_l05Draw code (F_l01From code) 6).2) 3).2) ((F_l08Congruences (((F_l05Draw code (F_l01From code) 6).1).1) (((F_l05Draw code (F_l01From code) 6).1).2)).length : Int)).2).1 : Nat) : Int), .int .u64 (((F_l01Next code ((F_l01Next code ((F_l05Draw code (F_l01From code) 6).2) 3).2) ((F_l08Congruences (((F_l05Draw code (F_l01From code) 6).1).1) (((F_l05Draw code (F_l01From code) 6).1).2)).length : Int)).2).2)] 156, .own 2 1 b328 ((gL (F_l08Congruences (((F_l05Draw code (F_l01From code) 6).1).1) (((F_l05Draw code (F_l01From code) 6).1).2)) ((F_l01Next code ((F_l01Next code ((F_l05Draw code (F_l01From code) 6).2) 3).2) ((F_l08Congruences (((F_l05Draw code (F_l01From code) 6).1).1) (((F_l05Draw code (F_l01From code) 6).1).2)).length : Int)).1)).length) c329 (gL (F_l08Congruences (((F_l05Draw code (F_l01From code) 6).1).1) (((F_l05Draw code (F_l01From code) 6).1).2)) ((F_l01Next code ((F_l01Next code ((F_l05Draw code (F_l01From code) 6).2) 3).2) ((F_l08Congruences (((F_l05Draw code (F_l01From code) 6).1).1) (((F_l05Draw code (F_l01From code) 6).1).2)).length : Int)).1)), .nest 22 1 none b90 c91 h92 (F_l08Congruences (((F_l05Draw code (F_l01From code) 6).1).1) (((F_l05Draw code (F_l01From code) 6).1).2)), .blk b35 #[.int .i64 (((F_l05Draw code (F_l01From code) 6).1).1), .slice b32 ((((F_l05Draw code (F_l01From code) 6).1).2).length) c33] 30, .own 2 1 b32 ((((F_l05Draw code (F_l01From code) 6).1).2).length) c33 (((F_l05Draw code (F_l01From code) 6).1).2), .blk b1 #[.int .i64 0, .slice none 0 0] 30]) hS326 [1, 0, 2, 3, 4, 5] (by decide) rfl); clear hS326
    refine l_step hE335 rfl (l_call (f := 135) (argv := [.pointer (some ⟨b18, 0, none⟩), .int .i64 12]) hE335 (fun _ => cf_l01Next0 _ _) rfl rfl (c_l01Next b18 codeA code.length codeC code ((F_l01Next code ((F_l01Next code ((F_l05Draw code (F_l01From code) 6).2) 3).2) ((F_l08Congruences (((F_l05Draw code (F_l01From code) 6).1).1) (((F_l05Draw code (F_l01From code) 6).1).2)).length : Int)).2) 12 w323 w [.own 2 1 b328 ((gL (F_l08Congruences (((F_l05Draw code (F_l01From code) 6).1).1) (((F_l05Draw code (F_l01From code) 6).1).2)) ((F_l01Next code ((F_l01Next code ((F_l05Draw code (F_l01From code) 6).2) 3).2) ((F_l08Congruences (((F_l05Draw code (F_l01From code) 6).1).1) (((F_l05Draw code (F_l01From code) 6).1).2)).length : Int)).1)).length) c329 (gL (F_l08Congruences (((F_l05Draw code (F_l01From code) 6).1).1) (((F_l05Draw code (F_l01From code) 6).1).2)) ((F_l01Next code ((F_l01Next code ((F_l05Draw code (F_l01From code) 6).2) 3).2) ((F_l08Congruences (((F_l05Draw code (F_l01From code) 6).1).1) (((F_l05Draw code (F_l01From code) 6).1).2)).length : Int)).1)), .nest 22 1 none b90 c91 h92 (F_l08Congruences (((F_l05Draw code (F_l01From code) 6).1).1) (((F_l05Draw code (F_l01From code) 6).1).2)), .blk b35 #[.int .i64 (((F_l05Draw code (F_l01From code) 6).1).1), .slice b32 ((((F_l05Draw code (F_l01From code) 6).1).2).length) c33] 30, .own 2 1 b32 ((((F_l05Draw code (F_l01From code) 6).1).2).length) c33 (((F_l05Draw code (F_l01From code) 6).1).2), .blk b1 #[.int .i64 0, .slice none 0 0] 30] hS342 codeR) ?_)
    rintro _ w337 ⟨rfl, hS340⟩ a338 hE339; clear hE335 hS342
    have hf343 := l01Next_bd codeR ((F_l01Next code ((F_l01Next code ((F_l05Draw code (F_l01From code) 6).2) 3).2) ((F_l08Congruences (((F_l05Draw code (F_l01From code) 6).1).1) (((F_l05Draw code (F_l01From code) 6).1).2)).length : Int)).2) 12
    refine q_step (v := .bool (decide (((F_l01Next code ((F_l01Next code ((F_l01Next code ((F_l05Draw code (F_l01From code) 6).2) 3).2) ((F_l08Congruences (((F_l05Draw code (F_l01From code) 6).1).1) (((F_l05Draw code (F_l01From code) 6).1).2)).length : Int)).2) 12).1) = 0))) hE339 (y_eql rfl rfl) rfl rfl rfl ?_; intro a344 hE345; clear hE339
    refine q_step (v := .bool (decide (((F_l01Next code ((F_l01Next code ((F_l01Next code ((F_l05Draw code (F_l01From code) 6).2) 3).2) ((F_l08Congruences (((F_l05Draw code (F_l01From code) 6).1).1) (((F_l05Draw code (F_l01From code) 6).1).2)).length : Int)).2) 12).1) = 0))) hE345 (y_move rfl) rfl rfl rfl ?_; intro a346 hE347; clear hE345
    rcases Bool.eq_false_or_eq_true (decide (((F_l01Next code ((F_l01Next code ((F_l01Next code ((F_l05Draw code (F_l01From code) 6).2) 3).2) ((F_l08Congruences (((F_l05Draw code (F_l01From code) 6).1).1) (((F_l05Draw code (F_l01From code) 6).1).2)).length : Int)).2) 12).1) = 0)) with hb348 | hb348
    ·
     have hE349 := hE347; (try rw [hb348] at hE349); clear hE347
     have hp350 := of_decide_eq_true hb348
     refine q_step (v := .slice b328 ((gL (F_l08Congruences (((F_l05Draw code (F_l01From code) 6).1).1) (((F_l05Draw code (F_l01From code) 6).1).2)) ((F_l01Next code ((F_l01Next code ((F_l05Draw code (F_l01From code) 6).2) 3).2) ((F_l08Congruences (((F_l05Draw code (F_l01From code) 6).1).1) (((F_l05Draw code (F_l01From code) 6).1).2)).length : Int)).1)).length) c329) hE349 (y_move rfl) rfl rfl rfl ?_; intro a351 hE352; clear hE349
     refine q_step (v := .int .i64 ((gL (F_l08Congruences (((F_l05Draw code (F_l01From code) 6).1).1) (((F_l05Draw code (F_l01From code) 6).1).2)) ((F_l01Next code ((F_l01Next code ((F_l05Draw code (F_l01From code) 6).2) 3).2) ((F_l08Congruences (((F_l05Draw code (F_l01From code) 6).1).1) (((F_l05Draw code (F_l01From code) 6).1).2)).length : Int)).1)).length : Int)) hE352 (y_len (e := 2) (by kernel_rfl) rfl) rfl rfl rfl ?_; intro a353 hE354; clear hE352
     refine q_step (v := .bool (decide (0 < ((gL (F_l08Congruences (((F_l05Draw code (F_l01From code) 6).1).1) (((F_l05Draw code (F_l01From code) 6).1).2)) ((F_l01Next code ((F_l01Next code ((F_l05Draw code (F_l01From code) 6).2) 3).2) ((F_l08Congruences (((F_l05Draw code (F_l01From code) 6).1).1) (((F_l05Draw code (F_l01From code) 6).1).2)).length : Int)).1)).length : Int)))) hE354 (y_gtr rfl rfl) rfl rfl rfl ?_; intro a355 hE356; clear hE354
     refine q_step (v := .bool (decide (0 < ((gL (F_l08Congruences (((F_l05Draw code (F_l01From code) 6).1).1) (((F_l05Draw code (F_l01From code) 6).1).2)) ((F_l01Next code ((F_l01Next code ((F_l05Draw code (F_l01From code) 6).2) 3).2) ((F_l08Congruences (((F_l05Draw code (F_l01From code) 6).1).1) (((F_l05Draw code (F_l01From code) 6).1).2)).length : Int)).1)).length : Int)))) hE356 (y_pick (b := true) rfl rfl) rfl rfl rfl ?_; intro a357 hE358; clear hE356
     refine c_nil ?_
     have hE359 := hE358.sub (L' := [(2, .pointer (some ⟨b1, 0, none⟩)), (4, .pointer (some ⟨b18, 0, none⟩)), (5, .pointer (some ⟨b35, 0, none⟩)), (7, .slice b328 ((gL (F_l08Congruences (((F_l05Draw code (F_l01From code) 6).1).1) (((F_l05Draw code (F_l01From code) 6).1).2)) ((F_l01Next code ((F_l01Next code ((F_l05Draw code (F_l01From code) 6).2) 3).2) ((F_l08Congruences (((F_l05Draw code (F_l01From code) 6).1).1) (((F_l05Draw code (F_l01From code) 6).1).2)).length : Int)).1)).length) c329), (42, .bool (decide (0 < ((gL (F_l08Congruences (((F_l05Draw code (F_l01From code) 6).1).1) (((F_l05Draw code (F_l01From code) 6).1).2)) ((F_l01Next code ((F_l01Next code ((F_l05Draw code (F_l01From code) 6).2) 3).2) ((F_l08Congruences (((F_l05Draw code (F_l01From code) 6).1).1) (((F_l05Draw code (F_l01From code) 6).1).2)).length : Int)).1)).length : Int))))]) ⟨rfl, rfl, rfl, rfl, rfl, trivial⟩; clear hE358
     refine p_tn ?_
     refine c_cond hE359 rfl (fun ht360 => ?_) (fun ht360 => ?_)
     ·
      have hp361 := of_decide_eq_true ht360
      have hE362 := hE359; rw [ht360] at hE362; clear hE359
      refine c_reg ?_
      refine q_step (v := .slice b328 ((gL (F_l08Congruences (((F_l05Draw code (F_l01From code) 6).1).1) (((F_l05Draw code (F_l01From code) 6).1).2)) ((F_l01Next code ((F_l01Next code ((F_l05Draw code (F_l01From code) 6).2) 3).2) ((F_l08Congruences (((F_l05Draw code (F_l01From code) 6).1).1) (((F_l05Draw code (F_l01From code) 6).1).2)).length : Int)).1)).length) c329) hE362 (y_move rfl) rfl rfl rfl ?_; intro a363 hE364; clear hE362
      refine q_step (v := .pointer (some ⟨b18, 0, none⟩)) hE364 (y_move rfl) rfl rfl rfl ?_; intro a365 hE366; clear hE364
      refine q_step (v := .slice b328 ((gL (F_l08Congruences (((F_l05Draw code (F_l01From code) 6).1).1) (((F_l05Draw code (F_l01From code) 6).1).2)) ((F_l01Next code ((F_l01Next code ((F_l05Draw code (F_l01From code) 6).2) 3).2) ((F_l08Congruences (((F_l05Draw code (F_l01From code) 6).1).1) (((F_l05Draw code (F_l01From code) 6).1).2)).length : Int)).1)).length) c329) hE366 (y_move rfl) rfl rfl rfl ?_; intro a367 hE368; clear hE366
      refine q_step (v := .int .i64 ((gL (F_l08Congruences (((F_l05Draw code (F_l01From code) 6).1).1) (((F_l05Draw code (F_l01From code) 6).1).2)) ((F_l01Next code ((F_l01Next code ((F_l05Draw code (F_l01From code) 6).2) 3).2) ((F_l08Congruences (((F_l05Draw code (F_l01From code) 6).1).1) (((F_l05Draw code (F_l01From code) 6).1).2)).length : Int)).1)).length : Int)) hE368 (y_len (e := 2) (by kernel_rfl) rfl) rfl rfl rfl ?_; intro a369 hE370; clear hE368
      have hS377 := (St.pick (Γ' := [.blk b18 #[.slice codeA code.length codeC, .int .i64 ((((F_l01Next code ((F_l01Next code ((F_l01Next code ((F_l05Draw code (F_l01From code) 6).2) 3).2) ((F_l08Congruences (((F_l05Draw code (F_l01From code) 6).1).1) (((F_l05Draw code (F_l01From code) 6).1).2)).length : Int)).2) 12).2).1 : Nat) : Int), .int .u64 (((F_l01Next code ((F_l01Next code ((F_l01Next code ((F_l05Draw code (F_l01From code) 6).2) 3).2) ((F_l08Congruences (((F_l05Draw code (F_l01From code) 6).1).1) (((F_l05Draw code (F_l01From code) 6).1).2)).length : Int)).2) 12).2).2)] 156, .own 2 1 b328 ((gL (F_l08Congruences (((F_l05Draw code (F_l01From code) 6).1).1) (((F_l05Draw code (F_l01From code) 6).1).2)) ((F_l01Next code ((F_l01Next code ((F_l05Draw code (F_l01From code) 6).2) 3).2) ((F_l08Congruences (((F_l05Draw code (F_l01From code) 6).1).1) (((F_l05Draw code (F_l01From code) 6).1).2)).length : Int)).1)).length) c329 (gL (F_l08Congruences (((F_l05Draw code (F_l01From code) 6).1).1) (((F_l05Draw code (F_l01From code) 6).1).2)) ((F_l01Next code ((F_l01Next code ((F_l05Draw code (F_l01From code) 6).2) 3).2) ((F_l08Congruences (((F_l05Draw code (F_l01From code) 6).1).1) (((F_l05Draw code (F_l01From code) 6).1).2)).length : Int)).1)), .nest 22 1 none b90 c91 h92 (F_l08Congruences (((F_l05Draw code (F_l01From code) 6).1).1) (((F_l05Draw code (F_l01From code) 6).1).2)), .blk b35 #[.int .i64 (((F_l05Draw code (F_l01From code) 6).1).1), .slice b32 ((((F_l05Draw code (F_l01From code) 6).1).2).length) c33] 30, .own 2 1 b32 ((((F_l05Draw code (F_l01From code) 6).1).2).length) c33 (((F_l05Draw code (F_l01From code) 6).1).2), .blk b1 #[.int .i64 0, .slice none 0 0] 30]) hS340 [0, 1, 2, 3, 4, 5] (by decide) rfl); clear hS340
      refine l_step hE370 rfl (l_call (f := 135) (argv := [.pointer (some ⟨b18, 0, none⟩), .int .i64 ((gL (F_l08Congruences (((F_l05Draw code (F_l01From code) 6).1).1) (((F_l05Draw code (F_l01From code) 6).1).2)) ((F_l01Next code ((F_l01Next code ((F_l05Draw code (F_l01From code) 6).2) 3).2) ((F_l08Congruences (((F_l05Draw code (F_l01From code) 6).1).1) (((F_l05Draw code (F_l01From code) 6).1).2)).length : Int)).1)).length : Int)]) hE370 (fun _ => cf_l01Next0 _ _) rfl rfl (c_l01Next b18 codeA code.length codeC code ((F_l01Next code ((F_l01Next code ((F_l01Next code ((F_l05Draw code (F_l01From code) 6).2) 3).2) ((F_l08Congruences (((F_l05Draw code (F_l01From code) 6).1).1) (((F_l05Draw code (F_l01From code) 6).1).2)).length : Int)).2) 12).2) ((gL (F_l08Congruences (((F_l05Draw code (F_l01From code) 6).1).1) (((F_l05Draw code (F_l01From code) 6).1).2)) ((F_l01Next code ((F_l01Next code ((F_l05Draw code (F_l01From code) 6).2) 3).2) ((F_l08Congruences (((F_l05Draw code (F_l01From code) 6).1).1) (((F_l05Draw code (F_l01From code) 6).1).2)).length : Int)).1)).length : Int) w337 w [.own 2 1 b328 ((gL (F_l08Congruences (((F_l05Draw code (F_l01From code) 6).1).1) (((F_l05Draw code (F_l01From code) 6).1).2)) ((F_l01Next code ((F_l01Next code ((F_l05Draw code (F_l01From code) 6).2) 3).2) ((F_l08Congruences (((F_l05Draw code (F_l01From code) 6).1).1) (((F_l05Draw code (F_l01From code) 6).1).2)).length : Int)).1)).length) c329 (gL (F_l08Congruences (((F_l05Draw code (F_l01From code) 6).1).1) (((F_l05Draw code (F_l01From code) 6).1).2)) ((F_l01Next code ((F_l01Next code ((F_l05Draw code (F_l01From code) 6).2) 3).2) ((F_l08Congruences (((F_l05Draw code (F_l01From code) 6).1).1) (((F_l05Draw code (F_l01From code) 6).1).2)).length : Int)).1)), .nest 22 1 none b90 c91 h92 (F_l08Congruences (((F_l05Draw code (F_l01From code) 6).1).1) (((F_l05Draw code (F_l01From code) 6).1).2)), .blk b35 #[.int .i64 (((F_l05Draw code (F_l01From code) 6).1).1), .slice b32 ((((F_l05Draw code (F_l01From code) 6).1).2).length) c33] 30, .own 2 1 b32 ((((F_l05Draw code (F_l01From code) 6).1).2).length) c33 (((F_l05Draw code (F_l01From code) 6).1).2), .blk b1 #[.int .i64 0, .slice none 0 0] 30] hS377 codeR) ?_)
      rintro _ w372 ⟨rfl, hS375⟩ a373 hE374; clear hE370 hS377
      have hf378 := l01Next_bd codeR ((F_l01Next code ((F_l01Next code ((F_l01Next code ((F_l05Draw code (F_l01From code) 6).2) 3).2) ((F_l08Congruences (((F_l05Draw code (F_l01From code) 6).1).1) (((F_l05Draw code (F_l01From code) 6).1).2)).length : Int)).2) 12).2) ((gL (F_l08Congruences (((F_l05Draw code (F_l01From code) 6).1).1) (((F_l05Draw code (F_l01From code) 6).1).2)) ((F_l01Next code ((F_l01Next code ((F_l05Draw code (F_l01From code) 6).2) 3).2) ((F_l08Congruences (((F_l05Draw code (F_l01From code) 6).1).1) (((F_l05Draw code (F_l01From code) 6).1).2)).length : Int)).1)).length : Int)
      refine q_step (v := .pointer (some ⟨b18, 0, none⟩)) hE374 (y_move rfl) rfl rfl rfl ?_; intro a379 hE380; clear hE374
      have hS387 := (St.pick (Γ' := [.blk b18 #[.slice codeA code.length codeC, .int .i64 ((((F_l01Next code ((F_l01Next code ((F_l01Next code ((F_l01Next code ((F_l05Draw code (F_l01From code) 6).2) 3).2) ((F_l08Congruences (((F_l05Draw code (F_l01From code) 6).1).1) (((F_l05Draw code (F_l01From code) 6).1).2)).length : Int)).2) 12).2) ((gL (F_l08Congruences (((F_l05Draw code (F_l01From code) 6).1).1) (((F_l05Draw code (F_l01From code) 6).1).2)) ((F_l01Next code ((F_l01Next code ((F_l05Draw code (F_l01From code) 6).2) 3).2) ((F_l08Congruences (((F_l05Draw code (F_l01From code) 6).1).1) (((F_l05Draw code (F_l01From code) 6).1).2)).length : Int)).1)).length : Int)).2).1 : Nat) : Int), .int .u64 (((F_l01Next code ((F_l01Next code ((F_l01Next code ((F_l01Next code ((F_l05Draw code (F_l01From code) 6).2) 3).2) ((F_l08Congruences (((F_l05Draw code (F_l01From code) 6).1).1) (((F_l05Draw code (F_l01From code) 6).1).2)).length : Int)).2) 12).2) ((gL (F_l08Congruences (((F_l05Draw code (F_l01From code) 6).1).1) (((F_l05Draw code (F_l01From code) 6).1).2)) ((F_l01Next code ((F_l01Next code ((F_l05Draw code (F_l01From code) 6).2) 3).2) ((F_l08Congruences (((F_l05Draw code (F_l01From code) 6).1).1) (((F_l05Draw code (F_l01From code) 6).1).2)).length : Int)).1)).length : Int)).2).2)] 156, .own 2 1 b328 ((gL (F_l08Congruences (((F_l05Draw code (F_l01From code) 6).1).1) (((F_l05Draw code (F_l01From code) 6).1).2)) ((F_l01Next code ((F_l01Next code ((F_l05Draw code (F_l01From code) 6).2) 3).2) ((F_l08Congruences (((F_l05Draw code (F_l01From code) 6).1).1) (((F_l05Draw code (F_l01From code) 6).1).2)).length : Int)).1)).length) c329 (gL (F_l08Congruences (((F_l05Draw code (F_l01From code) 6).1).1) (((F_l05Draw code (F_l01From code) 6).1).2)) ((F_l01Next code ((F_l01Next code ((F_l05Draw code (F_l01From code) 6).2) 3).2) ((F_l08Congruences (((F_l05Draw code (F_l01From code) 6).1).1) (((F_l05Draw code (F_l01From code) 6).1).2)).length : Int)).1)), .nest 22 1 none b90 c91 h92 (F_l08Congruences (((F_l05Draw code (F_l01From code) 6).1).1) (((F_l05Draw code (F_l01From code) 6).1).2)), .blk b35 #[.int .i64 (((F_l05Draw code (F_l01From code) 6).1).1), .slice b32 ((((F_l05Draw code (F_l01From code) 6).1).2).length) c33] 30, .own 2 1 b32 ((((F_l05Draw code (F_l01From code) 6).1).2).length) c33 (((F_l05Draw code (F_l01From code) 6).1).2), .blk b1 #[.int .i64 0, .slice none 0 0] 30]) hS375 [0, 1, 2, 3, 4, 5] (by decide) rfl); clear hS375
      refine l_step hE380 rfl (l_call (f := 135) (argv := [.pointer (some ⟨b18, 0, none⟩), .int .i64 9]) hE380 (fun _ => cf_l01Next0 _ _) rfl rfl (c_l01Next b18 codeA code.length codeC code ((F_l01Next code ((F_l01Next code ((F_l01Next code ((F_l01Next code ((F_l05Draw code (F_l01From code) 6).2) 3).2) ((F_l08Congruences (((F_l05Draw code (F_l01From code) 6).1).1) (((F_l05Draw code (F_l01From code) 6).1).2)).length : Int)).2) 12).2) ((gL (F_l08Congruences (((F_l05Draw code (F_l01From code) 6).1).1) (((F_l05Draw code (F_l01From code) 6).1).2)) ((F_l01Next code ((F_l01Next code ((F_l05Draw code (F_l01From code) 6).2) 3).2) ((F_l08Congruences (((F_l05Draw code (F_l01From code) 6).1).1) (((F_l05Draw code (F_l01From code) 6).1).2)).length : Int)).1)).length : Int)).2) 9 w372 w [.own 2 1 b328 ((gL (F_l08Congruences (((F_l05Draw code (F_l01From code) 6).1).1) (((F_l05Draw code (F_l01From code) 6).1).2)) ((F_l01Next code ((F_l01Next code ((F_l05Draw code (F_l01From code) 6).2) 3).2) ((F_l08Congruences (((F_l05Draw code (F_l01From code) 6).1).1) (((F_l05Draw code (F_l01From code) 6).1).2)).length : Int)).1)).length) c329 (gL (F_l08Congruences (((F_l05Draw code (F_l01From code) 6).1).1) (((F_l05Draw code (F_l01From code) 6).1).2)) ((F_l01Next code ((F_l01Next code ((F_l05Draw code (F_l01From code) 6).2) 3).2) ((F_l08Congruences (((F_l05Draw code (F_l01From code) 6).1).1) (((F_l05Draw code (F_l01From code) 6).1).2)).length : Int)).1)), .nest 22 1 none b90 c91 h92 (F_l08Congruences (((F_l05Draw code (F_l01From code) 6).1).1) (((F_l05Draw code (F_l01From code) 6).1).2)), .blk b35 #[.int .i64 (((F_l05Draw code (F_l01From code) 6).1).1), .slice b32 ((((F_l05Draw code (F_l01From code) 6).1).2).length) c33] 30, .own 2 1 b32 ((((F_l05Draw code (F_l01From code) 6).1).2).length) c33 (((F_l05Draw code (F_l01From code) 6).1).2), .blk b1 #[.int .i64 0, .slice none 0 0] 30] hS387 codeR) ?_)
      rintro _ w382 ⟨rfl, hS385⟩ a383 hE384; clear hE380 hS387
      have hf388 := l01Next_bd codeR ((F_l01Next code ((F_l01Next code ((F_l01Next code ((F_l01Next code ((F_l05Draw code (F_l01From code) 6).2) 3).2) ((F_l08Congruences (((F_l05Draw code (F_l01From code) 6).1).1) (((F_l05Draw code (F_l01From code) 6).1).2)).length : Int)).2) 12).2) ((gL (F_l08Congruences (((F_l05Draw code (F_l01From code) 6).1).1) (((F_l05Draw code (F_l01From code) 6).1).2)) ((F_l01Next code ((F_l01Next code ((F_l05Draw code (F_l01From code) 6).2) 3).2) ((F_l08Congruences (((F_l05Draw code (F_l01From code) 6).1).1) (((F_l05Draw code (F_l01From code) 6).1).2)).length : Int)).1)).length : Int)).2) 9
      refine q_step (v := .int .i64 (((F_l01Next code ((F_l01Next code ((F_l01Next code ((F_l01Next code ((F_l01Next code ((F_l05Draw code (F_l01From code) 6).2) 3).2) ((F_l08Congruences (((F_l05Draw code (F_l01From code) 6).1).1) (((F_l05Draw code (F_l01From code) 6).1).2)).length : Int)).2) 12).2) ((gL (F_l08Congruences (((F_l05Draw code (F_l01From code) 6).1).1) (((F_l05Draw code (F_l01From code) 6).1).2)) ((F_l01Next code ((F_l01Next code ((F_l05Draw code (F_l01From code) 6).2) 3).2) ((F_l08Congruences (((F_l05Draw code (F_l01From code) 6).1).1) (((F_l05Draw code (F_l01From code) 6).1).2)).length : Int)).1)).length : Int)).2) 9).1) - 1)) hE384 (y_sub rfl rfl ⟨(by omega), (by omega)⟩) rfl rfl rfl ?_; intro a389 hE390; clear hE384
      refine q_step (v := .pointer (some (adr b328 (Int.toNat ((F_l01Next code ((F_l01Next code ((F_l01Next code ((F_l01Next code ((F_l05Draw code (F_l01From code) 6).2) 3).2) ((F_l08Congruences (((F_l05Draw code (F_l01From code) 6).1).1) (((F_l05Draw code (F_l01From code) 6).1).2)).length : Int)).2) 12).2) ((gL (F_l08Congruences (((F_l05Draw code (F_l01From code) 6).1).1) (((F_l05Draw code (F_l01From code) 6).1).2)) ((F_l01Next code ((F_l01Next code ((F_l05Draw code (F_l01From code) 6).2) 3).2) ((F_l08Congruences (((F_l05Draw code (F_l01From code) 6).1).1) (((F_l05Draw code (F_l01From code) 6).1).2)).length : Int)).1)).length : Int)).1))))) hE390 (y_idx (by kernel_rfl) (fun _ => by kernel_rfl) rfl rfl (RdS.isS (m := (F_l01Next code ((F_l01Next code ((F_l01Next code ((F_l01Next code ((F_l05Draw code (F_l01From code) 6).2) 3).2) ((F_l08Congruences (((F_l05Draw code (F_l01From code) 6).1).1) (((F_l05Draw code (F_l01From code) 6).1).2)).length : Int)).2) 12).2) ((gL (F_l08Congruences (((F_l05Draw code (F_l01From code) 6).1).1) (((F_l05Draw code (F_l01From code) 6).1).2)) ((F_l01Next code ((F_l01Next code ((F_l05Draw code (F_l01From code) 6).2) 3).2) ((F_l08Congruences (((F_l05Draw code (F_l01From code) 6).1).1) (((F_l05Draw code (F_l01From code) 6).1).2)).length : Int)).1)).length : Int)).1) (St.rdO (i := 1) hS385 rfl) (by omega) (by omega)) (by omega) (by omega) (Nat.mul_one _).symm) rfl rfl rfl ?_; intro a391 hE392; clear hE390
      refine l_step hE392 rfl (l_store (k := 1) hS385 hE392 (fun _ => by kernel_rfl) rfl rfl rfl (by omega) (by omega) ?_)
      intro w394 hS397 a395 hE396; clear hS385 hE392
      refine c_nil ?_
      have hE399 := hE396.sub (L' := [(2, .pointer (some ⟨b1, 0, none⟩)), (5, .pointer (some ⟨b35, 0, none⟩)), (7, .slice b328 ((gL (F_l08Congruences (((F_l05Draw code (F_l01From code) 6).1).1) (((F_l05Draw code (F_l01From code) 6).1).2)) ((F_l01Next code ((F_l01Next code ((F_l05Draw code (F_l01From code) 6).2) 3).2) ((F_l08Congruences (((F_l05Draw code (F_l01From code) 6).1).1) (((F_l05Draw code (F_l01From code) 6).1).2)).length : Int)).1)).length) c329)]) ⟨rfl, rfl, rfl, trivial⟩; clear hE396
      refine p_tn ?_
      refine c_seq ?_
      refine c_reg ?_
      refine q_step (v := .agg #[.int .i64 (((F_l05Draw code (F_l01From code) 6).1).1), .slice b32 ((((F_l05Draw code (F_l01From code) 6).1).2).length) c33]) hE399 (y_loadS Try.underlying30 rfl (by kernel_rfl) rfl (St.row (i := 3) hS397 rfl)) rfl rfl rfl ?_; intro a400 hE401; clear hE399
      refine q_step (v := .slice b328 ((gL (F_l08Congruences (((F_l05Draw code (F_l01From code) 6).1).1) (((F_l05Draw code (F_l01From code) 6).1).2)) ((F_l01Next code ((F_l01Next code ((F_l05Draw code (F_l01From code) 6).2) 3).2) ((F_l08Congruences (((F_l05Draw code (F_l01From code) 6).1).1) (((F_l05Draw code (F_l01From code) 6).1).2)).length : Int)).1)).length) c329) hE401 (y_move rfl) rfl rfl rfl ?_; intro a402 hE403; clear hE401
      refine l_step hE403 rfl (l_storeS (k := 5) (cs' := #[.int .i64 (((F_l05Draw code (F_l01From code) 6).1).1), .slice b32 ((((F_l05Draw code (F_l01From code) 6).1).2).length) c33]) hS397 hE403 (by kernel_rfl) rfl rfl (by kernel_rfl) rfl rfl ?_)
      intro w405 hS408 a406 hE407; clear hS397 hE403
      refine q_step (v := .slice b328 ((gL (F_l08Congruences (((F_l05Draw code (F_l01From code) 6).1).1) (((F_l05Draw code (F_l01From code) 6).1).2)) ((F_l01Next code ((F_l01Next code ((F_l05Draw code (F_l01From code) 6).2) 3).2) ((F_l08Congruences (((F_l05Draw code (F_l01From code) 6).1).1) (((F_l05Draw code (F_l01From code) 6).1).2)).length : Int)).1)).length) c329) hE407 (y_assign rfl) rfl rfl rfl ?_; intro a410 hE411; clear hE407
      refine c_nil ?_
      have hE412 := hE411.sub (L' := [(2, .pointer (some ⟨b1, 0, none⟩)), (3, .slice b328 ((gL (F_l08Congruences (((F_l05Draw code (F_l01From code) 6).1).1) (((F_l05Draw code (F_l01From code) 6).1).2)) ((F_l01Next code ((F_l01Next code ((F_l05Draw code (F_l01From code) 6).2) 3).2) ((F_l08Congruences (((F_l05Draw code (F_l01From code) 6).1).1) (((F_l05Draw code (F_l01From code) 6).1).2)).length : Int)).1)).length) c329)]) ⟨rfl, rfl, trivial⟩; clear hE411
      refine p_tn ?_
      refine wp_ret ?_
      have hF : F_s_DrawIsCongruence code = ((((F_l05Draw code (F_l01From code) 6).1).1, ((F_l05Draw code (F_l01From code) 6).1).2), sI (gL (F_l08Congruences (((F_l05Draw code (F_l01From code) 6).1).1) (((F_l05Draw code (F_l01From code) 6).1).2)) ((F_l01Next code ((F_l01Next code ((F_l05Draw code (F_l01From code) 6).2) 3).2) ((F_l08Congruences (((F_l05Draw code (F_l01From code) 6).1).1) (((F_l05Draw code (F_l01From code) 6).1).2)).length : Int)).1)) ((F_l01Next code ((F_l01Next code ((F_l01Next code ((F_l01Next code ((F_l05Draw code (F_l01From code) 6).2) 3).2) ((F_l08Congruences (((F_l05Draw code (F_l01From code) 6).1).1) (((F_l05Draw code (F_l01From code) 6).1).2)).length : Int)).2) 12).2) ((gL (F_l08Congruences (((F_l05Draw code (F_l01From code) 6).1).1) (((F_l05Draw code (F_l01From code) 6).1).2)) ((F_l01Next code ((F_l01Next code ((F_l05Draw code (F_l01From code) 6).2) 3).2) ((F_l08Congruences (((F_l05Draw code (F_l01From code) 6).1).1) (((F_l05Draw code (F_l01From code) 6).1).2)).length : Int)).1)).length : Int)).1) (((F_l01Next code ((F_l01Next code ((F_l01Next code ((F_l01Next code ((F_l01Next code ((F_l05Draw code (F_l01From code) 6).2) 3).2) ((F_l08Congruences (((F_l05Draw code (F_l01From code) 6).1).1) (((F_l05Draw code (F_l01From code) 6).1).2)).length : Int)).2) 12).2) ((gL (F_l08Congruences (((F_l05Draw code (F_l01From code) 6).1).1) (((F_l05Draw code (F_l01From code) 6).1).2)) ((F_l01Next code ((F_l01Next code ((F_l05Draw code (F_l01From code) 6).2) 3).2) ((F_l08Congruences (((F_l05Draw code (F_l01From code) 6).1).1) (((F_l05Draw code (F_l01From code) 6).1).2)).length : Int)).1)).length : Int)).2) 9).1) - 1)) := by unfold F_s_DrawIsCongruence; rw [ht360, hb348, ht113, ht59]; first | done | rfl
      refine c_retC2 hE412 rfl rfl rfl Try.underlying30 rfl (by kernel_rfl) (St.row (i := 5) hS408 rfl _ (Ext.refl _)) ?_
      exact ⟨b32, c33, b328, c329, (by rw [hF]; first | rfl | (rw [(St.rdO (i := 1) hS408 rfl).len1])), (by rw [hF, (St.rdO (i := 1) hS408 rfl).len1]; exact St.own2 4 1 hS408 rfl rfl (by decide)), hS408.ext⟩
     ·
      have hp413 := of_decide_eq_false ht360
      have hE414 := hE359; rw [ht360] at hE414; clear hE359
      refine wp_skip ?_
      refine p_tn ?_
      refine c_seq ?_
      refine c_reg ?_
      refine q_step (v := .agg #[.int .i64 (((F_l05Draw code (F_l01From code) 6).1).1), .slice b32 ((((F_l05Draw code (F_l01From code) 6).1).2).length) c33]) hE414 (y_loadS Try.underlying30 rfl (by kernel_rfl) rfl (St.row (i := 3) hS340 rfl)) rfl rfl rfl ?_; intro a415 hE416; clear hE414
      refine q_step (v := .slice b328 ((gL (F_l08Congruences (((F_l05Draw code (F_l01From code) 6).1).1) (((F_l05Draw code (F_l01From code) 6).1).2)) ((F_l01Next code ((F_l01Next code ((F_l05Draw code (F_l01From code) 6).2) 3).2) ((F_l08Congruences (((F_l05Draw code (F_l01From code) 6).1).1) (((F_l05Draw code (F_l01From code) 6).1).2)).length : Int)).1)).length) c329) hE416 (y_move rfl) rfl rfl rfl ?_; intro a417 hE418; clear hE416
      refine l_step hE418 rfl (l_storeS (k := 5) (cs' := #[.int .i64 (((F_l05Draw code (F_l01From code) 6).1).1), .slice b32 ((((F_l05Draw code (F_l01From code) 6).1).2).length) c33]) hS340 hE418 (by kernel_rfl) rfl rfl (by kernel_rfl) rfl rfl ?_)
      intro w420 hS423 a421 hE422; clear hS340 hE418
      refine q_step (v := .slice b328 ((gL (F_l08Congruences (((F_l05Draw code (F_l01From code) 6).1).1) (((F_l05Draw code (F_l01From code) 6).1).2)) ((F_l01Next code ((F_l01Next code ((F_l05Draw code (F_l01From code) 6).2) 3).2) ((F_l08Congruences (((F_l05Draw code (F_l01From code) 6).1).1) (((F_l05Draw code (F_l01From code) 6).1).2)).length : Int)).1)).length) c329) hE422 (y_assign rfl) rfl rfl rfl ?_; intro a425 hE426; clear hE422
      refine c_nil ?_
      have hE427 := hE426.sub (L' := [(2, .pointer (some ⟨b1, 0, none⟩)), (3, .slice b328 ((gL (F_l08Congruences (((F_l05Draw code (F_l01From code) 6).1).1) (((F_l05Draw code (F_l01From code) 6).1).2)) ((F_l01Next code ((F_l01Next code ((F_l05Draw code (F_l01From code) 6).2) 3).2) ((F_l08Congruences (((F_l05Draw code (F_l01From code) 6).1).1) (((F_l05Draw code (F_l01From code) 6).1).2)).length : Int)).1)).length) c329)]) ⟨rfl, rfl, trivial⟩; clear hE426
      refine p_tn ?_
      refine wp_ret ?_
      have hF : F_s_DrawIsCongruence code = ((((F_l05Draw code (F_l01From code) 6).1).1, ((F_l05Draw code (F_l01From code) 6).1).2), (gL (F_l08Congruences (((F_l05Draw code (F_l01From code) 6).1).1) (((F_l05Draw code (F_l01From code) 6).1).2)) ((F_l01Next code ((F_l01Next code ((F_l05Draw code (F_l01From code) 6).2) 3).2) ((F_l08Congruences (((F_l05Draw code (F_l01From code) 6).1).1) (((F_l05Draw code (F_l01From code) 6).1).2)).length : Int)).1))) := by unfold F_s_DrawIsCongruence; rw [ht360, hb348, ht113, ht59]; first | done | rfl
      refine c_retC2 hE427 rfl rfl rfl Try.underlying30 rfl (by kernel_rfl) (St.row (i := 5) hS423 rfl _ (Ext.refl _)) ?_
      exact ⟨b32, c33, b328, c329, (by rw [hF]; first | done | (dsimp only; done) | rfl), (by rw [hF]; exact St.own2 4 1 hS423 rfl rfl (by decide)), hS423.ext⟩
    ·
     have hE428 := hE347; (try rw [hb348] at hE428); clear hE347
     have hp429 := of_decide_eq_false hb348
     refine q_skip hE428 rfl rfl rfl ?_; intro a430 hE431; clear hE428
     refine q_skip hE431 rfl rfl rfl ?_; intro a432 hE433; clear hE431
     refine q_skip hE433 rfl rfl rfl ?_; intro a434 hE435; clear hE433
     refine q_step (v := .bool false) hE435 (y_pick (b := false) rfl rfl) rfl rfl rfl ?_; intro a436 hE437; clear hE435
     refine c_nil ?_
     have hE438 := hE437.sub (L' := [(2, .pointer (some ⟨b1, 0, none⟩)), (4, .pointer (some ⟨b18, 0, none⟩)), (5, .pointer (some ⟨b35, 0, none⟩)), (7, .slice b328 ((gL (F_l08Congruences (((F_l05Draw code (F_l01From code) 6).1).1) (((F_l05Draw code (F_l01From code) 6).1).2)) ((F_l01Next code ((F_l01Next code ((F_l05Draw code (F_l01From code) 6).2) 3).2) ((F_l08Congruences (((F_l05Draw code (F_l01From code) 6).1).1) (((F_l05Draw code (F_l01From code) 6).1).2)).length : Int)).1)).length) c329), (42, .bool false)]) ⟨rfl, rfl, rfl, rfl, rfl, trivial⟩; clear hE437
     refine p_tn ?_
     refine c_false hE438 rfl ?_
     refine wp_skip ?_
     refine p_tn ?_
     refine c_seq ?_
     refine c_reg ?_
     refine q_step (v := .agg #[.int .i64 (((F_l05Draw code (F_l01From code) 6).1).1), .slice b32 ((((F_l05Draw code (F_l01From code) 6).1).2).length) c33]) hE438 (y_loadS Try.underlying30 rfl (by kernel_rfl) rfl (St.row (i := 3) hS340 rfl)) rfl rfl rfl ?_; intro a439 hE440; clear hE438
     refine q_step (v := .slice b328 ((gL (F_l08Congruences (((F_l05Draw code (F_l01From code) 6).1).1) (((F_l05Draw code (F_l01From code) 6).1).2)) ((F_l01Next code ((F_l01Next code ((F_l05Draw code (F_l01From code) 6).2) 3).2) ((F_l08Congruences (((F_l05Draw code (F_l01From code) 6).1).1) (((F_l05Draw code (F_l01From code) 6).1).2)).length : Int)).1)).length) c329) hE440 (y_move rfl) rfl rfl rfl ?_; intro a441 hE442; clear hE440
     refine l_step hE442 rfl (l_storeS (k := 5) (cs' := #[.int .i64 (((F_l05Draw code (F_l01From code) 6).1).1), .slice b32 ((((F_l05Draw code (F_l01From code) 6).1).2).length) c33]) hS340 hE442 (by kernel_rfl) rfl rfl (by kernel_rfl) rfl rfl ?_)
     intro w444 hS447 a445 hE446; clear hS340 hE442
     refine q_step (v := .slice b328 ((gL (F_l08Congruences (((F_l05Draw code (F_l01From code) 6).1).1) (((F_l05Draw code (F_l01From code) 6).1).2)) ((F_l01Next code ((F_l01Next code ((F_l05Draw code (F_l01From code) 6).2) 3).2) ((F_l08Congruences (((F_l05Draw code (F_l01From code) 6).1).1) (((F_l05Draw code (F_l01From code) 6).1).2)).length : Int)).1)).length) c329) hE446 (y_assign rfl) rfl rfl rfl ?_; intro a449 hE450; clear hE446
     refine c_nil ?_
     have hE451 := hE450.sub (L' := [(2, .pointer (some ⟨b1, 0, none⟩)), (3, .slice b328 ((gL (F_l08Congruences (((F_l05Draw code (F_l01From code) 6).1).1) (((F_l05Draw code (F_l01From code) 6).1).2)) ((F_l01Next code ((F_l01Next code ((F_l05Draw code (F_l01From code) 6).2) 3).2) ((F_l08Congruences (((F_l05Draw code (F_l01From code) 6).1).1) (((F_l05Draw code (F_l01From code) 6).1).2)).length : Int)).1)).length) c329)]) ⟨rfl, rfl, trivial⟩; clear hE450
     refine p_tn ?_
     refine wp_ret ?_
     have hF : F_s_DrawIsCongruence code = ((((F_l05Draw code (F_l01From code) 6).1).1, ((F_l05Draw code (F_l01From code) 6).1).2), (gL (F_l08Congruences (((F_l05Draw code (F_l01From code) 6).1).1) (((F_l05Draw code (F_l01From code) 6).1).2)) ((F_l01Next code ((F_l01Next code ((F_l05Draw code (F_l01From code) 6).2) 3).2) ((F_l08Congruences (((F_l05Draw code (F_l01From code) 6).1).1) (((F_l05Draw code (F_l01From code) 6).1).2)).length : Int)).1))) := by unfold F_s_DrawIsCongruence; rw [hb348, ht113, ht59]; first | done | rfl
     refine c_retC2 hE451 rfl rfl rfl Try.underlying30 rfl (by kernel_rfl) (St.row (i := 5) hS447 rfl _ (Ext.refl _)) ?_
     exact ⟨b32, c33, b328, c329, (by rw [hF]; first | done | (dsimp only; done) | rfl), (by rw [hF]; exact St.own2 4 1 hS447 rfl rfl (by decide)), hS447.ext⟩
theorem len_bif (m : Nat) (b : Bool) (x y : (Int × List Int) × List Int) (hx : x.2.length ≤ m) (hy : y.2.length ≤ m) : (bif b then x else y).2.length ≤ m := by
  cases b
  · exact hy
  · exact hx
theorem DrawCong_len (code : List Int) : (F_s_DrawIsCongruence code).2.length ≤ 8 := by
  unfold F_s_DrawIsCongruence
  generalize F_l05Draw code (F_l01From code) 6 = D
  cases h : F_l05Is D.1.1 D.1.2
  · exact Nat.zero_le _
  · have ht := l05Is_t h
    have hp := parts_gl ht.1.1 ht.1.2
    have hc := cong_gl D.1.2 ht.1.1 ht.1.2
    rw [Bool.not_true, cond_false]
    refine len_bif 8 _ _ _ (len_bif 8 _ _ _ (len_bif 8 _ _ _ ?_ ?_) ?_) (len_bif 8 _ _ _ (len_bif 8 _ _ _ ?_ ?_) ?_)
    · show (sI _ _ _).length ≤ 8
      rw [sI_len]; exact hp _
    · exact hp _
    · exact hp _
    · show (sI _ _ _).length ≤ 8
      rw [sI_len]; exact hc _
    · exact hc _
    · exact hc _
def F_s_DrawQuotientFrame (code : List Int) : (Int × List Int) × (List Int) :=
  ((((F_s_DrawIsCongruence code).1).1, ((F_s_DrawIsCongruence code).1).2), (F_s_DrawIsCongruence code).2)
theorem cf_s_DrawQuotientFrame (args : Array Value) (w : World) : (callFunc 50 args).run Try.prog w = .ok (.enter 50 args) w := by kernel_rfl
set_option maxRecDepth 100000 in
theorem c_s_DrawQuotientFrame (codeA : Option Addr) (codeN codeC : Nat) (code : List Int) (w : World) (codeR : RdB w codeA codeN codeC code) :
    Calls Try.prog 50 #[.slice codeA code.length codeC] w (Ret fun v w' => ∃ b1 : Option Addr, ∃ c1 : Nat, ∃ b2 : Option Addr, ∃ c2 : Nat, v = .tuple #[.agg #[.int .i64 (((F_s_DrawQuotientFrame code).1).1), .slice b1 (((F_s_DrawQuotientFrame code).1).2).length c1], .slice b2 ((F_s_DrawQuotientFrame code).2).length c2] ∧ Own2 w' w.heap.size 2 b1 (((F_s_DrawQuotientFrame code).1).2).length c1 (((F_s_DrawQuotientFrame code).1).2) b2 ((F_s_DrawQuotientFrame code).2).length c2 ((F_s_DrawQuotientFrame code).2) ∧ Ext w w') := by
  obtain rfl : codeN = code.length := codeR.len
  have codeLe := codeR.le
  have hS := St.nil w
  refine enter (args := [.slice codeA code.length codeC]) Try.func50 rfl rfl ?_
  rw [Try.ntmps50]; intro a hE
  have hE := hE.sub (L' := [(0, .slice codeA code.length codeC)]) ⟨rfl, trivial⟩
  refine c_seq ?_
  refine c_reg ?_
  refine l_step hE rfl (l_alloc (z := .agg #[.int .i64 0, .slice none 0 0]) (cs := #[.int .i64 0, .slice none 0 0]) hS hE (fun _ => by kernel_rfl) rfl rfl ?_)
  intro b1 w2 hS5 he6 a3 hE4; clear hS hE
  refine q_step (v := .slice none 0 0) hE4 (y_assign rfl) rfl rfl rfl ?_; intro a7 hE8; clear hE4
  refine c_nil ?_
  have hE9 := hE8.sub (L' := [(0, .slice codeA code.length codeC), (2, .pointer (some ⟨b1, 0, none⟩))]) ⟨rfl, rfl, trivial⟩; clear hE8
  refine p_tn ?_
  refine c_seq ?_
  refine c_reg ?_
  refine q_step (v := .slice codeA code.length codeC) hE9 (y_move rfl) rfl rfl rfl ?_; intro a10 hE11; clear hE9
  refine l_step hE11 rfl (l_call (f := 110) (argv := [.slice codeA code.length codeC]) hE11 (fun _ => cf_s_DrawIsCongruence _ _) rfl rfl (c_s_DrawIsCongruence codeA code.length codeC code w2 (codeR.ext hS5.ext)) ?_)
  rintro _ w13 ⟨b18, c19, b20, c21, rfl, ho22, he17⟩ a14 hE15; clear hE11
  have hS16 := St.push2 hS5 he17 ho22; clear hS5
  refine q_step (v := .agg #[.int .i64 (((F_s_DrawIsCongruence code).1).1), .slice b18 ((((F_s_DrawIsCongruence code).1).2).length) c19]) hE15 (y_extract rfl rfl) rfl rfl rfl ?_; intro a24 hE25; clear hE15
  refine q_step (v := .slice b20 (((F_s_DrawIsCongruence code).2).length) c21) hE25 (y_extract rfl rfl) rfl rfl rfl ?_; intro a26 hE27; clear hE25
  refine l_step hE27 rfl (l_storeS (k := 2) (cs' := #[.int .i64 (((F_s_DrawIsCongruence code).1).1), .slice b18 ((((F_s_DrawIsCongruence code).1).2).length) c19]) hS16 hE27 (by kernel_rfl) rfl rfl (by kernel_rfl) rfl rfl ?_)
  intro w29 hS32 a30 hE31; clear hS16 hE27
  refine q_step (v := .slice b20 (((F_s_DrawIsCongruence code).2).length) c21) hE31 (y_assign rfl) rfl rfl rfl ?_; intro a34 hE35; clear hE31
  refine c_nil ?_
  have hE36 := hE35.sub (L' := [(2, .pointer (some ⟨b1, 0, none⟩)), (3, .slice b20 (((F_s_DrawIsCongruence code).2).length) c21)]) ⟨rfl, rfl, trivial⟩; clear hE35
  refine p_tn ?_
  refine wp_ret ?_
  have hF : F_s_DrawQuotientFrame code = ((((F_s_DrawIsCongruence code).1).1, ((F_s_DrawIsCongruence code).1).2), (F_s_DrawIsCongruence code).2) := by unfold F_s_DrawQuotientFrame; rfl
  refine c_retC2 hE36 rfl rfl rfl Try.underlying30 rfl (by kernel_rfl) (St.row (i := 2) hS32 rfl _ (Ext.refl _)) ?_
  exact ⟨b18, c19, b20, c21, (by rw [hF]; first | done | (dsimp only; done) | rfl), (by rw [hF]; exact St.own2 0 1 hS32 rfl rfl (by decide)), hS32.ext⟩
theorem DrawQuot_len (code : List Int) : (F_s_DrawQuotientFrame code).2.length ≤ 8 := DrawCong_len code
end Go.Proofs.Ytlbonhloeefnmaa
