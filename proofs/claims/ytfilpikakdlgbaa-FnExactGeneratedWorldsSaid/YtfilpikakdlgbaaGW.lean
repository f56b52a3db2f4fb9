/- GW: models and contracts, printed by wip/gen/gen.py -/
import Derived.Test.YtfilpikakdlgbaaGQ
set_option linter.unusedVariables false
set_option linter.unusedSimpArgs false
namespace Go.Proofs.Ytfilpikakdlgbaa
open Go.RowKit

def F_image_L1b (relation : List Int) (mask : Int) (rec : Int → Int → Int × Int) (out5 : Int) (t11 : Int) : Int × Int :=
  bif (decide (t11 < ((F_membersOf mask).length : Int))) then (rec (orI out5 (gI relation (gI (F_membersOf mask) t11))) (t11 + 1)) else (out5, t11)
def F_image_L1 (relation : List Int) (mask : Int) : Nat → Int → Int → Int × Int
  | 0, out5, t11 => (out5, t11)
  | r + 1, out5, t11 => F_image_L1b relation mask (F_image_L1 relation mask r) out5 t11
def F_image (relation : List Int) (mask : Int) : Int :=
  (F_image_L1 relation mask (Int.toNat (((F_membersOf mask).length : Int) - 0) + 1) 0 0).1
theorem cf_image (args : Array Value) (w : World) : (callFunc 103 args).run Try.prog w = .ok (.enter 103 args) w := by kernel_rfl
set_option maxRecDepth 100000 in
theorem c_image (relationA : Option Addr) (relationN relationC : Nat) (relation : List Int) (mask : Int) (w : World) (relationR : RdS w 1 relationA relationN relationC relation) (hl : relation.length ≤ 30) (h0 : 0 ≤ mask) (h1 : mask ≤ fullI (relation.length : Int)) (h2 : mask < 4611686018427387904) :
    Calls Try.prog 103 #[.slice relationA relationN relationC, .int .i64 mask] w (Ret fun v w' => v = .int .i64 (F_image relation mask) ∧ Ext w w') := by
  obtain rfl : relationN = relation.length := relationR.len1.symm
  have relationLe := relationR.le
  have hml := members_len (mask := mask) (n := relation.length) (by omega) h0 h1
  have hS := St.nil w
  have hS1 := St.rd0 hS rfl relationR; clear hS
  refine enter (args := [.slice relationA relation.length relationC, .int .i64 mask]) Try.func103 rfl rfl ?_
  rw [Try.ntmps103]; intro a hE
  have hE := hE.sub (L' := [(0, .slice relationA relation.length relationC), (1, .int .i64 mask)]) ⟨rfl, rfl, trivial⟩
  refine c_seq ?_
  refine c_reg ?_
  refine q_step (v := .int .i64 0) hE (y_assign rfl) rfl rfl rfl ?_; intro a2 hE3; clear hE
  refine c_nil ?_
  have hE4 := hE3.sub (L' := [(0, .slice relationA relation.length relationC), (1, .int .i64 mask)]) ⟨rfl, rfl, trivial⟩; clear hE3
  refine p_tn ?_
  refine c_seq ?_
  refine c_reg ?_
  refine q_step (v := .int .i64 0) hE4 (y_assign rfl) rfl rfl rfl ?_; intro a5 hE6; clear hE4
  refine c_nil ?_
  have hE7 := hE6.sub (L' := [(0, .slice relationA relation.length relationC), (1, .int .i64 mask), (5, .int .i64 0)]) ⟨rfl, rfl, rfl, trivial⟩; clear hE6
  refine p_tn ?_
  refine c_seq ?_
  refine c_seq ?_
  refine c_reg ?_
  refine q_step (v := .int .i64 mask) hE7 (y_move rfl) rfl rfl rfl ?_; intro a8 hE9; clear hE7
  refine l_step hE9 rfl (l_call (f := 121) (argv := [.int .i64 mask]) hE9 (fun _ => cf_membersOf _ _) rfl rfl (c_membersOf mask w (by omega) (by omega)) ?_)
  rintro _ w11 ⟨b16, c17, rfl, ho18, he15⟩ a12 hE13; clear hE9
  have hS14 := St.own hS1 he15 ho18; clear hS1
  refine q_step (v := .int .i64 ((F_membersOf mask).length : Int)) hE13 (y_len (e := 2) (by kernel_rfl) rfl) rfl rfl rfl ?_; intro a19 hE20; clear hE13
  refine q_step (v := .int .i64 0) hE20 (y_move rfl) rfl rfl rfl ?_; intro a21 hE22; clear hE20
  refine c_nil ?_
  have hE23 := hE22.sub (L' := [(0, .slice relationA relation.length relationC), (5, .int .i64 0), (9, .slice b16 ((F_membersOf mask).length) c17), (10, .int .i64 ((F_membersOf mask).length : Int)), (11, .int .i64 0)]) ⟨rfl, rfl, rfl, rfl, rfl, trivial⟩; clear hE22
  refine p_tn ?_
  refine c_cut1 (fun a' w' => (0 ≤ ((F_image_L1 relation mask (Int.toNat (((F_membersOf mask).length : Int) - 0) + 1) 0 0).2)) ∧ (((F_image_L1 relation mask (Int.toNat (((F_membersOf mask).length : Int) - 0) + 1) 0 0).2) ≤ ((F_membersOf mask).length : Int)) ∧ E a' 23 [(0, .slice relationA relation.length relationC), (5, .int .i64 ((F_image_L1 relation mask (Int.toNat (((F_membersOf mask).length : Int) - 0) + 1) 0 0).1)), (9, .slice b16 ((F_membersOf mask).length) c17), (10, .int .i64 ((F_membersOf mask).length : Int)), (11, .int .i64 ((F_image_L1 relation mask (Int.toNat (((F_membersOf mask).length : Int) - 0) + 1) 0 0).2))] ∧ St w w' [.own 2 1 b16 ((F_membersOf mask).length) c17 (F_membersOf mask), .rd 1 relationA relation.length relationC relation]) ?_ ?_
  ·
    refine wp_block ?_
    refine c_loop (fun r a' w' => ∃ out5 : Int, ∃ t11 : Int, F_image_L1 relation mask r out5 t11 = F_image_L1 relation mask (Int.toNat (((F_membersOf mask).length : Int) - 0) + 1) 0 0 ∧ Int.toNat (((F_membersOf mask).length : Int) - t11) < r ∧ (0 ≤ t11) ∧ (t11 ≤ ((F_membersOf mask).length : Int)) ∧ E a' 23 [(0, .slice relationA relation.length relationC), (5, .int .i64 out5), (9, .slice b16 ((F_membersOf mask).length) c17), (10, .int .i64 ((F_membersOf mask).length : Int)), (11, .int .i64 t11)] ∧ St w w' [.own 2 1 b16 ((F_membersOf mask).length) c17 (F_membersOf mask), .rd 1 relationA relation.length relationC relation]) (r := (Int.toNat (((F_membersOf mask).length : Int) - 0) + 1)) ?_ ?_
    · exact ⟨0, 0, rfl, Nat.lt_succ_self _, (by first | omega | (simp only [List.length_append, List.length_cons, List.length_nil, sI_len, cond_true, cond_false]; omega) | (simp only [List.length_append, List.length_cons, List.length_nil, sI_len, cond_eq_ite, apply_ite List.length]; split <;> simp only [List.length_append, List.length_cons, List.length_nil, sI_len] <;> omega) | grind), (by first | omega | (simp only [List.length_append, List.length_cons, List.length_nil, sI_len, cond_true, cond_false]; omega) | (simp only [List.length_append, List.length_cons, List.length_nil, sI_len, cond_eq_ite, apply_ite List.length]; split <;> simp only [List.length_append, List.length_cons, List.length_nil, sI_len] <;> omega) | grind), (hE23.sub (L' := [(0, .slice relationA relation.length relationC), (5, .int .i64 0), (9, .slice b16 ((F_membersOf mask).length) c17), (10, .int .i64 ((F_membersOf mask).length : Int)), (11, .int .i64 0)]) ⟨rfl, rfl, rfl, rfl, rfl, trivial⟩), (St.pick (Γ' := [.own 2 1 b16 ((F_membersOf mask).length) c17 (F_membersOf mask), .rd 1 relationA relation.length relationC relation]) hS14 [0, 1] (by decide) rfl)⟩
    ·
      clear hE23 hS14
      rintro r33 a25 w26 ⟨out5, t11, hT29, hr30, hi31, hi32, hE27, hS28⟩
      obtain ⟨r33, rfl⟩ : ∃ r', r33 = r' + 1 := ⟨r33 - 1, by omega⟩
      refine c_seq ?_
      refine c_reg ?_
      refine q_step (v := .bool (decide (t11 < ((F_membersOf mask).length : Int)))) hE27 (y_lss rfl rfl) rfl rfl rfl ?_; intro a34 hE35; clear hE27
      refine c_nil ?_
      have hE36 := hE35.sub (L' := [(0, .slice relationA relation.length relationC), (5, .int .i64 out5), (9, .slice b16 ((F_membersOf mask).length) c17), (10, .int .i64 ((F_membersOf mask).length : Int)), (11, .int .i64 t11), (12, .bool (decide (t11 < ((F_membersOf mask).length : Int))))]) ⟨rfl, rfl, rfl, rfl, rfl, rfl, trivial⟩; clear hE35
      refine p_tn ?_
      refine c_seq ?_
      refine c_cond hE36 rfl (fun ht37 => ?_) (fun ht37 => ?_)
      ·
        have hp38 := of_decide_eq_true ht37
        have hE39 := hE36; rw [ht37] at hE39; clear hE36
        have hm1 := members_lt (mask := mask) (n := relation.length) (by omega) h0 h1 t11 (by omega) (by omega)
        refine wp_skip ?_
        refine p_tn ?_
        refine c_seq ?_
        refine wp_block ?_
        refine c_seq ?_
        refine c_reg ?_
        refine q_step (v := .pointer (some (adr b16 (Int.toNat t11)))) hE39 (y_idx (by kernel_rfl) (fun _ => by kernel_rfl) rfl rfl (RdS.isS (m := t11) (St.rdO (i := 0) hS28 rfl) (by omega) (by omega)) (by omega) (by omega) (Nat.mul_one _).symm) rfl rfl rfl ?_; intro a40 hE41; clear hE39
        refine q_step (v := .int .i64 (gI (F_membersOf mask) t11)) hE41 (y_load (fun _ => by kernel_rfl) rfl (RdS.elt (St.rdO (i := 0) hS28 rfl) (by omega) (by omega))) rfl rfl rfl ?_; intro a42 hE43; clear hE41
        refine q_step (v := .int .i64 (gI (F_membersOf mask) t11)) hE43 (y_assign rfl) rfl rfl rfl ?_; intro a44 hE45; clear hE43
        refine c_nil ?_
        have hE46 := hE45.sub (L' := [(0, .slice relationA relation.length relationC), (5, .int .i64 out5), (7, .int .i64 (gI (F_membersOf mask) t11)), (9, .slice b16 ((F_membersOf mask).length) c17), (10, .int .i64 ((F_membersOf mask).length : Int)), (11, .int .i64 t11)]) ⟨rfl, rfl, rfl, rfl, rfl, rfl, trivial⟩; clear hE45
        refine p_tn ?_
        refine c_reg ?_
        refine q_step (v := .int .i64 out5) hE46 (y_move rfl) rfl rfl rfl ?_; intro a47 hE48; clear hE46
        refine q_step (v := .slice relationA relation.length relationC) hE48 (y_move rfl) rfl rfl rfl ?_; intro a49 hE50; clear hE48
        refine q_step (v := .int .i64 (gI (F_membersOf mask) t11)) hE50 (y_move rfl) rfl rfl rfl ?_; intro a51 hE52; clear hE50
        refine q_step (v := .pointer (some (adr relationA (Int.toNat (gI (F_membersOf mask) t11))))) hE52 (y_idx (by kernel_rfl) (fun _ => by kernel_rfl) rfl rfl (RdS.isS (m := gI (F_membersOf mask) t11) (St.rdR (i := 1) hS28 rfl) (by omega) (by omega)) (by omega) (by omega) (Nat.mul_one _).symm) rfl rfl rfl ?_; intro a53 hE54; clear hE52
        refine q_step (v := .int .i64 (gI relation (gI (F_membersOf mask) t11))) hE54 (y_load (fun _ => by kernel_rfl) rfl (RdS.elt (St.rdR (i := 1) hS28 rfl) (by omega) (by omega))) rfl rfl rfl ?_; intro a55 hE56; clear hE54
        refine q_step (v := .int .i64 (orI out5 (gI relation (gI (F_membersOf mask) t11)))) hE56 (y_or rfl rfl) rfl rfl rfl ?_; intro a57 hE58; clear hE56
        refine q_step (v := .int .i64 (orI out5 (gI relation (gI (F_membersOf mask) t11)))) hE58 (y_assign rfl) rfl rfl rfl ?_; intro a59 hE60; clear hE58
        refine c_nil ?_
        have hE61 := hE60.sub (L' := [(0, .slice relationA relation.length relationC), (5, .int .i64 (orI out5 (gI relation (gI (F_membersOf mask) t11)))), (9, .slice b16 ((F_membersOf mask).length) c17), (10, .int .i64 ((F_membersOf mask).length : Int)), (11, .int .i64 t11)]) ⟨rfl, rfl, rfl, rfl, rfl, trivial⟩; clear hE60
        refine p_bn ?_
        refine p_tn ?_
        refine c_reg ?_
        refine q_step (v := .int .i64 (t11 + 1)) hE61 (y_add rfl rfl ⟨(by omega), (by omega)⟩) rfl rfl rfl ?_; intro a62 hE63; clear hE61
        refine q_step (v := .int .i64 (t11 + 1)) hE63 (y_move rfl) rfl rfl rfl ?_; intro a64 hE65; clear hE63
        refine c_nil ?_
        have hE66 := hE65.sub (L' := [(0, .slice relationA relation.length relationC), (5, .int .i64 (orI out5 (gI relation (gI (F_membersOf mask) t11)))), (9, .slice b16 ((F_membersOf mask).length) c17), (10, .int .i64 ((F_membersOf mask).length : Int)), (11, .int .i64 (t11 + 1))]) ⟨rfl, rfl, rfl, rfl, rfl, trivial⟩; clear hE65
        refine p_tn ⟨r33, Nat.lt_succ_self _, orI out5 (gI relation (gI (F_membersOf mask) t11)), t11 + 1, (hT29.symm.trans (show F_image_L1b relation mask (F_image_L1 relation mask r33) out5 t11 = F_image_L1 relation mask r33 (orI out5 (gI relation (gI (F_membersOf mask) t11))) (t11 + 1) by unfold F_image_L1b; rw [ht37]; first | done | rfl)).symm, (by omega), (by first | omega | (simp only [List.length_append, List.length_cons, List.length_nil, sI_len, cond_true, cond_false]; omega) | (simp only [List.length_append, List.length_cons, List.length_nil, sI_len, cond_eq_ite, apply_ite List.length]; split <;> simp only [List.length_append, List.length_cons, List.length_nil, sI_len] <;> omega) | grind), (by first | omega | (simp only [List.length_append, List.length_cons, List.length_nil, sI_len, cond_true, cond_false]; omega) | (simp only [List.length_append, List.length_cons, List.length_nil, sI_len, cond_eq_ite, apply_ite List.length]; split <;> simp only [List.length_append, List.length_cons, List.length_nil, sI_len] <;> omega) | grind), (hE66.sub (L' := [(0, .slice relationA relation.length relationC), (5, .int .i64 (orI out5 (gI relation (gI (F_membersOf mask) t11)))), (9, .slice b16 ((F_membersOf mask).length) c17), (10, .int .i64 ((F_membersOf mask).length : Int)), (11, .int .i64 (t11 + 1))]) ⟨rfl, rfl, rfl, rfl, rfl, trivial⟩), (St.pick (Γ' := [.own 2 1 b16 ((F_membersOf mask).length) c17 (F_membersOf mask), .rd 1 relationA relation.length relationC relation]) hS28 [0, 1] (by decide) rfl)⟩
      ·
        have hp67 := of_decide_eq_false ht37
        have hE68 := hE36; rw [ht37] at hE68; clear hE36
        refine wp_exit ?_
        refine p_te ?_
        have hX69 : F_image_L1 relation mask (Int.toNat (((F_membersOf mask).length : Int) - 0) + 1) 0 0 = (out5, t11) := hT29.symm.trans (show F_image_L1b relation mask (F_image_L1 relation mask r33) out5 t11 = (out5, t11) by unfold F_image_L1b; rw [ht37]; first | done | rfl)
        refine p_te (p_be (p_tn ?_))
        exact ⟨(by rw [hX69]; exact (show 0 ≤ t11 from (by first | omega | (simp only [List.length_append, List.length_cons, List.length_nil, sI_len, cond_true, cond_false]; omega) | (simp only [List.length_append, List.length_cons, List.length_nil, sI_len, cond_eq_ite, apply_ite List.length]; split <;> simp only [List.length_append, List.length_cons, List.length_nil, sI_len] <;> omega) | grind))), (by rw [hX69]; exact (show t11 ≤ ((F_membersOf mask).length : Int) from (by first | omega | (simp only [List.length_append, List.length_cons, List.length_nil, sI_len, cond_true, cond_false]; omega) | (simp only [List.length_append, List.length_cons, List.length_nil, sI_len, cond_eq_ite, apply_ite List.length]; split <;> simp only [List.length_append, List.length_cons, List.length_nil, sI_len] <;> omega) | grind))), (by rw [hX69]; exact (hE68.sub (L' := [(0, .slice relationA relation.length relationC), (5, .int .i64 out5), (9, .slice b16 ((F_membersOf mask).length) c17), (10, .int .i64 ((F_membersOf mask).length : Int)), (11, .int .i64 t11)]) ⟨rfl, rfl, rfl, rfl, rfl, trivial⟩)), (St.pick (Γ' := [.own 2 1 b16 ((F_membersOf mask).length) c17 (F_membersOf mask), .rd 1 relationA relation.length relationC relation]) hS28 [0, 1] (by decide) rfl)⟩
  ·
    rintro a70 w71 ⟨hi75, hi76, hE72, hS73⟩; clear hE23 hS14
    refine p_tn ?_
    refine c_seq ?_
    refine c_reg ?_
    refine q_step (v := .int .i64 ((F_image_L1 relation mask (Int.toNat (((F_membersOf mask).length : Int) - 0) + 1) 0 0).1)) hE72 (y_move rfl) rfl rfl rfl ?_; intro a77 hE78; clear hE72
    refine q_step (v := .int .i64 ((F_image_L1 relation mask (Int.toNat (((F_membersOf mask).length : Int) - 0) + 1) 0 0).1)) hE78 (y_assign rfl) rfl rfl rfl ?_; intro a79 hE80; clear hE78
    refine c_nil ?_
    have hE81 := hE80.sub (L' := [(4, .int .i64 ((F_image_L1 relation mask (Int.toNat (((F_membersOf mask).length : Int) - 0) + 1) 0 0).1))]) ⟨rfl, trivial⟩; clear hE80
    refine p_tn ?_
    refine wp_ret ?_
    have hF : F_image relation mask = (F_image_L1 relation mask (Int.toNat (((F_membersOf mask).length : Int) - 0) + 1) 0 0).1 := by unfold F_image; rfl
    refine c_ret1 hE81 rfl rfl ?_
    exact ⟨(by rw [hF]; first | done | rfl), hS73.ext⟩

/-- Bit j of a mask. -/
def tb (m : Int) (j : Nat) : Bool := m.toNat.testBit j
/-- A mask of n bits. -/
def Mk (n : Nat) (m : Int) : Prop := 0 ≤ m ∧ m ≤ fullI (n : Int)
theorem le_full {m n : Nat} (h : m < 2 ^ n) : (m : Int) ≤ fullI (n : Int) := by
  unfold fullI
  rw [Int.toNat_natCast]
  have : ((2 : Int) ^ n) = ((2 ^ n : Nat) : Int) := by norm_cast
  rw [this]; omega
theorem Mk.lt {n : Nat} {m : Int} (h : Mk n m) : m.toNat < 2 ^ n := full_toNat h.1 h.2
theorem Mk.sm {n : Nat} {m : Int} (h : Mk n m) (hn : n ≤ 62) : m < 4611686018427387904 := by
  have := fullI_bd (n := (n : Int)) (by omega) (by omega)
  have := h.2; omega
theorem Mk.of {n : Nat} {m : Int} (h0 : 0 ≤ m) (h : m.toNat < 2 ^ n) : Mk n m := by
  refine ⟨h0, ?_⟩
  have := le_full h
  omega
theorem Mk.zero (n : Nat) : Mk n 0 := Mk.of (by omega) (Nat.pow_pos (by decide))
theorem tb_zero (j : Nat) : tb 0 j = false := Nat.zero_testBit j
theorem tb_big {n : Nat} {m : Int} (h : Mk n m) {j : Nat} (hj : n ≤ j) : tb m j = false := bit_small h.lt hj
theorem tb_lt {n : Nat} {m : Int} (h : Mk n m) {j : Nat} (hj : tb m j = true) : j < n := by
  apply Decidable.byContradiction; intro h'
  rw [tb_big h (by omega)] at hj; cases hj
theorem tb_ext {a b : Int} (ha : 0 ≤ a) (hb : 0 ≤ b) (h : ∀ j, tb a j = tb b j) : a = b := by
  have : a.toNat = b.toNat := Nat.eq_of_testBit_eq h
  omega
theorem Mk.ofBits {n : Nat} {m : Int} (h0 : 0 ≤ m) (h : ∀ j, tb m j = true → j < n) : Mk n m :=
  Mk.of h0 (Nat.lt_pow_two_of_testBit _ fun j hj => by
    cases e : m.toNat.testBit j
    · rfl
    · have := h j e; omega)
theorem Mk.or {n : Nat} (hn : n ≤ 62) {a b : Int} (ha : Mk n a) (hb : Mk n b) : Mk n (orI a b) ∧ ∀ j, tb (orI a b) j = (tb a j || tb b j) := by
  have h1 := ha.sm hn
  have h2 := hb.sm hn
  obtain ⟨h3, h4, h5⟩ := orI_testBit ha.1 (by omega) hb.1 (by omega)
  refine ⟨Mk.ofBits h3 fun j hj => ?_, h5⟩
  have e : tb (orI a b) j = (tb a j || tb b j) := h5 j
  rw [e, Bool.or_eq_true] at hj
  rcases hj with h | h
  · exact tb_lt ha h
  · exact tb_lt hb h
theorem Mk.anz {n : Nat} (hn : n ≤ 62) {a b : Int} (ha : Mk n a) (hb : Mk n b) : anI a b = 0 ↔ ∀ j, tb a j = true → tb b j = true := by
  have h1 := ha.sm hn
  have h2 := hb.sm hn
  obtain ⟨h3, h4, h5⟩ := anI_testBit ha.1 (by omega) hb.1 (by omega)
  constructor
  · intro h j hj
    have := h5 j
    rw [h] at this
    have e : (0 : Int).toNat.testBit j = false := Nat.zero_testBit j
    rw [e] at this
    unfold tb at hj ⊢
    rw [hj] at this
    cases hb' : b.toNat.testBit j
    · rw [hb'] at this; cases this
    · rfl
  · intro h
    apply tb_ext h3 (by omega)
    intro j
    rw [tb_zero]
    show (anI a b).toNat.testBit j = false
    rw [h5 j]
    cases ha' : a.toNat.testBit j
    · rfl
    · have := h j ha'
      unfold tb at this
      rw [this]; rfl
theorem tb_has {n : Nat} (hn : n ≤ 62) {m : Int} (h : Mk n m) {j : Nat} (hj : j ≤ 62) : F_has m (j : Int) = tb m j := has_eq h.1 (h.sm hn) hj
theorem tb_pow (t j : Nat) : tb (powI (t : Int)) j = decide (t = j) := by
  unfold tb powI
  have e : ((2 : Int) ^ (t : Int).toNat).toNat = 2 ^ t := by
    rw [Int.toNat_natCast]
    have : ((2 : Int) ^ t) = ((2 ^ t : Nat) : Int) := by norm_cast
    rw [this, Int.toNat_natCast]
  rw [e, Nat.testBit_two_pow]
theorem Mk.pow {n t : Nat} (ht : t < n) : Mk n (powI (t : Int)) :=
  Mk.ofBits (by unfold powI; exact Int.pow_nonneg (by decide)) fun j hj => by
    rw [tb_pow] at hj
    have := of_decide_eq_true hj; omega
theorem fold_or {n : Nat} (hn : n ≤ 62) (p : Nat → Bool) (f : Nat → Int) : ∀ (l : List Nat) (o : Int), Mk n o → (∀ i ∈ l, p i = true → Mk n (f i)) →
    Mk n (l.foldl (fun o i => bif p i then orI o (f i) else o) o) ∧ ∀ j, (tb (l.foldl (fun o i => bif p i then orI o (f i) else o) o) j = true ↔ (tb o j = true ∨ ∃ i, i ∈ l ∧ p i = true ∧ tb (f i) j = true)) := by
  intro l
  induction l with
  | nil => intro o ho _; exact ⟨ho, fun j => ⟨fun h => .inl h, fun h => h.elim id fun ⟨i, hi, _⟩ => by cases hi⟩⟩
  | cons a l ih =>
    intro o ho hf
    rw [List.foldl_cons]
    cases hp : p a
    · obtain ⟨h1, h2⟩ := ih o ho fun i hi => hf i (List.mem_cons_of_mem _ hi)
      refine ⟨h1, fun j => (h2 j).trans ⟨fun h => h.elim .inl fun ⟨i, hi, h⟩ => .inr ⟨i, List.mem_cons_of_mem _ hi, h⟩, fun h => h.elim .inl fun ⟨i, hi, hq⟩ => ?_⟩⟩
      rcases List.mem_cons.1 hi with rfl | hi
      · rw [hp] at hq; cases hq.1
      · exact .inr ⟨i, hi, hq⟩
    · obtain ⟨h3, h4⟩ := Mk.or hn ho (hf a (List.mem_cons_self ..) hp)
      obtain ⟨h1, h2⟩ := ih _ h3 fun i hi => hf i (List.mem_cons_of_mem _ hi)
      refine ⟨h1, fun j => (h2 j).trans ?_⟩
      rw [h4 j, Bool.or_eq_true]
      constructor
      · rintro ((h | h) | ⟨i, hi, h⟩)
        · exact .inl h
        · exact .inr ⟨a, List.mem_cons_self .., hp, h⟩
        · exact .inr ⟨i, List.mem_cons_of_mem _ hi, h⟩
      · rintro (h | ⟨i, hi, h⟩)
        · exact .inl (.inl h)
        · rcases List.mem_cons.1 hi with rfl | hi
          · exact .inl (.inr h.2)
          · exact .inr ⟨i, hi, h⟩
/-- A relation: a list of n masks of n bits. -/
def Rl (n : Nat) (a : List Int) : Prop := a.length = n ∧ ∀ i : Nat, i < n → Mk n (gI a (i : Int))
/-- i sees j. -/
def rb (a : List Int) (i j : Nat) : Bool := tb (gI a (i : Int)) j
theorem l01Image_bits {n : Nat} (hn : n ≤ 62) {a : List Int} {mask : Int} (ha : Rl n a) (hm : Mk n mask) : Mk n (F_l01Image a mask) ∧ ∀ j, (tb (F_l01Image a mask) j = true ↔ ∃ i, tb mask i = true ∧ rb a i j = true) := by
  unfold F_l01Image
  rw [rangeLoop0 (a.length : Int) (by omega) (fun o i => bif F_l01Bit mask i then orI o (gI a i) else o) (F_l01Image_L1 a mask) (fun _ _ _ => rfl), Int.toNat_natCast]
  obtain ⟨h1, h2⟩ := fold_or hn (fun i => F_l01Bit mask (i : Int)) (fun i => gI a (i : Int)) (List.range a.length) 0 (Mk.zero n) (fun i hi _ => ha.2 i (by rw [← ha.1]; exact List.mem_range.1 hi))
  refine ⟨h1, fun j => (h2 j).trans ⟨?_, ?_⟩⟩
  · rintro (h | ⟨i, hi, h, h'⟩)
    · rw [tb_zero] at h; cases h
    · have := List.mem_range.1 hi
      have hl := ha.1
      exact ⟨i, (tb_has hn hm (by omega)).symm.trans h, h'⟩
  · rintro ⟨i, h, h'⟩
    have hi := tb_lt hm h
    refine .inr ⟨i, List.mem_range.2 (by rw [ha.1]; exact hi), ?_, h'⟩
    exact (tb_has hn hm (by omega)).trans h
theorem image_eq {n : Nat} (hn : n ≤ 62) {a : List Int} {mask : Int} (hl : a.length = n) (hm : Mk n mask) : F_image a mask = F_l01Image a mask := by
  unfold F_image F_l01Image
  subst hl
  rw [listLoop (F_membersOf mask) (fun o m => orI o (gI a m)) (F_image_L1 a mask) (fun _ _ _ => rfl), members_fold (n := a.length) hn hm.1 hm.2,
    rangeLoop0 (a.length : Int) (by omega) (fun o i => bif F_l01Bit mask i then orI o (gI a i) else o) (F_l01Image_L1 a mask) (fun _ _ _ => rfl), Int.toNat_natCast]
  rfl

theorem tr2_len (ap : List Int) (k : Int) (r : Nat) (i : Int) (b : List Int) : (F_transitive_L2 ap k r i b).2.length = b.length := by
  induction r generalizing i b with
  | zero => rfl
  | succ r ih =>
    show (F_transitive_L2b ap k _ i b).2.length = _
    unfold F_transitive_L2b
    cases decide (i < (ap.length : Int))
    · rfl
    · rw [cond_true, ih]
      cases F_has (gI b i) k
      · rfl
      · rw [cond_true, sI_len]
theorem tr1_len (ap : List Int) (r : Nat) (i : Int) (b : List Int) : (F_transitive_L1 ap r i b).2.length = b.length := by
  induction r generalizing i b with
  | zero => rfl
  | succ r ih =>
    show (F_transitive_L1b ap _ i b).2.length = _
    unfold F_transitive_L1b
    cases decide (i < (ap.length : Int))
    · rfl
    · rw [cond_true, ih, tr2_len]
theorem transitive_len (ap : List Int) : (F_transitive ap).length = ap.length := tr1_len ap _ _ ap
theorem rf_len (ap : List Int) (r : Nat) (i : Int) (b : List Int) : (F_reflexive_L1 ap r i b).2.length = b.length := by
  induction r generalizing i b with
  | zero => rfl
  | succ r ih =>
    show (F_reflexive_L1b ap _ i b).2.length = _
    unfold F_reflexive_L1b
    cases decide (i < (ap.length : Int))
    · rfl
    · rw [cond_true, ih, sI_len]
theorem reflexive_len (ap : List Int) : (F_reflexive ap).length = ap.length := rf_len ap _ _ ap

theorem gI_sI {xs : List Int} {i : Nat} {v : Int} (h : i < xs.length) (j : Nat) : gI (sI xs (i : Int) v) (j : Int) = if i = j then v else gI xs (j : Int) := by
  unfold sI gI
  rw [Int.toNat_natCast, Int.toNat_natCast, gi_set h]
theorem Rl.set {n : Nat} {a : List Int} (h : Rl n a) {i : Nat} (hi : i < n) {v : Int} (hv : Mk n v) : Rl n (sI a (i : Int) v) := by
  refine ⟨by rw [sI_len]; exact h.1, fun j hj => ?_⟩
  rw [gI_sI (by rw [h.1]; exact hi)]
  by_cases e : i = j
  · rw [if_pos e]; exact hv
  · rw [if_neg e]; exact h.2 j hj
theorem rb_set {n : Nat} {a : List Int} (h : Rl n a) {i : Nat} (hi : i < n) (v : Int) (j k : Nat) : rb (sI a (i : Int) v) j k = if i = j then tb v k else rb a j k := by
  unfold rb
  rw [gI_sI (by rw [h.1]; exact hi)]
  by_cases e : i = j
  · rw [if_pos e, if_pos e]
  · rw [if_neg e, if_neg e]
theorem tr2_key {n : Nat} (hn : n ≤ 30) (ap : List Int) (hap : ap.length = n) (k : Nat) (hk : k < n) (a : List Int) (ha : Rl n a) : ∀ (d i : Nat) (b : List Int), i + d = n → Rl n b →
    (∀ x j, x < i → rb b x j = (rb a x j || (rb a x k && rb a k j))) → (∀ x j, i ≤ x → rb b x j = rb a x j) →
    Rl n (F_transitive_L2 ap (k : Int) (d + 1) (i : Int) b).2 ∧ ∀ x j, x < n → rb (F_transitive_L2 ap (k : Int) (d + 1) (i : Int) b).2 x j = (rb a x j || (rb a x k && rb a k j)) := by
  intro d
  induction d with
  | zero =>
    intro i b hi hb h1 h2
    show Rl n (F_transitive_L2b ap _ _ _ b).2 ∧ ∀ x j, x < n → rb (F_transitive_L2b ap _ _ _ b).2 x j = _
    unfold F_transitive_L2b
    rw [decide_eq_false (by omega), cond_false]
    exact ⟨hb, fun x j hx => h1 x j (by omega)⟩
  | succ d ih =>
    intro i b hi hb h1 h2
    show Rl n (F_transitive_L2b ap _ _ _ b).2 ∧ ∀ x j, x < n → rb (F_transitive_L2b ap _ _ _ b).2 x j = _
    unfold F_transitive_L2b
    rw [decide_eq_true (by omega), cond_true, show (i : Int) + 1 = ((i + 1 : Nat) : Int) by omega]
    have hbk : ∀ j, rb b k j = rb a k j := fun j => by
      by_cases e : i ≤ k
      · exact h2 k j e
      · rw [h1 k j (by omega)]
        cases rb a k k <;> cases rb a k j <;> rfl
    have hbi : rb b i k = rb a i k := h2 i k (by omega)
    have hh : F_has (gI b (i : Int)) (k : Int) = rb a i k := by rw [tb_has (by omega) (hb.2 i (by omega)) (by omega)]; exact hbi
    rw [hh]
    cases hc : rb a i k
    · rw [cond_false]
      refine ih (i + 1) b (by omega) hb (fun x j hx => ?_) (fun x j hx => h2 x j (by omega))
      by_cases e : x = i
      · subst e; rw [h2 x j (by omega), hc]; simp
      · exact h1 x j (by omega)
    · rw [cond_true]
      obtain ⟨hm, ht⟩ := Mk.or (by omega) (hb.2 i (by omega)) (hb.2 k hk)
      refine ih (i + 1) _ (by omega) (hb.set (by omega) hm) (fun x j hx => ?_) (fun x j hx => ?_)
      · rw [rb_set hb (by omega)]
        by_cases e : i = x
        · subst e
          rw [if_pos rfl, ht j, hc, Bool.true_and]
          show (rb b i j || rb b k j) = _
          rw [h2 i j (by omega), hbk j]
        · rw [if_neg e]; exact h1 x j (by omega)
      · rw [rb_set hb (by omega), if_neg (by omega)]; exact h2 x j (by omega)
/-- What a transitive closure is: it holds a, is closed, and lies in every set that a keeps. -/
structure Tc (n : Nat) (a c : List Int) : Prop where
  rel : Rl n c
  sup : ∀ i j, i < n → rb a i j = true → rb c i j = true
  tra : ∀ i k j, i < n → rb c i k = true → rb c k j = true → rb c i j = true
  sub : ∀ S : Nat → Prop, (∀ i j, i < n → S i → rb a i j = true → S j) → ∀ i j, i < n → S i → rb c i j = true → S j
theorem tr1_key {n : Nat} (hn : n ≤ 30) (a : List Int) (hl : a.length = n) : ∀ (d k : Nat) (b : List Int), k + d = n → Rl n b → (∀ i j, i < n → rb a i j = true → rb b i j = true) →
    (∀ i m j, i < n → m < k → rb b i m = true → rb b m j = true → rb b i j = true) →
    (∀ S : Nat → Prop, (∀ i j, i < n → S i → rb a i j = true → S j) → ∀ i j, i < n → S i → rb b i j = true → S j) →
    Tc n a (F_transitive_L1 a (d + 1) (k : Int) b).2 := by
  intro d
  induction d with
  | zero =>
    intro k b hk hb h1 h2 h3
    show Tc n a (F_transitive_L1b a _ _ b).2
    unfold F_transitive_L1b
    rw [decide_eq_false (by omega), cond_false]
    refine ⟨hb, h1, fun i m j hi him hmj => ?_, h3⟩
    have hm : m < n := tb_lt (hb.2 i hi) him
    exact h2 i m j hi (by omega) him hmj
  | succ d ih =>
    intro k b hk hb h1 h2 h3
    show Tc n a (F_transitive_L1b a _ _ b).2
    unfold F_transitive_L1b
    rw [decide_eq_true (by omega), cond_true, show (k : Int) + 1 = ((k + 1 : Nat) : Int) by omega, show Int.toNat ((a.length : Int) - 0) = n by omega]
    obtain ⟨h4, h5⟩ := tr2_key hn a hl k (by omega) b hb n 0 b (by omega) hb (fun x j hx => by omega) (fun x j _ => rfl)
    have hkn : k < n := by omega
    refine ih (k + 1) _ (by omega) h4 (fun i j hi hij => ?_) (fun i m j hi hm him hmj => ?_) (fun S hS i j hi hSi hij => ?_)
    · have := h5 i j hi
      rw [h1 i j hi hij, Bool.true_or] at this
      exact this
    · have hmn : m < n := by omega
      have e1 := (h5 i m hi).symm.trans him
      have e2 := (h5 m j hmn).symm.trans hmj
      refine (h5 i j hi).trans ?_
      rw [Bool.or_eq_true, Bool.and_eq_true] at e1 e2 ⊢
      by_cases e : m = k
      · subst e
        have a1 : rb b i m = true := e1.elim id fun h => h.1
        have a2 : rb b m j = true := e2.elim id fun h => h.2
        exact .inr ⟨a1, a2⟩
      · have hmk : m < k := by omega
        rcases e1 with a1 | ⟨a1, a2⟩
        · rcases e2 with b1 | ⟨b1, b2⟩
          · exact .inl (h2 i m j hi hmk a1 b1)
          · exact .inr ⟨h2 i m k hi hmk a1 b1, b2⟩
        · rcases e2 with b1 | ⟨b1, b2⟩
          · exact .inr ⟨a1, h2 k m j hkn hmk a2 b1⟩
          · exact .inr ⟨a1, b2⟩
    · have e := (h5 i j hi).symm.trans hij
      rw [Bool.or_eq_true, Bool.and_eq_true] at e
      rcases e with e | ⟨e1, e2⟩
      · exact h3 S hS i j hi hSi e
      · exact h3 S hS k j hkn (h3 S hS i k hi hSi e1) e2
theorem transitive_tc {n : Nat} (hn : n ≤ 30) {a : List Int} (ha : Rl n a) : Tc n a (F_transitive a) := by
  unfold F_transitive
  have hl := ha.1
  rw [show Int.toNat ((a.length : Int) - 0) = n by omega]
  exact tr1_key hn a hl n 0 a (by omega) ha (fun _ _ _ h => h) (fun _ m _ _ hm => by omega) (fun S hS i j hi h1 h2 => hS i j hi h1 h2)
theorem rf_key {n : Nat} (hn : n ≤ 30) (ap : List Int) (hap : ap.length = n) (a : List Int) (ha : Rl n a) : ∀ (d i : Nat) (b : List Int), i + d = n → Rl n b →
    (∀ x j, x < i → rb b x j = (rb a x j || decide (x = j))) → (∀ x j, i ≤ x → rb b x j = rb a x j) →
    Rl n (F_reflexive_L1 ap (d + 1) (i : Int) b).2 ∧ ∀ x j, x < n → rb (F_reflexive_L1 ap (d + 1) (i : Int) b).2 x j = (rb a x j || decide (x = j)) := by
  intro d
  induction d with
  | zero =>
    intro i b hi hb h1 h2
    show Rl n (F_reflexive_L1b ap _ _ b).2 ∧ ∀ x j, x < n → rb (F_reflexive_L1b ap _ _ b).2 x j = _
    unfold F_reflexive_L1b
    rw [decide_eq_false (by omega), cond_false]
    exact ⟨hb, fun x j hx => h1 x j (by omega)⟩
  | succ d ih =>
    intro i b hi hb h1 h2
    show Rl n (F_reflexive_L1b ap _ _ b).2 ∧ ∀ x j, x < n → rb (F_reflexive_L1b ap _ _ b).2 x j = _
    unfold F_reflexive_L1b
    rw [decide_eq_true (by omega), cond_true, show (i : Int) + 1 = ((i + 1 : Nat) : Int) by omega, pow_shl (i := (i : Int)) (by omega) (by omega)]
    obtain ⟨hm, ht⟩ := Mk.or (by omega) (hb.2 i (by omega)) (Mk.pow (n := n) (t := i) (by omega))
    refine ih (i + 1) _ (by omega) (hb.set (by omega) hm) (fun x j hx => ?_) (fun x j hx => ?_)
    · rw [rb_set hb (by omega)]
      by_cases e : i = x
      · subst e
        rw [if_pos rfl, ht j, tb_pow]
        show (rb b i j || _) = _
        rw [h2 i j (by omega)]
      · rw [if_neg e]; exact h1 x j (by omega)
    · rw [rb_set hb (by omega), if_neg (by omega)]; exact h2 x j (by omega)
theorem reflexive_bits {n : Nat} (hn : n ≤ 30) {a : List Int} (ha : Rl n a) : Rl n (F_reflexive a) ∧ ∀ x j, x < n → rb (F_reflexive a) x j = (rb a x j || decide (x = j)) := by
  unfold F_reflexive
  have hl := ha.1
  rw [show Int.toNat ((a.length : Int) - 0) = n by omega]
  exact rf_key hn a hl a ha n 0 a (by omega) ha (fun _ _ hx => by omega) (fun _ _ _ => rfl)
/-- The least set over a mask that a relation keeps. -/
def Rc (n : Nat) (a : List Int) (mask r : Int) : Prop := Mk n r ∧ (∀ j, tb mask j = true → tb r j = true) ∧ (∀ i j, tb r i = true → rb a i j = true → tb r j = true) ∧ ∀ S : Nat → Prop, (∀ j, tb mask j = true → S j) → (∀ i j, i < n → S i → rb a i j = true → S j) → ∀ j, tb r j = true → S j
theorem Rc.uniq {n : Nat} {a : List Int} {mask r s : Int} (h : Rc n a mask r) (h' : Rc n a mask s) : r = s := by
  apply tb_ext h.1.1 h'.1.1
  intro j
  have e1 := h.2.2.2 (fun j => tb s j = true) h'.2.1 (fun i j _ => h'.2.2.1 i j) j
  have e2 := h'.2.2.2 (fun j => tb r j = true) h.2.1 (fun i j _ => h.2.2.1 i j) j
  cases hr : tb r j
  · cases hs : tb s j
    · rfl
    · rw [e2 hs] at hr; cases hr
  · exact (e1 hr).symm
theorem reachable_rc {n : Nat} (hn : n ≤ 30) {a : List Int} {mask : Int} (ha : Rl n a) (hm : Mk n mask) : Rc n a mask (F_l01Image (F_reflexive (F_transitive a)) mask) := by
  have T := transitive_tc hn ha
  obtain ⟨h1, h2⟩ := reflexive_bits hn T.rel
  obtain ⟨h3, h4⟩ := l01Image_bits (by omega) h1 hm
  have key : ∀ j, (tb (F_l01Image (F_reflexive (F_transitive a)) mask) j = true ↔ (tb mask j = true ∨ ∃ i, tb mask i = true ∧ rb (F_transitive a) i j = true)) := by
    intro j
    refine (h4 j).trans ⟨?_, ?_⟩
    · rintro ⟨i, hi, hj⟩
      rw [h2 i j (tb_lt hm hi), Bool.or_eq_true] at hj
      rcases hj with hj | hj
      · exact .inr ⟨i, hi, hj⟩
      · have := of_decide_eq_true hj; subst this; exact .inl hi
    · rintro (h | ⟨i, hi, hj⟩)
      · exact ⟨j, h, by rw [h2 j j (tb_lt hm h)]; simp⟩
      · exact ⟨i, hi, by rw [h2 i j (tb_lt hm hi), hj]; rfl⟩
  refine ⟨h3, fun j hj => (key j).2 (.inl hj), fun i j hi hij => ?_, fun S hS hc j hj => ?_⟩
  · have hin := tb_lt h3 hi
    refine (key j).2 (.inr ?_)
    rcases (key i).1 hi with h | ⟨x, hx, hxi⟩
    · exact ⟨i, h, T.sup i j hin hij⟩
    · exact ⟨x, hx, T.tra x i j (tb_lt hm hx) hxi (T.sup i j hin hij)⟩
  · rcases (key j).1 hj with h | ⟨x, hx, hxj⟩
    · exact hS j h
    · exact T.sub S hc x j (tb_lt hm hx) (hS x hx) hxj
theorem mk_mono {n : Nat} {a b : Int} (ha : Mk n a) (hb : Mk n b) (h : ∀ j, tb a j = true → tb b j = true) (h2 : ∃ j, tb b j = true ∧ tb a j = false) : a < b := by
  have : a.toNat ≤ b.toNat := by
    have e : a.toNat = a.toNat &&& b.toNat := by
      apply Nat.eq_of_testBit_eq; intro j
      rw [Nat.testBit_and]
      cases e : a.toNat.testBit j
      · rfl
      · exact (h j e).symm
    rw [e]; exact Nat.and_le_right
  have hne : a ≠ b := fun e => by
    obtain ⟨j, h3, h4⟩ := h2
    rw [e, h3] at h4; cases h4
  have := ha.1; have := hb.1; omega
theorem reach_step {n : Nat} (hn : n ≤ 30) {a : List Int} {mask : Int} (ha : Rl n a) (hm : Mk n mask) : Mk n (orI mask (F_l01Image a mask)) ∧ (¬ anI (F_l01Image a mask) mask = 0 → mask < orI mask (F_l01Image a mask)) := by
  obtain ⟨h3, h4⟩ := l01Image_bits (by omega) ha hm
  obtain ⟨h5, h6⟩ := Mk.or (by omega) hm h3
  refine ⟨h5, fun h => ?_⟩
  rw [Mk.anz (by omega) h3 hm] at h
  refine mk_mono hm h5 (fun j hj => by rw [h6, hj]; rfl) ?_
  apply Classical.byContradiction
  intro hno
  apply h
  intro j hj
  cases e : tb mask j
  · exact absurd ⟨j, by rw [h6, hj]; simp, e⟩ hno
  · rfl

end Go.Proofs.Ytfilpikakdlgbaa
