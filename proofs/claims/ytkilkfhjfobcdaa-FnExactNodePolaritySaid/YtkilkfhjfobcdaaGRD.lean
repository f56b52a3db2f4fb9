/- GRD: models and contracts, printed by wip/gen/gen.py -/
import Derived.Test.YtkilkfhjfobcdaaGRB
set_option linter.unusedVariables false
set_option linter.unusedSimpArgs false
namespace Go.Proofs.Ytkilkfhjfobcdaa
open Go.RowKit

theorem imp_parts {ap : List Int} (h : IsFm ap) (hp : F_partsOf (gS 2 0 ap 0) = 2) : IsFm (slI 2 ap 1 (F_partEnd ap 1)) ∧ IsFm (slI 2 ap (F_partEnd ap 1) (F_partEnd ap (F_partEnd ap 1))) ∧ (slI 2 ap 1 (F_partEnd ap 1)).length + (slI 2 ap (F_partEnd ap 1) (F_partEnd ap (F_partEnd ap 1))).length + 2 = ap.length ∧ 2 ≤ (slI 2 ap 1 (F_partEnd ap 1)).length ∧ 2 ≤ (slI 2 ap (F_partEnd ap 1) (F_partEnd ap (F_partEnd ap 1))).length := by
  rw [partsOf_k] at hp
  have hb := h.bin hp
  have h2 := (partsOf_bin h hp).2
  rw [partEnd_l, partEnd_l] at *
  have e : F_l02Part ap (F_l02Part ap 1) = ((ap.length / 2 : Nat) : Int) := by
    obtain ⟨t, ht, rfl⟩ := h
    have hk := t.kind ht
    rw [hp] at hk
    cases t with
    | leaf k v => exact absurd hk (by simp)
    | un k v a => exact absurd hk (by simp)
    | bin k v a b =>
      obtain ⟨p1, p2, p3⟩ := fm_part ht
      have hl := (Fm.bin k v a b).code_half
      have hs : (Fm.bin k v a b).size = a.size + b.size + 1 := rfl
      rw [hl, hs] at p3
      rw [p1, hl, hs]
      refine l02Part_of ?_
      have e3 : b.code = slI 2 (Fm.bin k v a b).code (1 + a.size) (1 + a.size + b.size) := by
        rw [show (1 : Int) + (a.size : Int) + (b.size : Int) = ((a.size + b.size + 1 : Nat) : Int) by omega]; exact p3.symm
      have pb := b.size_pos
      rw [hl, hs, show Int.toNat (((a.size + b.size + 1 : Nat) : Int) - (1 + a.size)) + 1 = 1 + b.size by omega, part_code _ (Fm.code_ev _) b 1 (1 + a.size) 1 ht.2.2 (by omega) (by omega) e3 (by rw [hl, hs]; omega)]
      rw [show (1 : Int) - 1 = 0 by rfl, part_zero, show (1 : Int) + (a.size : Int) + (b.size : Int) = ((a.size + b.size + 1 : Nat) : Int) by omega]
  rw [e]
  exact ⟨hb.2.1.1, hb.2.1.2, hb.2.2⟩


def F_variable (vp : Int) : List Int :=
  [0, vp]
theorem cf_variable (args : Array Value) (w : World) : (callFunc 204 args).run Try.prog w = .ok (.enter 204 args) w := by kernel_rfl
set_option maxRecDepth 100000 in
theorem c_variable (vp : Int) (w : World) :
    Calls Try.prog 204 #[.int .i64 vp] w (Ret fun v w' => ∃ b1 : Option Addr, ∃ c1 : Nat, v = .slice b1 ((F_variable vp).length / 2 : Nat) c1 ∧ OwnS w' w.heap.size 94 2 b1 ((F_variable vp).length / 2 : Nat) c1 (F_variable vp) ∧ Ext w w') := by
  have hS := St.nil w
  refine enter (args := [.int .i64 vp]) Try.func204 rfl rfl ?_
  rw [Try.ntmps204]; intro a hE
  have hE := hE.sub (L' := [(0, .int .i64 vp)]) ⟨rfl, trivial⟩
  refine c_seq ?_
  refine c_reg ?_
  refine q_step (v := .slice none 0 0) hE (y_assign rfl) rfl rfl rfl ?_; intro a1 hE2; clear hE
  refine c_nil ?_
  have hE3 := hE2.sub (L' := [(0, .int .i64 vp)]) ⟨rfl, trivial⟩; clear hE2
  refine p_tn ?_
  refine c_seq ?_
  refine c_reg ?_
  refine q_step (v := .int .i64 vp) hE3 (y_move rfl) rfl rfl rfl ?_; intro a4 hE5; clear hE3
  refine q_step (v := .agg #[.int .i64 0, .int .i64 vp]) hE5 (y_build (vs := #[(0, .int .i64 0), (1, .int .i64 vp)]) (fun a n hE => by simp only [hE.eval (x := .const (.int .i64 0)) (v := .int .i64 0) rfl, hE.eval (x := .tmp 3) (v := .int .i64 vp) rfl, List.map_toArray, List.map_cons, List.map_nil]) (fun _ => by kernel_rfl)) rfl rfl rfl ?_; intro a6 hE7; clear hE5
  refine l_step hE7 rfl (l_lit (e := 94) (s := 2) (xs := [0, vp]) (vs := [.agg #[.int .i64 0, .int .i64 vp]]) hS hE7 rfl (fun _ => by kernel_rfl) rfl rfl rfl ?_)
  intro b8 w9 hS12 he13 a10 hE11; clear hS hE7
  refine q_step (v := .slice (some ⟨b8, 0, none⟩) 1 1) hE11 (y_assign rfl) rfl rfl rfl ?_; intro a14 hE15; clear hE11
  refine c_nil ?_
  have hE16 := hE15.sub (L' := [(2, .slice (some ⟨b8, 0, none⟩) 1 1)]) ⟨rfl, trivial⟩; clear hE15
  refine p_tn ?_
  refine wp_ret ?_
  have hF : F_variable vp = [0, vp] := by unfold F_variable; rfl
  refine c_ret1 hE16 rfl rfl ?_
  exact ⟨some ⟨b8, 0, none⟩, 1, (by rw [hF]; first | rfl | (rw [((St.rdO (i := 0) hS12 rfl).lenD (by decide))])), (by rw [hF, ((St.rdO (i := 0) hS12 rfl).lenD (by decide))]; (try dsimp only); exact hS12.ok 0 _ rfl), hS12.ext⟩

def F_truth : List Int :=
  [4, 0, 1, 0, 1, 0]
theorem cf_truth (args : Array Value) (w : World) : (callFunc 152 args).run Try.prog w = .ok (.enter 152 args) w := by kernel_rfl
set_option maxRecDepth 100000 in
theorem c_truth  (w : World) :
    Calls Try.prog 152 #[] w (Ret fun v w' => ∃ b1 : Option Addr, ∃ c1 : Nat, v = .slice b1 ((F_truth).length / 2 : Nat) c1 ∧ OwnS w' w.heap.size 94 2 b1 ((F_truth).length / 2 : Nat) c1 F_truth ∧ Ext w w') := by
  have hS := St.nil w
  refine enter (args := []) Try.func152 rfl rfl ?_
  rw [Try.ntmps152]; intro a hE
  have hE := hE.sub (L' := []) trivial
  refine c_seq ?_
  refine c_reg ?_
  refine q_step (v := .slice none 0 0) hE (y_assign rfl) rfl rfl rfl ?_; intro a1 hE2; clear hE
  refine c_nil ?_
  have hE3 := hE2.sub (L' := []) trivial; clear hE2
  refine p_tn ?_
  refine c_seq ?_
  refine c_reg ?_
  refine q_step (v := .agg #[.int .i64 4, .int .i64 0]) hE3 (y_build (vs := #[(0, .int .i64 4), (1, .int .i64 0)]) (fun a n hE => by simp only [hE.eval (x := .const (.int .i64 4)) (v := .int .i64 4) rfl, hE.eval (x := .const (.int .i64 0)) (v := .int .i64 0) rfl, List.map_toArray, List.map_cons, List.map_nil]) (fun _ => by kernel_rfl)) rfl rfl rfl ?_; intro a4 hE5; clear hE3
  refine q_step (v := .agg #[.int .i64 1, .int .i64 0]) hE5 (y_build (vs := #[(0, .int .i64 1), (1, .int .i64 0)]) (fun a n hE => by simp only [hE.eval (x := .const (.int .i64 1)) (v := .int .i64 1) rfl, hE.eval (x := .const (.int .i64 0)) (v := .int .i64 0) rfl, List.map_toArray, List.map_cons, List.map_nil]) (fun _ => by kernel_rfl)) rfl rfl rfl ?_; intro a6 hE7; clear hE5
  refine q_step (v := .agg #[.int .i64 1, .int .i64 0]) hE7 (y_build (vs := #[(0, .int .i64 1), (1, .int .i64 0)]) (fun a n hE => by simp only [hE.eval (x := .const (.int .i64 1)) (v := .int .i64 1) rfl, hE.eval (x := .const (.int .i64 0)) (v := .int .i64 0) rfl, List.map_toArray, List.map_cons, List.map_nil]) (fun _ => by kernel_rfl)) rfl rfl rfl ?_; intro a8 hE9; clear hE7
  refine l_step hE9 rfl (l_lit (e := 94) (s := 2) (xs := [4, 0, 1, 0, 1, 0]) (vs := [.agg #[.int .i64 4, .int .i64 0], .agg #[.int .i64 1, .int .i64 0], .agg #[.int .i64 1, .int .i64 0]]) hS hE9 rfl (fun _ => by kernel_rfl) rfl rfl rfl ?_)
  intro b10 w11 hS14 he15 a12 hE13; clear hS hE9
  refine q_step (v := .slice (some ⟨b10, 0, none⟩) 3 3) hE13 (y_assign rfl) rfl rfl rfl ?_; intro a16 hE17; clear hE13
  refine c_nil ?_
  have hE18 := hE17.sub (L' := [(0, .slice (some ⟨b10, 0, none⟩) 3 3)]) ⟨rfl, trivial⟩; clear hE17
  refine p_tn ?_
  refine wp_ret ?_
  have hF : F_truth = [4, 0, 1, 0, 1, 0] := by unfold F_truth; rfl
  refine c_ret1 hE18 rfl rfl ?_
  exact ⟨some ⟨b10, 0, none⟩, 3, (by rw [hF]; first | rfl | (rw [((St.rdO (i := 0) hS14 rfl).lenD (by decide))])), (by rw [hF, ((St.rdO (i := 0) hS14 rfl).lenD (by decide))]; (try dsimp only); exact hS14.ok 0 _ rfl), hS14.ext⟩

theorem variable_len (v : Int) : (F_variable v).length = 2 := rfl
theorem truth_len : F_truth.length = 6 := rfl
theorem truth_eq : F_truth = F_l02True := rfl

def F_implyNormal (self : List Int → Bool → (List Int)) (ap : List Int) (positive : Bool) : List Int :=
  bif (F_isFalsum (slI 2 ap 1 (F_partEnd ap 1))) then (bif (F_isFalsum (slI 2 ap (F_partEnd ap 1) (F_partEnd ap (F_partEnd ap 1)))) then (bif positive then F_truth else F_falsum) else (bif positive then (F_join 3 (self (slI 2 ap 1 (F_partEnd ap 1)) false) (self (slI 2 ap (F_partEnd ap 1) (F_partEnd ap (F_partEnd ap 1))) true)) else (F_join 2 (self (slI 2 ap 1 (F_partEnd ap 1)) true) (self (slI 2 ap (F_partEnd ap 1) (F_partEnd ap (F_partEnd ap 1))) false)))) else (bif (F_isFalsum (slI 2 ap (F_partEnd ap 1) (F_partEnd ap (F_partEnd ap 1)))) then (self (slI 2 ap 1 (F_partEnd ap 1)) (!positive)) else (bif positive then (F_join 3 (self (slI 2 ap 1 (F_partEnd ap 1)) false) (self (slI 2 ap (F_partEnd ap 1) (F_partEnd ap (F_partEnd ap 1))) true)) else (F_join 2 (self (slI 2 ap 1 (F_partEnd ap 1)) true) (self (slI 2 ap (F_partEnd ap 1) (F_partEnd ap (F_partEnd ap 1))) false))))
theorem cf_negationNormal (args : Array Value) (w : World) : (callFunc 89 args).run Try.prog w = .ok (.enter 89 args) w := by kernel_rfl
theorem cf_implyNormal (args : Array Value) (w : World) : (callFunc 153 args).run Try.prog w = .ok (.enter 153 args) w := by kernel_rfl
set_option maxRecDepth 100000 in
theorem c_implyNormal (self : List Int → Bool → (List Int)) (mu : Nat) (hpost : ∀ (ap : List Int) (positive : Bool) (hl : ap.length ≤ 100) (hf : IsFm ap) (hm : ap.length < mu), (self ap positive).length ≤ 3 * ap.length) (ih : ∀ (apA : Option Addr) (apN apC : Nat) (ap : List Int) (positive : Bool) (w : World) (apR : RdS w 2 apA apN apC ap) (hl : ap.length ≤ 100) (hf : IsFm ap) (hdec : ap.length < mu), Calls Try.prog 89 #[.slice apA apN apC, .bool positive] w (Ret fun v w' => ∃ b1 : Option Addr, ∃ c1 : Nat, v = .slice b1 ((self ap positive).length / 2 : Nat) c1 ∧ OwnS w' w.heap.size 94 2 b1 ((self ap positive).length / 2 : Nat) c1 (self ap positive) ∧ Ext w w')) (apA : Option Addr) (apN apC : Nat) (ap : List Int) (positive : Bool) (w : World) (apR : RdS w 2 apA apN apC ap) (hl : ap.length ≤ 100) (hf : IsFm ap) (hpk : F_partsOf (gS 2 0 ap 0) = 2) (hmu : ap.length ≤ mu) :
    Calls Try.prog 153 #[.slice apA apN apC, .bool positive] w (Ret fun v w' => ∃ b1 : Option Addr, ∃ c1 : Nat, v = .slice b1 ((F_implyNormal self ap positive).length / 2 : Nat) c1 ∧ OwnS w' w.heap.size 94 2 b1 ((F_implyNormal self ap positive).length / 2 : Nat) c1 (F_implyNormal self ap positive) ∧ Ext w w') := by
  obtain rfl : apN = ap.length / 2 := (apR.lenD (by decide)).symm
  have apEv := apR.ev (by decide)
  have apLe := apR.le
  have hl1 := hf.len
  have hS := St.nil w
  have hS1 := St.rd0 hS rfl apR; clear hS
  refine enter (args := [.slice apA ((ap).length / 2 : Nat) apC, .bool positive]) Try.func153 rfl rfl ?_
  rw [Try.ntmps153]; intro a hE
  have hE := hE.sub (L' := [(0, .slice apA ((ap).length / 2 : Nat) apC), (1, .bool positive)]) ⟨rfl, rfl, trivial⟩
  refine c_seq ?_
  refine c_reg ?_
  refine q_step (v := .slice none 0 0) hE (y_assign rfl) rfl rfl rfl ?_; intro a2 hE3; clear hE
  refine c_nil ?_
  have hE4 := hE3.sub (L' := [(0, .slice apA ((ap).length / 2 : Nat) apC), (1, .bool positive)]) ⟨rfl, rfl, trivial⟩; clear hE3
  refine p_tn ?_
  refine c_seq ?_
  refine c_reg ?_
  refine q_step (v := .slice apA ((ap).length / 2 : Nat) apC) hE4 (y_move rfl) rfl rfl rfl ?_; intro a5 hE6; clear hE4
  refine l_step hE6 rfl (l_call (f := 197) (argv := [.slice apA ((ap).length / 2 : Nat) apC]) hE6 (fun _ => cf_first _ _) rfl rfl (c_first apA ((ap).length / 2 : Nat) apC ap w (St.rdR (i := 0) hS1 rfl) (by omega) (partsOf_un hf (.inr hpk))) ?_)
  rintro _ w8 ⟨rfl, he12⟩ a9 hE10; clear hE6
  have hpu := partsOf_un hf (.inr hpk)
  have hi1 := imp_parts hf hpk
  have hS11 := St.go hS1 he12; clear hS1
  have hv16 := (St.rdR (i := 0) hS11 rfl).2.1
  have hv13 : (0 : Int) ≤ 1 ∧ 1 ≤ (F_partEnd ap 1) ∧ (F_partEnd ap 1) ≤ (((ap).length / 2 : Nat) : Int) := ⟨(by omega), (by omega), (by omega)⟩
  have hv14 : Int.toNat (F_partEnd ap 1) - Int.toNat 1 = ((slI 2 ap 1 (F_partEnd ap 1)).length / 2 : Nat) := ((slI_lenD (by decide) (St.rdR (i := 0) hS11 rfl).1 hv13.2.2)).symm
  have hv15 : Int.toNat (F_partEnd ap 1) ≤ (Int.toNat (F_partEnd ap 1)) ∧ (Int.toNat (F_partEnd ap 1)) ≤ apC := ⟨by omega, by omega⟩
  refine q_step (v := .slice apA ((ap).length / 2 : Nat) apC) hE10 (y_move rfl) rfl rfl rfl ?_; intro a17 hE18; clear hE10
  refine l_step hE18 rfl (l_call (f := 198) (argv := [.slice apA ((ap).length / 2 : Nat) apC]) hE18 (fun _ => cf_second _ _) rfl rfl (c_second apA ((ap).length / 2 : Nat) apC ap w8 (St.rdR (i := 0) hS11 rfl) (by omega) (partsOf_un hf (.inr hpk)) (partsOf_bin hf hpk).2) ?_)
  rintro _ w20 ⟨rfl, he24⟩ a21 hE22; clear hE18
  have hp2 := partsOf_bin hf hpk
  have hi2 := imp_parts hf hpk
  have hS23 := St.go hS11 he24; clear hS11
  have hv28 := (St.rdR (i := 0) hS23 rfl).2.1
  have hv25 : (0 : Int) ≤ (F_partEnd ap 1) ∧ (F_partEnd ap 1) ≤ (F_partEnd ap (F_partEnd ap 1)) ∧ (F_partEnd ap (F_partEnd ap 1)) ≤ (((ap).length / 2 : Nat) : Int) := ⟨(by omega), (by omega), (by omega)⟩
  have hv26 : Int.toNat (F_partEnd ap (F_partEnd ap 1)) - Int.toNat (F_partEnd ap 1) = ((slI 2 ap (F_partEnd ap 1) (F_partEnd ap (F_partEnd ap 1))).length / 2 : Nat) := ((slI_lenD (by decide) (St.rdR (i := 0) hS23 rfl).1 hv25.2.2)).symm
  have hv27 : Int.toNat (F_partEnd ap (F_partEnd ap 1)) ≤ (Int.toNat (F_partEnd ap (F_partEnd ap 1))) ∧ (Int.toNat (F_partEnd ap (F_partEnd ap 1))) ≤ apC := ⟨by omega, by omega⟩
  refine q_step (v := .slice (subA apA (Int.toNat 1) (Int.toNat (F_partEnd ap 1)) 2) ((slI 2 ap 1 (F_partEnd ap 1)).length / 2 : Nat) ((Int.toNat (F_partEnd ap 1)) - (Int.toNat 1))) hE22 (y_assign rfl) rfl rfl rfl ?_; intro a29 hE30; clear hE22
  refine q_step (v := .slice (subA apA (Int.toNat (F_partEnd ap 1)) (Int.toNat (F_partEnd ap (F_partEnd ap 1))) 2) ((slI 2 ap (F_partEnd ap 1) (F_partEnd ap (F_partEnd ap 1))).length / 2 : Nat) ((Int.toNat (F_partEnd ap (F_partEnd ap 1))) - (Int.toNat (F_partEnd ap 1)))) hE30 (y_assign rfl) rfl rfl rfl ?_; intro a31 hE32; clear hE30
  refine c_nil ?_
  have hE33 := hE32.sub (L' := [(1, .bool positive), (5, .slice (subA apA (Int.toNat 1) (Int.toNat (F_partEnd ap 1)) 2) ((slI 2 ap 1 (F_partEnd ap 1)).length / 2 : Nat) ((Int.toNat (F_partEnd ap 1)) - (Int.toNat 1))), (6, .slice (subA apA (Int.toNat (F_partEnd ap 1)) (Int.toNat (F_partEnd ap (F_partEnd ap 1))) 2) ((slI 2 ap (F_partEnd ap 1) (F_partEnd ap (F_partEnd ap 1))).length / 2 : Nat) ((Int.toNat (F_partEnd ap (F_partEnd ap 1))) - (Int.toNat (F_partEnd ap 1))))]) ⟨rfl, rfl, rfl, trivial⟩; clear hE32
  refine p_tn ?_
  refine c_seq ?_
  refine wp_block ?_
  refine c_seq ?_
  refine c_reg ?_
  refine q_step (v := .slice (subA apA (Int.toNat 1) (Int.toNat (F_partEnd ap 1)) 2) ((slI 2 ap 1 (F_partEnd ap 1)).length / 2 : Nat) ((Int.toNat (F_partEnd ap 1)) - (Int.toNat 1))) hE33 (y_move rfl) rfl rfl rfl ?_; intro a34 hE35; clear hE33
  refine l_step hE35 rfl (l_call (f := 201) (argv := [.slice (subA apA (Int.toNat 1) (Int.toNat (F_partEnd ap 1)) 2) ((slI 2 ap 1 (F_partEnd ap 1)).length / 2 : Nat) ((Int.toNat (F_partEnd ap 1)) - (Int.toNat 1))]) hE35 (fun _ => cf_isFalsum _ _) rfl rfl (c_isFalsum (subA apA (Int.toNat 1) (Int.toNat (F_partEnd ap 1)) 2) ((slI 2 ap 1 (F_partEnd ap 1)).length / 2 : Nat) ((Int.toNat (F_partEnd ap 1)) - (Int.toNat 1)) (slI 2 ap 1 (F_partEnd ap 1)) w20 (RdS.sub (St.rdR (i := 0) hS23 rfl) (Int.toNat (F_partEnd ap 1)) hv13.1 hv13.2.1 hv13.2.2 hv15.1 hv15.2 hv14 rfl) (by omega) (by omega)) ?_)
  rintro _ _ ⟨rfl, rfl⟩ a38 hE39; clear hE35
  refine q_step (v := .bool (F_isFalsum (slI 2 ap 1 (F_partEnd ap 1)))) hE39 (y_move rfl) rfl rfl rfl ?_; intro a42 hE43; clear hE39
  rcases Bool.eq_false_or_eq_true (F_isFalsum (slI 2 ap 1 (F_partEnd ap 1))) with hb44 | hb44
  ·
   have hE45 := hE43; (try rw [hb44] at hE45); clear hE43
   refine q_step (v := .slice (subA apA (Int.toNat (F_partEnd ap 1)) (Int.toNat (F_partEnd ap (F_partEnd ap 1))) 2) ((slI 2 ap (F_partEnd ap 1) (F_partEnd ap (F_partEnd ap 1))).length / 2 : Nat) ((Int.toNat (F_partEnd ap (F_partEnd ap 1))) - (Int.toNat (F_partEnd ap 1)))) hE45 (y_move rfl) rfl rfl rfl ?_; intro a46 hE47; clear hE45
   refine l_step hE47 rfl (l_call (f := 201) (argv := [.slice (subA apA (Int.toNat (F_partEnd ap 1)) (Int.toNat (F_partEnd ap (F_partEnd ap 1))) 2) ((slI 2 ap (F_partEnd ap 1) (F_partEnd ap (F_partEnd ap 1))).length / 2 : Nat) ((Int.toNat (F_partEnd ap (F_partEnd ap 1))) - (Int.toNat (F_partEnd ap 1)))]) hE47 (fun _ => cf_isFalsum _ _) rfl rfl (c_isFalsum (subA apA (Int.toNat (F_partEnd ap 1)) (Int.toNat (F_partEnd ap (F_partEnd ap 1))) 2) ((slI 2 ap (F_partEnd ap 1) (F_partEnd ap (F_partEnd ap 1))).length / 2 : Nat) ((Int.toNat (F_partEnd ap (F_partEnd ap 1))) - (Int.toNat (F_partEnd ap 1))) (slI 2 ap (F_partEnd ap 1) (F_partEnd ap (F_partEnd ap 1))) w20 (RdS.sub (St.rdR (i := 0) hS23 rfl) (Int.toNat (F_partEnd ap (F_partEnd ap 1))) hv25.1 hv25.2.1 hv25.2.2 hv27.1 hv27.2 hv26 rfl) (by omega) (by omega)) ?_)
   rintro _ _ ⟨rfl, rfl⟩ a50 hE51; clear hE47
   refine q_step (v := .bool (F_isFalsum (slI 2 ap (F_partEnd ap 1) (F_partEnd ap (F_partEnd ap 1))))) hE51 (y_pick (b := true) rfl rfl) rfl rfl rfl ?_; intro a54 hE55; clear hE51
   refine q_step (v := .bool (F_isFalsum (slI 2 ap (F_partEnd ap 1) (F_partEnd ap (F_partEnd ap 1))))) hE55 (y_move rfl) rfl rfl rfl ?_; intro a56 hE57; clear hE55
   rcases Bool.eq_false_or_eq_true (F_isFalsum (slI 2 ap (F_partEnd ap 1) (F_partEnd ap (F_partEnd ap 1)))) with hb58 | hb58
   ·
    have hE59 := hE57; (try rw [hb58] at hE59); clear hE57
    refine q_step (v := .bool positive) hE59 (y_move rfl) rfl rfl rfl ?_; intro a60 hE61; clear hE59
    refine q_step (v := .bool positive) hE61 (y_pick (b := true) rfl rfl) rfl rfl rfl ?_; intro a62 hE63; clear hE61
    refine q_step (v := .bool positive) hE63 (y_assign rfl) rfl rfl rfl ?_; intro a64 hE65; clear hE63
    refine c_nil ?_
    have hE66 := hE65.sub (L' := [(1, .bool positive), (5, .slice (subA apA (Int.toNat 1) (Int.toNat (F_partEnd ap 1)) 2) ((slI 2 ap 1 (F_partEnd ap 1)).length / 2 : Nat) ((Int.toNat (F_partEnd ap 1)) - (Int.toNat 1))), (6, .slice (subA apA (Int.toNat (F_partEnd ap 1)) (Int.toNat (F_partEnd ap (F_partEnd ap 1))) 2) ((slI 2 ap (F_partEnd ap 1) (F_partEnd ap (F_partEnd ap 1))).length / 2 : Nat) ((Int.toNat (F_partEnd ap (F_partEnd ap 1))) - (Int.toNat (F_partEnd ap 1)))), (11, .bool positive)]) ⟨rfl, rfl, rfl, rfl, trivial⟩; clear hE65
    refine p_tn ?_
    refine c_cond hE66 rfl (fun ht67 => ?_) (fun ht67 => ?_)
    ·
     have hE68 := hE66; rw [ht67] at hE68; clear hE66
     refine c_seq ?_
     refine c_reg ?_
     refine l_step hE68 rfl (l_call (f := 152) (argv := []) hE68 (fun _ => cf_truth _ _) rfl rfl (c_truth w20) ?_)
     rintro _ w70 ⟨b75, c76, rfl, ho77, he74⟩ a71 hE72; clear hE68
     have hf78 := truth_len
     have hS73 := St.own hS23 he74 ho77; clear hS23
     refine q_step (v := .slice b75 ((F_truth).length / 2 : Nat) c76) hE72 (y_assign rfl) rfl rfl rfl ?_; intro a79 hE80; clear hE72
     refine c_nil ?_
     have hE81 := hE80.sub (L' := [(4, .slice b75 ((F_truth).length / 2 : Nat) c76)]) ⟨rfl, trivial⟩; clear hE80
     refine p_tn ?_
     refine wp_ret ?_
     refine p_br ?_
     refine p_tr ?_
     have hF : F_implyNormal self ap positive = F_truth := by unfold F_implyNormal; rw [ht67, hb58, hb44]; first | done | rfl
     refine c_ret1 hE81 rfl rfl ?_
     exact ⟨b75, c76, (by rw [hF]; first | done | (dsimp only; done) | rfl), (by rw [hF]; (try dsimp only); exact hS73.ok 0 _ rfl), hS73.ext⟩
    ·
     have hE82 := hE66; rw [ht67] at hE82; clear hE66
     refine c_seq ?_
     refine c_reg ?_
     refine q_step (v := .slice (subA apA (Int.toNat 1) (Int.toNat (F_partEnd ap 1)) 2) ((slI 2 ap 1 (F_partEnd ap 1)).length / 2 : Nat) ((Int.toNat (F_partEnd ap 1)) - (Int.toNat 1))) hE82 (y_move rfl) rfl rfl rfl ?_; intro a83 hE84; clear hE82
     refine l_step hE84 rfl (l_call (f := 201) (argv := [.slice (subA apA (Int.toNat 1) (Int.toNat (F_partEnd ap 1)) 2) ((slI 2 ap 1 (F_partEnd ap 1)).length / 2 : Nat) ((Int.toNat (F_partEnd ap 1)) - (Int.toNat 1))]) hE84 (fun _ => cf_isFalsum _ _) rfl rfl (c_isFalsum (subA apA (Int.toNat 1) (Int.toNat (F_partEnd ap 1)) 2) ((slI 2 ap 1 (F_partEnd ap 1)).length / 2 : Nat) ((Int.toNat (F_partEnd ap 1)) - (Int.toNat 1)) (slI 2 ap 1 (F_partEnd ap 1)) w20 (RdS.sub (St.rdR (i := 0) hS23 rfl) (Int.toNat (F_partEnd ap 1)) hv13.1 hv13.2.1 hv13.2.2 hv15.1 hv15.2 hv14 rfl) (by omega) (by omega)) ?_)
     rintro _ _ ⟨rfl, rfl⟩ a87 hE88; clear hE84
     refine q_step (v := .bool (F_isFalsum (slI 2 ap 1 (F_partEnd ap 1)))) hE88 (y_move rfl) rfl rfl rfl ?_; intro a91 hE92; clear hE88
     have hE93 := hE92; rw [hb44] at hE93; clear hE92
     refine q_step (v := .slice (subA apA (Int.toNat (F_partEnd ap 1)) (Int.toNat (F_partEnd ap (F_partEnd ap 1))) 2) ((slI 2 ap (F_partEnd ap 1) (F_partEnd ap (F_partEnd ap 1))).length / 2 : Nat) ((Int.toNat (F_partEnd ap (F_partEnd ap 1))) - (Int.toNat (F_partEnd ap 1)))) hE93 (y_move rfl) rfl rfl rfl ?_; intro a94 hE95; clear hE93
     refine l_step hE95 rfl (l_call (f := 201) (argv := [.slice (subA apA (Int.toNat (F_partEnd ap 1)) (Int.toNat (F_partEnd ap (F_partEnd ap 1))) 2) ((slI 2 ap (F_partEnd ap 1) (F_partEnd ap (F_partEnd ap 1))).length / 2 : Nat) ((Int.toNat (F_partEnd ap (F_partEnd ap 1))) - (Int.toNat (F_partEnd ap 1)))]) hE95 (fun _ => cf_isFalsum _ _) rfl rfl (c_isFalsum (subA apA (Int.toNat (F_partEnd ap 1)) (Int.toNat (F_partEnd ap (F_partEnd ap 1))) 2) ((slI 2 ap (F_partEnd ap 1) (F_partEnd ap (F_partEnd ap 1))).length / 2 : Nat) ((Int.toNat (F_partEnd ap (F_partEnd ap 1))) - (Int.toNat (F_partEnd ap 1))) (slI 2 ap (F_partEnd ap 1) (F_partEnd ap (F_partEnd ap 1))) w20 (RdS.sub (St.rdR (i := 0) hS23 rfl) (Int.toNat (F_partEnd ap (F_partEnd ap 1))) hv25.1 hv25.2.1 hv25.2.2 hv27.1 hv27.2 hv26 rfl) (by omega) (by omega)) ?_)
     rintro _ _ ⟨rfl, rfl⟩ a98 hE99; clear hE95
     refine q_step (v := .bool (F_isFalsum (slI 2 ap (F_partEnd ap 1) (F_partEnd ap (F_partEnd ap 1))))) hE99 (y_pick (b := true) rfl rfl) rfl rfl rfl ?_; intro a102 hE103; clear hE99
     refine q_step (v := .bool (F_isFalsum (slI 2 ap (F_partEnd ap 1) (F_partEnd ap (F_partEnd ap 1))))) hE103 (y_assign rfl) rfl rfl rfl ?_; intro a104 hE105; clear hE103
     refine c_nil ?_
     have hE106 := hE105.sub (L' := [(1, .bool false), (5, .slice (subA apA (Int.toNat 1) (Int.toNat (F_partEnd ap 1)) 2) ((slI 2 ap 1 (F_partEnd ap 1)).length / 2 : Nat) ((Int.toNat (F_partEnd ap 1)) - (Int.toNat 1))), (6, .slice (subA apA (Int.toNat (F_partEnd ap 1)) (Int.toNat (F_partEnd ap (F_partEnd ap 1))) 2) ((slI 2 ap (F_partEnd ap 1) (F_partEnd ap (F_partEnd ap 1))).length / 2 : Nat) ((Int.toNat (F_partEnd ap (F_partEnd ap 1))) - (Int.toNat (F_partEnd ap 1)))), (22, .bool (F_isFalsum (slI 2 ap (F_partEnd ap 1) (F_partEnd ap (F_partEnd ap 1)))))]) ⟨rfl, rfl, rfl, rfl, trivial⟩; clear hE105
     refine p_tn ?_
     have hE107 := hE106; rw [hb58] at hE107; clear hE106
     refine c_true hE107 rfl ?_
     refine c_seq ?_
     refine c_reg ?_
     refine l_step hE107 rfl (l_call (f := 144) (argv := []) hE107 (fun _ => cf_falsum _ _) rfl rfl (c_falsum w20) ?_)
     rintro _ w109 ⟨b114, c115, rfl, ho116, he113⟩ a110 hE111; clear hE107
     have hf117 := falsum_len
     have hS112 := St.own hS23 he113 ho116; clear hS23
     refine q_step (v := .slice b114 ((F_falsum).length / 2 : Nat) c115) hE111 (y_assign rfl) rfl rfl rfl ?_; intro a118 hE119; clear hE111
     refine c_nil ?_
     have hE120 := hE119.sub (L' := [(4, .slice b114 ((F_falsum).length / 2 : Nat) c115)]) ⟨rfl, trivial⟩; clear hE119
     refine p_tn ?_
     refine wp_ret ?_
     refine p_br ?_
     refine p_tr ?_
     have hF : F_implyNormal self ap positive = F_falsum := by unfold F_implyNormal; rw [ht67, hb58, hb44]; first | done | rfl
     refine c_ret1 hE120 rfl rfl ?_
     exact ⟨b114, c115, (by rw [hF]; first | done | (dsimp only; done) | rfl), (by rw [hF]; (try dsimp only); exact hS112.ok 0 _ rfl), hS112.ext⟩
   ·
    have hE121 := hE57; (try rw [hb58] at hE121); clear hE57
    refine q_skip hE121 rfl rfl rfl ?_; intro a122 hE123; clear hE121
    refine q_step (v := .bool false) hE123 (y_pick (b := false) rfl rfl) rfl rfl rfl ?_; intro a124 hE125; clear hE123
    refine q_step (v := .bool false) hE125 (y_assign rfl) rfl rfl rfl ?_; intro a126 hE127; clear hE125
    refine c_nil ?_
    have hE128 := hE127.sub (L' := [(1, .bool positive), (5, .slice (subA apA (Int.toNat 1) (Int.toNat (F_partEnd ap 1)) 2) ((slI 2 ap 1 (F_partEnd ap 1)).length / 2 : Nat) ((Int.toNat (F_partEnd ap 1)) - (Int.toNat 1))), (6, .slice (subA apA (Int.toNat (F_partEnd ap 1)) (Int.toNat (F_partEnd ap (F_partEnd ap 1))) 2) ((slI 2 ap (F_partEnd ap 1) (F_partEnd ap (F_partEnd ap 1))).length / 2 : Nat) ((Int.toNat (F_partEnd ap (F_partEnd ap 1))) - (Int.toNat (F_partEnd ap 1)))), (11, .bool false)]) ⟨rfl, rfl, rfl, rfl, trivial⟩; clear hE127
    refine p_tn ?_
    refine c_false hE128 rfl ?_
    refine c_seq ?_
    refine c_reg ?_
    refine q_step (v := .slice (subA apA (Int.toNat 1) (Int.toNat (F_partEnd ap 1)) 2) ((slI 2 ap 1 (F_partEnd ap 1)).length / 2 : Nat) ((Int.toNat (F_partEnd ap 1)) - (Int.toNat 1))) hE128 (y_move rfl) rfl rfl rfl ?_; intro a129 hE130; clear hE128
    refine l_step hE130 rfl (l_call (f := 201) (argv := [.slice (subA apA (Int.toNat 1) (Int.toNat (F_partEnd ap 1)) 2) ((slI 2 ap 1 (F_partEnd ap 1)).length / 2 : Nat) ((Int.toNat (F_partEnd ap 1)) - (Int.toNat 1))]) hE130 (fun _ => cf_isFalsum _ _) rfl rfl (c_isFalsum (subA apA (Int.toNat 1) (Int.toNat (F_partEnd ap 1)) 2) ((slI 2 ap 1 (F_partEnd ap 1)).length / 2 : Nat) ((Int.toNat (F_partEnd ap 1)) - (Int.toNat 1)) (slI 2 ap 1 (F_partEnd ap 1)) w20 (RdS.sub (St.rdR (i := 0) hS23 rfl) (Int.toNat (F_partEnd ap 1)) hv13.1 hv13.2.1 hv13.2.2 hv15.1 hv15.2 hv14 rfl) (by omega) (by omega)) ?_)
    rintro _ _ ⟨rfl, rfl⟩ a133 hE134; clear hE130
    refine q_step (v := .bool (F_isFalsum (slI 2 ap 1 (F_partEnd ap 1)))) hE134 (y_move rfl) rfl rfl rfl ?_; intro a137 hE138; clear hE134
    have hE139 := hE138; rw [hb44] at hE139; clear hE138
    refine q_step (v := .slice (subA apA (Int.toNat (F_partEnd ap 1)) (Int.toNat (F_partEnd ap (F_partEnd ap 1))) 2) ((slI 2 ap (F_partEnd ap 1) (F_partEnd ap (F_partEnd ap 1))).length / 2 : Nat) ((Int.toNat (F_partEnd ap (F_partEnd ap 1))) - (Int.toNat (F_partEnd ap 1)))) hE139 (y_move rfl) rfl rfl rfl ?_; intro a140 hE141; clear hE139
    refine l_step hE141 rfl (l_call (f := 201) (argv := [.slice (subA apA (Int.toNat (F_partEnd ap 1)) (Int.toNat (F_partEnd ap (F_partEnd ap 1))) 2) ((slI 2 ap (F_partEnd ap 1) (F_partEnd ap (F_partEnd ap 1))).length / 2 : Nat) ((Int.toNat (F_partEnd ap (F_partEnd ap 1))) - (Int.toNat (F_partEnd ap 1)))]) hE141 (fun _ => cf_isFalsum _ _) rfl rfl (c_isFalsum (subA apA (Int.toNat (F_partEnd ap 1)) (Int.toNat (F_partEnd ap (F_partEnd ap 1))) 2) ((slI 2 ap (F_partEnd ap 1) (F_partEnd ap (F_partEnd ap 1))).length / 2 : Nat) ((Int.toNat (F_partEnd ap (F_partEnd ap 1))) - (Int.toNat (F_partEnd ap 1))) (slI 2 ap (F_partEnd ap 1) (F_partEnd ap (F_partEnd ap 1))) w20 (RdS.sub (St.rdR (i := 0) hS23 rfl) (Int.toNat (F_partEnd ap (F_partEnd ap 1))) hv25.1 hv25.2.1 hv25.2.2 hv27.1 hv27.2 hv26 rfl) (by omega) (by omega)) ?_)
    rintro _ _ ⟨rfl, rfl⟩ a144 hE145; clear hE141
    refine q_step (v := .bool (F_isFalsum (slI 2 ap (F_partEnd ap 1) (F_partEnd ap (F_partEnd ap 1))))) hE145 (y_pick (b := true) rfl rfl) rfl rfl rfl ?_; intro a148 hE149; clear hE145
    refine q_step (v := .bool (F_isFalsum (slI 2 ap (F_partEnd ap 1) (F_partEnd ap (F_partEnd ap 1))))) hE149 (y_assign rfl) rfl rfl rfl ?_; intro a150 hE151; clear hE149
    refine c_nil ?_
    have hE152 := hE151.sub (L' := [(1, .bool positive), (5, .slice (subA apA (Int.toNat 1) (Int.toNat (F_partEnd ap 1)) 2) ((slI 2 ap 1 (F_partEnd ap 1)).length / 2 : Nat) ((Int.toNat (F_partEnd ap 1)) - (Int.toNat 1))), (6, .slice (subA apA (Int.toNat (F_partEnd ap 1)) (Int.toNat (F_partEnd ap (F_partEnd ap 1))) 2) ((slI 2 ap (F_partEnd ap 1) (F_partEnd ap (F_partEnd ap 1))).length / 2 : Nat) ((Int.toNat (F_partEnd ap (F_partEnd ap 1))) - (Int.toNat (F_partEnd ap 1)))), (22, .bool (F_isFalsum (slI 2 ap (F_partEnd ap 1) (F_partEnd ap (F_partEnd ap 1)))))]) ⟨rfl, rfl, rfl, rfl, trivial⟩; clear hE151
    refine p_tn ?_
    have hE153 := hE152; rw [hb58] at hE153; clear hE152
    refine c_false hE153 rfl ?_
    refine c_seq ?_
    refine c_reg ?_
    refine q_step (v := .slice (subA apA (Int.toNat (F_partEnd ap 1)) (Int.toNat (F_partEnd ap (F_partEnd ap 1))) 2) ((slI 2 ap (F_partEnd ap 1) (F_partEnd ap (F_partEnd ap 1))).length / 2 : Nat) ((Int.toNat (F_partEnd ap (F_partEnd ap 1))) - (Int.toNat (F_partEnd ap 1)))) hE153 (y_move rfl) rfl rfl rfl ?_; intro a154 hE155; clear hE153
    refine l_step hE155 rfl (l_call (f := 201) (argv := [.slice (subA apA (Int.toNat (F_partEnd ap 1)) (Int.toNat (F_partEnd ap (F_partEnd ap 1))) 2) ((slI 2 ap (F_partEnd ap 1) (F_partEnd ap (F_partEnd ap 1))).length / 2 : Nat) ((Int.toNat (F_partEnd ap (F_partEnd ap 1))) - (Int.toNat (F_partEnd ap 1)))]) hE155 (fun _ => cf_isFalsum _ _) rfl rfl (c_isFalsum (subA apA (Int.toNat (F_partEnd ap 1)) (Int.toNat (F_partEnd ap (F_partEnd ap 1))) 2) ((slI 2 ap (F_partEnd ap 1) (F_partEnd ap (F_partEnd ap 1))).length / 2 : Nat) ((Int.toNat (F_partEnd ap (F_partEnd ap 1))) - (Int.toNat (F_partEnd ap 1))) (slI 2 ap (F_partEnd ap 1) (F_partEnd ap (F_partEnd ap 1))) w20 (RdS.sub (St.rdR (i := 0) hS23 rfl) (Int.toNat (F_partEnd ap (F_partEnd ap 1))) hv25.1 hv25.2.1 hv25.2.2 hv27.1 hv27.2 hv26 rfl) (by omega) (by omega)) ?_)
    rintro _ _ ⟨rfl, rfl⟩ a158 hE159; clear hE155
    refine q_step (v := .bool (F_isFalsum (slI 2 ap (F_partEnd ap 1) (F_partEnd ap (F_partEnd ap 1))))) hE159 (y_assign rfl) rfl rfl rfl ?_; intro a162 hE163; clear hE159
    refine c_nil ?_
    have hE164 := hE163.sub (L' := [(1, .bool positive), (5, .slice (subA apA (Int.toNat 1) (Int.toNat (F_partEnd ap 1)) 2) ((slI 2 ap 1 (F_partEnd ap 1)).length / 2 : Nat) ((Int.toNat (F_partEnd ap 1)) - (Int.toNat 1))), (6, .slice (subA apA (Int.toNat (F_partEnd ap 1)) (Int.toNat (F_partEnd ap (F_partEnd ap 1))) 2) ((slI 2 ap (F_partEnd ap 1) (F_partEnd ap (F_partEnd ap 1))).length / 2 : Nat) ((Int.toNat (F_partEnd ap (F_partEnd ap 1))) - (Int.toNat (F_partEnd ap 1)))), (30, .bool (F_isFalsum (slI 2 ap (F_partEnd ap 1) (F_partEnd ap (F_partEnd ap 1)))))]) ⟨rfl, rfl, rfl, rfl, trivial⟩; clear hE163
    refine p_tn ?_
    have hE165 := hE164; rw [hb58] at hE165; clear hE164
    refine c_false hE165 rfl ?_
    refine c_seq ?_
    refine c_reg ?_
    refine q_step (v := .bool positive) hE165 (y_move rfl) rfl rfl rfl ?_; intro a166 hE167; clear hE165
    refine q_step (v := .bool positive) hE167 (y_assign rfl) rfl rfl rfl ?_; intro a168 hE169; clear hE167
    refine c_nil ?_
    have hE170 := hE169.sub (L' := [(5, .slice (subA apA (Int.toNat 1) (Int.toNat (F_partEnd ap 1)) 2) ((slI 2 ap 1 (F_partEnd ap 1)).length / 2 : Nat) ((Int.toNat (F_partEnd ap 1)) - (Int.toNat 1))), (6, .slice (subA apA (Int.toNat (F_partEnd ap 1)) (Int.toNat (F_partEnd ap (F_partEnd ap 1))) 2) ((slI 2 ap (F_partEnd ap 1) (F_partEnd ap (F_partEnd ap 1))).length / 2 : Nat) ((Int.toNat (F_partEnd ap (F_partEnd ap 1))) - (Int.toNat (F_partEnd ap 1)))), (37, .bool positive)]) ⟨rfl, rfl, rfl, trivial⟩; clear hE169
    refine p_tn ?_
    refine c_cond hE170 rfl (fun ht171 => ?_) (fun ht171 => ?_)
    ·
     have hE172 := hE170; rw [ht171] at hE172; clear hE170
     refine c_seq ?_
     refine c_reg ?_
     refine q_step (v := .slice (subA apA (Int.toNat 1) (Int.toNat (F_partEnd ap 1)) 2) ((slI 2 ap 1 (F_partEnd ap 1)).length / 2 : Nat) ((Int.toNat (F_partEnd ap 1)) - (Int.toNat 1))) hE172 (y_move rfl) rfl rfl rfl ?_; intro a173 hE174; clear hE172
     refine l_step hE174 rfl (l_call (f := 89) (argv := [.slice (subA apA (Int.toNat 1) (Int.toNat (F_partEnd ap 1)) 2) ((slI 2 ap 1 (F_partEnd ap 1)).length / 2 : Nat) ((Int.toNat (F_partEnd ap 1)) - (Int.toNat 1)), .bool false]) hE174 (fun _ => cf_negationNormal _ _) rfl rfl (ih (subA apA (Int.toNat 1) (Int.toNat (F_partEnd ap 1)) 2) ((slI 2 ap 1 (F_partEnd ap 1)).length / 2 : Nat) ((Int.toNat (F_partEnd ap 1)) - (Int.toNat 1)) (slI 2 ap 1 (F_partEnd ap 1)) false w20 (RdS.sub (St.rdR (i := 0) hS23 rfl) (Int.toNat (F_partEnd ap 1)) hv13.1 hv13.2.1 hv13.2.2 hv15.1 hv15.2 hv14 rfl) (Nat.le_trans (slI_le 2 _ _ _) hl) (by first | (with_reducible exact hi1.1) | (with_reducible exact hi1.2.1)) (by omega)) ?_)
     rintro _ w176 ⟨b181, c182, rfl, ho183, he180⟩ a177 hE178; clear hE174
     have hf184 := hpost (slI 2 ap 1 (F_partEnd ap 1)) false (by first | (have h := hrow.2; omega) | exact (Nat.le_trans (slI_le 2 _ _ _) hl)) (by first | (with_reducible exact hrow.1) | first | (with_reducible exact hi1.1) | (with_reducible exact hi1.2.1)) (by first | (have h := hrow.2; omega) | (have h := hi1.2.2; omega))
     have hS179 := St.own hS23 he180 ho183; clear hS23
     refine q_step (v := .slice (subA apA (Int.toNat (F_partEnd ap 1)) (Int.toNat (F_partEnd ap (F_partEnd ap 1))) 2) ((slI 2 ap (F_partEnd ap 1) (F_partEnd ap (F_partEnd ap 1))).length / 2 : Nat) ((Int.toNat (F_partEnd ap (F_partEnd ap 1))) - (Int.toNat (F_partEnd ap 1)))) hE178 (y_move rfl) rfl rfl rfl ?_; intro a185 hE186; clear hE178
     refine l_step hE186 rfl (l_call (f := 89) (argv := [.slice (subA apA (Int.toNat (F_partEnd ap 1)) (Int.toNat (F_partEnd ap (F_partEnd ap 1))) 2) ((slI 2 ap (F_partEnd ap 1) (F_partEnd ap (F_partEnd ap 1))).length / 2 : Nat) ((Int.toNat (F_partEnd ap (F_partEnd ap 1))) - (Int.toNat (F_partEnd ap 1))), .bool true]) hE186 (fun _ => cf_negationNormal _ _) rfl rfl (ih (subA apA (Int.toNat (F_partEnd ap 1)) (Int.toNat (F_partEnd ap (F_partEnd ap 1))) 2) ((slI 2 ap (F_partEnd ap 1) (F_partEnd ap (F_partEnd ap 1))).length / 2 : Nat) ((Int.toNat (F_partEnd ap (F_partEnd ap 1))) - (Int.toNat (F_partEnd ap 1))) (slI 2 ap (F_partEnd ap 1) (F_partEnd ap (F_partEnd ap 1))) true w176 (RdS.sub (St.rdR (i := 1) hS179 rfl) (Int.toNat (F_partEnd ap (F_partEnd ap 1))) hv25.1 hv25.2.1 hv25.2.2 hv27.1 hv27.2 hv26 rfl) (Nat.le_trans (slI_le 2 _ _ _) hl) (by first | (with_reducible exact hi1.1) | (with_reducible exact hi1.2.1)) (by omega)) ?_)
     rintro _ w188 ⟨b193, c194, rfl, ho195, he192⟩ a189 hE190; clear hE186
     have hf196 := hpost (slI 2 ap (F_partEnd ap 1) (F_partEnd ap (F_partEnd ap 1))) true (by first | (have h := hrow.2; omega) | exact (Nat.le_trans (slI_le 2 _ _ _) hl)) (by first | (with_reducible exact hrow.1) | first | (with_reducible exact hi1.1) | (with_reducible exact hi1.2.1)) (by first | (have h := hrow.2; omega) | (have h := hi1.2.2; omega))
     have hS191 := St.own hS179 he192 ho195; clear hS179
     refine l_step hE190 rfl (l_call (f := 127) (argv := [.int .i64 3, .slice b181 ((self (slI 2 ap 1 (F_partEnd ap 1)) false).length / 2 : Nat) c182, .slice b193 ((self (slI 2 ap (F_partEnd ap 1) (F_partEnd ap (F_partEnd ap 1))) true).length / 2 : Nat) c194]) hE190 (fun _ => cf_join _ _) rfl rfl (c_join 3 b181 ((self (slI 2 ap 1 (F_partEnd ap 1)) false).length / 2 : Nat) c182 (self (slI 2 ap 1 (F_partEnd ap 1)) false) b193 ((self (slI 2 ap (F_partEnd ap 1) (F_partEnd ap (F_partEnd ap 1))) true).length / 2 : Nat) c194 (self (slI 2 ap (F_partEnd ap 1) (F_partEnd ap (F_partEnd ap 1))) true) w188 (St.rdO (i := 1) hS191 rfl) (St.rdO (i := 0) hS191 rfl) (by omega) (by omega)) ?_)
     rintro _ w198 ⟨b203, c204, rfl, ho205, he202⟩ a199 hE200; clear hE190
     have hf206 := join_len 3 (self (slI 2 ap 1 (F_partEnd ap 1)) false) (self (slI 2 ap (F_partEnd ap 1) (F_partEnd ap (F_partEnd ap 1))) true)
     have hS201 := St.own hS191 he202 ho205; clear hS191
     refine q_step (v := .slice b203 ((F_join 3 (self (slI 2 ap 1 (F_partEnd ap 1)) false) (self (slI 2 ap (F_partEnd ap 1) (F_partEnd ap (F_partEnd ap 1))) true)).length / 2 : Nat) c204) hE200 (y_assign rfl) rfl rfl rfl ?_; intro a207 hE208; clear hE200
     refine c_nil ?_
     have hE209 := hE208.sub (L' := [(4, .slice b203 ((F_join 3 (self (slI 2 ap 1 (F_partEnd ap 1)) false) (self (slI 2 ap (F_partEnd ap 1) (F_partEnd ap (F_partEnd ap 1))) true)).length / 2 : Nat) c204)]) ⟨rfl, trivial⟩; clear hE208
     refine p_tn ?_
     refine wp_ret ?_
     refine p_br ?_
     refine p_tr ?_
     have hF : F_implyNormal self ap positive = F_join 3 (self (slI 2 ap 1 (F_partEnd ap 1)) false) (self (slI 2 ap (F_partEnd ap 1) (F_partEnd ap (F_partEnd ap 1))) true) := by unfold F_implyNormal; rw [ht171, hb58, hb44]; first | done | rfl
     refine c_ret1 hE209 rfl rfl ?_
     exact ⟨b203, c204, (by rw [hF]; first | done | (dsimp only; done) | rfl), (by rw [hF]; (try dsimp only); exact hS201.ok 0 _ rfl), hS201.ext⟩
    ·
     have hE210 := hE170; rw [ht171] at hE210; clear hE170
     refine wp_skip ?_
     refine p_bn ?_
     refine p_tn ?_
     refine c_seq ?_
     refine c_reg ?_
     refine q_step (v := .slice (subA apA (Int.toNat 1) (Int.toNat (F_partEnd ap 1)) 2) ((slI 2 ap 1 (F_partEnd ap 1)).length / 2 : Nat) ((Int.toNat (F_partEnd ap 1)) - (Int.toNat 1))) hE210 (y_move rfl) rfl rfl rfl ?_; intro a211 hE212; clear hE210
     refine l_step hE212 rfl (l_call (f := 89) (argv := [.slice (subA apA (Int.toNat 1) (Int.toNat (F_partEnd ap 1)) 2) ((slI 2 ap 1 (F_partEnd ap 1)).length / 2 : Nat) ((Int.toNat (F_partEnd ap 1)) - (Int.toNat 1)), .bool true]) hE212 (fun _ => cf_negationNormal _ _) rfl rfl (ih (subA apA (Int.toNat 1) (Int.toNat (F_partEnd ap 1)) 2) ((slI 2 ap 1 (F_partEnd ap 1)).length / 2 : Nat) ((Int.toNat (F_partEnd ap 1)) - (Int.toNat 1)) (slI 2 ap 1 (F_partEnd ap 1)) true w20 (RdS.sub (St.rdR (i := 0) hS23 rfl) (Int.toNat (F_partEnd ap 1)) hv13.1 hv13.2.1 hv13.2.2 hv15.1 hv15.2 hv14 rfl) (Nat.le_trans (slI_le 2 _ _ _) hl) (by first | (with_reducible exact hi1.1) | (with_reducible exact hi1.2.1)) (by omega)) ?_)
     rintro _ w214 ⟨b219, c220, rfl, ho221, he218⟩ a215 hE216; clear hE212
     have hf222 := hpost (slI 2 ap 1 (F_partEnd ap 1)) true (by first | (have h := hrow.2; omega) | exact (Nat.le_trans (slI_le 2 _ _ _) hl)) (by first | (with_reducible exact hrow.1) | first | (with_reducible exact hi1.1) | (with_reducible exact hi1.2.1)) (by first | (have h := hrow.2; omega) | (have h := hi1.2.2; omega))
     have hS217 := St.own hS23 he218 ho221; clear hS23
     refine q_step (v := .slice (subA apA (Int.toNat (F_partEnd ap 1)) (Int.toNat (F_partEnd ap (F_partEnd ap 1))) 2) ((slI 2 ap (F_partEnd ap 1) (F_partEnd ap (F_partEnd ap 1))).length / 2 : Nat) ((Int.toNat (F_partEnd ap (F_partEnd ap 1))) - (Int.toNat (F_partEnd ap 1)))) hE216 (y_move rfl) rfl rfl rfl ?_; intro a223 hE224; clear hE216
     refine l_step hE224 rfl (l_call (f := 89) (argv := [.slice (subA apA (Int.toNat (F_partEnd ap 1)) (Int.toNat (F_partEnd ap (F_partEnd ap 1))) 2) ((slI 2 ap (F_partEnd ap 1) (F_partEnd ap (F_partEnd ap 1))).length / 2 : Nat) ((Int.toNat (F_partEnd ap (F_partEnd ap 1))) - (Int.toNat (F_partEnd ap 1))), .bool false]) hE224 (fun _ => cf_negationNormal _ _) rfl rfl (ih (subA apA (Int.toNat (F_partEnd ap 1)) (Int.toNat (F_partEnd ap (F_partEnd ap 1))) 2) ((slI 2 ap (F_partEnd ap 1) (F_partEnd ap (F_partEnd ap 1))).length / 2 : Nat) ((Int.toNat (F_partEnd ap (F_partEnd ap 1))) - (Int.toNat (F_partEnd ap 1))) (slI 2 ap (F_partEnd ap 1) (F_partEnd ap (F_partEnd ap 1))) false w214 (RdS.sub (St.rdR (i := 1) hS217 rfl) (Int.toNat (F_partEnd ap (F_partEnd ap 1))) hv25.1 hv25.2.1 hv25.2.2 hv27.1 hv27.2 hv26 rfl) (Nat.le_trans (slI_le 2 _ _ _) hl) (by first | (with_reducible exact hi1.1) | (with_reducible exact hi1.2.1)) (by omega)) ?_)
     rintro _ w226 ⟨b231, c232, rfl, ho233, he230⟩ a227 hE228; clear hE224
     have hf234 := hpost (slI 2 ap (F_partEnd ap 1) (F_partEnd ap (F_partEnd ap 1))) false (by first | (have h := hrow.2; omega) | exact (Nat.le_trans (slI_le 2 _ _ _) hl)) (by first | (with_reducible exact hrow.1) | first | (with_reducible exact hi1.1) | (with_reducible exact hi1.2.1)) (by first | (have h := hrow.2; omega) | (have h := hi1.2.2; omega))
     have hS229 := St.own hS217 he230 ho233; clear hS217
     refine l_step hE228 rfl (l_call (f := 127) (argv := [.int .i64 2, .slice b219 ((self (slI 2 ap 1 (F_partEnd ap 1)) true).length / 2 : Nat) c220, .slice b231 ((self (slI 2 ap (F_partEnd ap 1) (F_partEnd ap (F_partEnd ap 1))) false).length / 2 : Nat) c232]) hE228 (fun _ => cf_join _ _) rfl rfl (c_join 2 b219 ((self (slI 2 ap 1 (F_partEnd ap 1)) true).length / 2 : Nat) c220 (self (slI 2 ap 1 (F_partEnd ap 1)) true) b231 ((self (slI 2 ap (F_partEnd ap 1) (F_partEnd ap (F_partEnd ap 1))) false).length / 2 : Nat) c232 (self (slI 2 ap (F_partEnd ap 1) (F_partEnd ap (F_partEnd ap 1))) false) w226 (St.rdO (i := 1) hS229 rfl) (St.rdO (i := 0) hS229 rfl) (by omega) (by omega)) ?_)
     rintro _ w236 ⟨b241, c242, rfl, ho243, he240⟩ a237 hE238; clear hE228
     have hf244 := join_len 2 (self (slI 2 ap 1 (F_partEnd ap 1)) true) (self (slI 2 ap (F_partEnd ap 1) (F_partEnd ap (F_partEnd ap 1))) false)
     have hS239 := St.own hS229 he240 ho243; clear hS229
     refine q_step (v := .slice b241 ((F_join 2 (self (slI 2 ap 1 (F_partEnd ap 1)) true) (self (slI 2 ap (F_partEnd ap 1) (F_partEnd ap (F_partEnd ap 1))) false)).length / 2 : Nat) c242) hE238 (y_assign rfl) rfl rfl rfl ?_; intro a245 hE246; clear hE238
     refine c_nil ?_
     have hE247 := hE246.sub (L' := [(4, .slice b241 ((F_join 2 (self (slI 2 ap 1 (F_partEnd ap 1)) true) (self (slI 2 ap (F_partEnd ap 1) (F_partEnd ap (F_partEnd ap 1))) false)).length / 2 : Nat) c242)]) ⟨rfl, trivial⟩; clear hE246
     refine p_tn ?_
     refine wp_ret ?_
     have hF : F_implyNormal self ap positive = F_join 2 (self (slI 2 ap 1 (F_partEnd ap 1)) true) (self (slI 2 ap (F_partEnd ap 1) (F_partEnd ap (F_partEnd ap 1))) false) := by unfold F_implyNormal; rw [ht171, hb58, hb44]; first | done | rfl
     refine c_ret1 hE247 rfl rfl ?_
     exact ⟨b241, c242, (by rw [hF]; first | done | (dsimp only; done) | rfl), (by rw [hF]; (try dsimp only); exact hS239.ok 0 _ rfl), hS239.ext⟩
  ·
   have hE248 := hE43; (try rw [hb44] at hE248); clear hE43
   refine q_skip hE248 rfl rfl rfl ?_; intro a249 hE250; clear hE248
   refine q_skip hE250 rfl rfl rfl ?_; intro a251 hE252; clear hE250
   refine q_step (v := .bool false) hE252 (y_pick (b := false) rfl rfl) rfl rfl rfl ?_; intro a253 hE254; clear hE252
   refine q_step (v := .bool false) hE254 (y_move rfl) rfl rfl rfl ?_; intro a255 hE256; clear hE254
   refine q_skip hE256 rfl rfl rfl ?_; intro a257 hE258; clear hE256
   refine q_step (v := .bool false) hE258 (y_pick (b := false) rfl rfl) rfl rfl rfl ?_; intro a259 hE260; clear hE258
   refine q_step (v := .bool false) hE260 (y_assign rfl) rfl rfl rfl ?_; intro a261 hE262; clear hE260
   refine c_nil ?_
   have hE263 := hE262.sub (L' := [(1, .bool positive), (5, .slice (subA apA (Int.toNat 1) (Int.toNat (F_partEnd ap 1)) 2) ((slI 2 ap 1 (F_partEnd ap 1)).length / 2 : Nat) ((Int.toNat (F_partEnd ap 1)) - (Int.toNat 1))), (6, .slice (subA apA (Int.toNat (F_partEnd ap 1)) (Int.toNat (F_partEnd ap (F_partEnd ap 1))) 2) ((slI 2 ap (F_partEnd ap 1) (F_partEnd ap (F_partEnd ap 1))).length / 2 : Nat) ((Int.toNat (F_partEnd ap (F_partEnd ap 1))) - (Int.toNat (F_partEnd ap 1)))), (11, .bool false)]) ⟨rfl, rfl, rfl, rfl, trivial⟩; clear hE262
   refine p_tn ?_
   refine c_false hE263 rfl ?_
   refine c_seq ?_
   refine c_reg ?_
   refine q_step (v := .slice (subA apA (Int.toNat 1) (Int.toNat (F_partEnd ap 1)) 2) ((slI 2 ap 1 (F_partEnd ap 1)).length / 2 : Nat) ((Int.toNat (F_partEnd ap 1)) - (Int.toNat 1))) hE263 (y_move rfl) rfl rfl rfl ?_; intro a264 hE265; clear hE263
   refine l_step hE265 rfl (l_call (f := 201) (argv := [.slice (subA apA (Int.toNat 1) (Int.toNat (F_partEnd ap 1)) 2) ((slI 2 ap 1 (F_partEnd ap 1)).length / 2 : Nat) ((Int.toNat (F_partEnd ap 1)) - (Int.toNat 1))]) hE265 (fun _ => cf_isFalsum _ _) rfl rfl (c_isFalsum (subA apA (Int.toNat 1) (Int.toNat (F_partEnd ap 1)) 2) ((slI 2 ap 1 (F_partEnd ap 1)).length / 2 : Nat) ((Int.toNat (F_partEnd ap 1)) - (Int.toNat 1)) (slI 2 ap 1 (F_partEnd ap 1)) w20 (RdS.sub (St.rdR (i := 0) hS23 rfl) (Int.toNat (F_partEnd ap 1)) hv13.1 hv13.2.1 hv13.2.2 hv15.1 hv15.2 hv14 rfl) (by omega) (by omega)) ?_)
   rintro _ _ ⟨rfl, rfl⟩ a268 hE269; clear hE265
   refine q_step (v := .bool (F_isFalsum (slI 2 ap 1 (F_partEnd ap 1)))) hE269 (y_move rfl) rfl rfl rfl ?_; intro a272 hE273; clear hE269
   have hE274 := hE273; rw [hb44] at hE274; clear hE273
   refine q_skip hE274 rfl rfl rfl ?_; intro a275 hE276; clear hE274
   refine q_skip hE276 rfl rfl rfl ?_; intro a277 hE278; clear hE276
   refine q_step (v := .bool false) hE278 (y_pick (b := false) rfl rfl) rfl rfl rfl ?_; intro a279 hE280; clear hE278
   refine q_step (v := .bool false) hE280 (y_assign rfl) rfl rfl rfl ?_; intro a281 hE282; clear hE280
   refine c_nil ?_
   have hE283 := hE282.sub (L' := [(1, .bool positive), (5, .slice (subA apA (Int.toNat 1) (Int.toNat (F_partEnd ap 1)) 2) ((slI 2 ap 1 (F_partEnd ap 1)).length / 2 : Nat) ((Int.toNat (F_partEnd ap 1)) - (Int.toNat 1))), (6, .slice (subA apA (Int.toNat (F_partEnd ap 1)) (Int.toNat (F_partEnd ap (F_partEnd ap 1))) 2) ((slI 2 ap (F_partEnd ap 1) (F_partEnd ap (F_partEnd ap 1))).length / 2 : Nat) ((Int.toNat (F_partEnd ap (F_partEnd ap 1))) - (Int.toNat (F_partEnd ap 1)))), (22, .bool false)]) ⟨rfl, rfl, rfl, rfl, trivial⟩; clear hE282
   refine p_tn ?_
   refine c_false hE283 rfl ?_
   refine c_seq ?_
   refine c_reg ?_
   refine q_step (v := .slice (subA apA (Int.toNat (F_partEnd ap 1)) (Int.toNat (F_partEnd ap (F_partEnd ap 1))) 2) ((slI 2 ap (F_partEnd ap 1) (F_partEnd ap (F_partEnd ap 1))).length / 2 : Nat) ((Int.toNat (F_partEnd ap (F_partEnd ap 1))) - (Int.toNat (F_partEnd ap 1)))) hE283 (y_move rfl) rfl rfl rfl ?_; intro a284 hE285; clear hE283
   refine l_step hE285 rfl (l_call (f := 201) (argv := [.slice (subA apA (Int.toNat (F_partEnd ap 1)) (Int.toNat (F_partEnd ap (F_partEnd ap 1))) 2) ((slI 2 ap (F_partEnd ap 1) (F_partEnd ap (F_partEnd ap 1))).length / 2 : Nat) ((Int.toNat (F_partEnd ap (F_partEnd ap 1))) - (Int.toNat (F_partEnd ap 1)))]) hE285 (fun _ => cf_isFalsum _ _) rfl rfl (c_isFalsum (subA apA (Int.toNat (F_partEnd ap 1)) (Int.toNat (F_partEnd ap (F_partEnd ap 1))) 2) ((slI 2 ap (F_partEnd ap 1) (F_partEnd ap (F_partEnd ap 1))).length / 2 : Nat) ((Int.toNat (F_partEnd ap (F_partEnd ap 1))) - (Int.toNat (F_partEnd ap 1))) (slI 2 ap (F_partEnd ap 1) (F_partEnd ap (F_partEnd ap 1))) w20 (RdS.sub (St.rdR (i := 0) hS23 rfl) (Int.toNat (F_partEnd ap (F_partEnd ap 1))) hv25.1 hv25.2.1 hv25.2.2 hv27.1 hv27.2 hv26 rfl) (by omega) (by omega)) ?_)
   rintro _ _ ⟨rfl, rfl⟩ a288 hE289; clear hE285
   refine q_step (v := .bool (F_isFalsum (slI 2 ap (F_partEnd ap 1) (F_partEnd ap (F_partEnd ap 1))))) hE289 (y_assign rfl) rfl rfl rfl ?_; intro a292 hE293; clear hE289
   refine c_nil ?_
   have hE294 := hE293.sub (L' := [(1, .bool positive), (5, .slice (subA apA (Int.toNat 1) (Int.toNat (F_partEnd ap 1)) 2) ((slI 2 ap 1 (F_partEnd ap 1)).length / 2 : Nat) ((Int.toNat (F_partEnd ap 1)) - (Int.toNat 1))), (6, .slice (subA apA (Int.toNat (F_partEnd ap 1)) (Int.toNat (F_partEnd ap (F_partEnd ap 1))) 2) ((slI 2 ap (F_partEnd ap 1) (F_partEnd ap (F_partEnd ap 1))).length / 2 : Nat) ((Int.toNat (F_partEnd ap (F_partEnd ap 1))) - (Int.toNat (F_partEnd ap 1)))), (30, .bool (F_isFalsum (slI 2 ap (F_partEnd ap 1) (F_partEnd ap (F_partEnd ap 1)))))]) ⟨rfl, rfl, rfl, rfl, trivial⟩; clear hE293
   refine p_tn ?_
   refine c_cond hE294 rfl (fun ht295 => ?_) (fun ht295 => ?_)
   ·
    have hE296 := hE294; rw [ht295] at hE296; clear hE294
    refine c_seq ?_
    refine c_reg ?_
    refine q_step (v := .slice (subA apA (Int.toNat 1) (Int.toNat (F_partEnd ap 1)) 2) ((slI 2 ap 1 (F_partEnd ap 1)).length / 2 : Nat) ((Int.toNat (F_partEnd ap 1)) - (Int.toNat 1))) hE296 (y_move rfl) rfl rfl rfl ?_; intro a297 hE298; clear hE296
    refine q_step (v := .bool positive) hE298 (y_move rfl) rfl rfl rfl ?_; intro a299 hE300; clear hE298
    refine q_step (v := .bool (!positive)) hE300 (y_not rfl) rfl rfl rfl ?_; intro a301 hE302; clear hE300
    refine l_step hE302 rfl (l_call (f := 89) (argv := [.slice (subA apA (Int.toNat 1) (Int.toNat (F_partEnd ap 1)) 2) ((slI 2 ap 1 (F_partEnd ap 1)).length / 2 : Nat) ((Int.toNat (F_partEnd ap 1)) - (Int.toNat 1)), .bool (!positive)]) hE302 (fun _ => cf_negationNormal _ _) rfl rfl (ih (subA apA (Int.toNat 1) (Int.toNat (F_partEnd ap 1)) 2) ((slI 2 ap 1 (F_partEnd ap 1)).length / 2 : Nat) ((Int.toNat (F_partEnd ap 1)) - (Int.toNat 1)) (slI 2 ap 1 (F_partEnd ap 1)) (!positive) w20 (RdS.sub (St.rdR (i := 0) hS23 rfl) (Int.toNat (F_partEnd ap 1)) hv13.1 hv13.2.1 hv13.2.2 hv15.1 hv15.2 hv14 rfl) (Nat.le_trans (slI_le 2 _ _ _) hl) (by first | (with_reducible exact hi1.1) | (with_reducible exact hi1.2.1)) (by omega)) ?_)
    rintro _ w304 ⟨b309, c310, rfl, ho311, he308⟩ a305 hE306; clear hE302
    have hf312 := hpost (slI 2 ap 1 (F_partEnd ap 1)) (!positive) (by first | (have h := hrow.2; omega) | exact (Nat.le_trans (slI_le 2 _ _ _) hl)) (by first | (with_reducible exact hrow.1) | first | (with_reducible exact hi1.1) | (with_reducible exact hi1.2.1)) (by first | (have h := hrow.2; omega) | (have h := hi1.2.2; omega))
    have hS307 := St.own hS23 he308 ho311; clear hS23
    refine q_step (v := .slice b309 ((self (slI 2 ap 1 (F_partEnd ap 1)) (!positive)).length / 2 : Nat) c310) hE306 (y_assign rfl) rfl rfl rfl ?_; intro a313 hE314; clear hE306
    refine c_nil ?_
    have hE315 := hE314.sub (L' := [(4, .slice b309 ((self (slI 2 ap 1 (F_partEnd ap 1)) (!positive)).length / 2 : Nat) c310)]) ⟨rfl, trivial⟩; clear hE314
    refine p_tn ?_
    refine wp_ret ?_
    refine p_br ?_
    refine p_tr ?_
    have hF : F_implyNormal self ap positive = self (slI 2 ap 1 (F_partEnd ap 1)) (!positive) := by unfold F_implyNormal; rw [ht295, hb44]; first | done | rfl
    refine c_ret1 hE315 rfl rfl ?_
    exact ⟨b309, c310, (by rw [hF]; first | done | (dsimp only; done) | rfl), (by rw [hF]; (try dsimp only); exact hS307.ok 0 _ rfl), hS307.ext⟩
   ·
    have hE316 := hE294; rw [ht295] at hE316; clear hE294
    refine c_seq ?_
    refine c_reg ?_
    refine q_step (v := .bool positive) hE316 (y_move rfl) rfl rfl rfl ?_; intro a317 hE318; clear hE316
    refine q_step (v := .bool positive) hE318 (y_assign rfl) rfl rfl rfl ?_; intro a319 hE320; clear hE318
    refine c_nil ?_
    have hE321 := hE320.sub (L' := [(5, .slice (subA apA (Int.toNat 1) (Int.toNat (F_partEnd ap 1)) 2) ((slI 2 ap 1 (F_partEnd ap 1)).length / 2 : Nat) ((Int.toNat (F_partEnd ap 1)) - (Int.toNat 1))), (6, .slice (subA apA (Int.toNat (F_partEnd ap 1)) (Int.toNat (F_partEnd ap (F_partEnd ap 1))) 2) ((slI 2 ap (F_partEnd ap 1) (F_partEnd ap (F_partEnd ap 1))).length / 2 : Nat) ((Int.toNat (F_partEnd ap (F_partEnd ap 1))) - (Int.toNat (F_partEnd ap 1)))), (37, .bool positive)]) ⟨rfl, rfl, rfl, trivial⟩; clear hE320
    refine p_tn ?_
    refine c_cond hE321 rfl (fun ht322 => ?_) (fun ht322 => ?_)
    ·
     have hE323 := hE321; rw [ht322] at hE323; clear hE321
     refine c_seq ?_
     refine c_reg ?_
     refine q_step (v := .slice (subA apA (Int.toNat 1) (Int.toNat (F_partEnd ap 1)) 2) ((slI 2 ap 1 (F_partEnd ap 1)).length / 2 : Nat) ((Int.toNat (F_partEnd ap 1)) - (Int.toNat 1))) hE323 (y_move rfl) rfl rfl rfl ?_; intro a324 hE325; clear hE323
     refine l_step hE325 rfl (l_call (f := 89) (argv := [.slice (subA apA (Int.toNat 1) (Int.toNat (F_partEnd ap 1)) 2) ((slI 2 ap 1 (F_partEnd ap 1)).length / 2 : Nat) ((Int.toNat (F_partEnd ap 1)) - (Int.toNat 1)), .bool false]) hE325 (fun _ => cf_negationNormal _ _) rfl rfl (ih (subA apA (Int.toNat 1) (Int.toNat (F_partEnd ap 1)) 2) ((slI 2 ap 1 (F_partEnd ap 1)).length / 2 : Nat) ((Int.toNat (F_partEnd ap 1)) - (Int.toNat 1)) (slI 2 ap 1 (F_partEnd ap 1)) false w20 (RdS.sub (St.rdR (i := 0) hS23 rfl) (Int.toNat (F_partEnd ap 1)) hv13.1 hv13.2.1 hv13.2.2 hv15.1 hv15.2 hv14 rfl) (Nat.le_trans (slI_le 2 _ _ _) hl) (by first | (with_reducible exact hi1.1) | (with_reducible exact hi1.2.1)) (by omega)) ?_)
     rintro _ w327 ⟨b332, c333, rfl, ho334, he331⟩ a328 hE329; clear hE325
     have hf335 := hpost (slI 2 ap 1 (F_partEnd ap 1)) false (by first | (have h := hrow.2; omega) | exact (Nat.le_trans (slI_le 2 _ _ _) hl)) (by first | (with_reducible exact hrow.1) | first | (with_reducible exact hi1.1) | (with_reducible exact hi1.2.1)) (by first | (have h := hrow.2; omega) | (have h := hi1.2.2; omega))
     have hS330 := St.own hS23 he331 ho334; clear hS23
     refine q_step (v := .slice (subA apA (Int.toNat (F_partEnd ap 1)) (Int.toNat (F_partEnd ap (F_partEnd ap 1))) 2) ((slI 2 ap (F_partEnd ap 1) (F_partEnd ap (F_partEnd ap 1))).length / 2 : Nat) ((Int.toNat (F_partEnd ap (F_partEnd ap 1))) - (Int.toNat (F_partEnd ap 1)))) hE329 (y_move rfl) rfl rfl rfl ?_; intro a336 hE337; clear hE329
     refine l_step hE337 rfl (l_call (f := 89) (argv := [.slice (subA apA (Int.toNat (F_partEnd ap 1)) (Int.toNat (F_partEnd ap (F_partEnd ap 1))) 2) ((slI 2 ap (F_partEnd ap 1) (F_partEnd ap (F_partEnd ap 1))).length / 2 : Nat) ((Int.toNat (F_partEnd ap (F_partEnd ap 1))) - (Int.toNat (F_partEnd ap 1))), .bool true]) hE337 (fun _ => cf_negationNormal _ _) rfl rfl (ih (subA apA (Int.toNat (F_partEnd ap 1)) (Int.toNat (F_partEnd ap (F_partEnd ap 1))) 2) ((slI 2 ap (F_partEnd ap 1) (F_partEnd ap (F_partEnd ap 1))).length / 2 : Nat) ((Int.toNat (F_partEnd ap (F_partEnd ap 1))) - (Int.toNat (F_partEnd ap 1))) (slI 2 ap (F_partEnd ap 1) (F_partEnd ap (F_partEnd ap 1))) true w327 (RdS.sub (St.rdR (i := 1) hS330 rfl) (Int.toNat (F_partEnd ap (F_partEnd ap 1))) hv25.1 hv25.2.1 hv25.2.2 hv27.1 hv27.2 hv26 rfl) (Nat.le_trans (slI_le 2 _ _ _) hl) (by first | (with_reducible exact hi1.1) | (with_reducible exact hi1.2.1)) (by omega)) ?_)
     rintro _ w339 ⟨b344, c345, rfl, ho346, he343⟩ a340 hE341; clear hE337
     have hf347 := hpost (slI 2 ap (F_partEnd ap 1) (F_partEnd ap (F_partEnd ap 1))) true (by first | (have h := hrow.2; omega) | exact (Nat.le_trans (slI_le 2 _ _ _) hl)) (by first | (with_reducible exact hrow.1) | first | (with_reducible exact hi1.1) | (with_reducible exact hi1.2.1)) (by first | (have h := hrow.2; omega) | (have h := hi1.2.2; omega))
     have hS342 := St.own hS330 he343 ho346; clear hS330
     refine l_step hE341 rfl (l_call (f := 127) (argv := [.int .i64 3, .slice b332 ((self (slI 2 ap 1 (F_partEnd ap 1)) false).length / 2 : Nat) c333, .slice b344 ((self (slI 2 ap (F_partEnd ap 1) (F_partEnd ap (F_partEnd ap 1))) true).length / 2 : Nat) c345]) hE341 (fun _ => cf_join _ _) rfl rfl (c_join 3 b332 ((self (slI 2 ap 1 (F_partEnd ap 1)) false).length / 2 : Nat) c333 (self (slI 2 ap 1 (F_partEnd ap 1)) false) b344 ((self (slI 2 ap (F_partEnd ap 1) (F_partEnd ap (F_partEnd ap 1))) true).length / 2 : Nat) c345 (self (slI 2 ap (F_partEnd ap 1) (F_partEnd ap (F_partEnd ap 1))) true) w339 (St.rdO (i := 1) hS342 rfl) (St.rdO (i := 0) hS342 rfl) (by omega) (by omega)) ?_)
     rintro _ w349 ⟨b354, c355, rfl, ho356, he353⟩ a350 hE351; clear hE341
     have hf357 := join_len 3 (self (slI 2 ap 1 (F_partEnd ap 1)) false) (self (slI 2 ap (F_partEnd ap 1) (F_partEnd ap (F_partEnd ap 1))) true)
     have hS352 := St.own hS342 he353 ho356; clear hS342
     refine q_step (v := .slice b354 ((F_join 3 (self (slI 2 ap 1 (F_partEnd ap 1)) false) (self (slI 2 ap (F_partEnd ap 1) (F_partEnd ap (F_partEnd ap 1))) true)).length / 2 : Nat) c355) hE351 (y_assign rfl) rfl rfl rfl ?_; intro a358 hE359; clear hE351
     refine c_nil ?_
     have hE360 := hE359.sub (L' := [(4, .slice b354 ((F_join 3 (self (slI 2 ap 1 (F_partEnd ap 1)) false) (self (slI 2 ap (F_partEnd ap 1) (F_partEnd ap (F_partEnd ap 1))) true)).length / 2 : Nat) c355)]) ⟨rfl, trivial⟩; clear hE359
     refine p_tn ?_
     refine wp_ret ?_
     refine p_br ?_
     refine p_tr ?_
     have hF : F_implyNormal self ap positive = F_join 3 (self (slI 2 ap 1 (F_partEnd ap 1)) false) (self (slI 2 ap (F_partEnd ap 1) (F_partEnd ap (F_partEnd ap 1))) true) := by unfold F_implyNormal; rw [ht322, ht295, hb44]; first | done | rfl
     refine c_ret1 hE360 rfl rfl ?_
     exact ⟨b354, c355, (by rw [hF]; first | done | (dsimp only; done) | rfl), (by rw [hF]; (try dsimp only); exact hS352.ok 0 _ rfl), hS352.ext⟩
    ·
     have hE361 := hE321; rw [ht322] at hE361; clear hE321
     refine wp_skip ?_
     refine p_bn ?_
     refine p_tn ?_
     refine c_seq ?_
     refine c_reg ?_
     refine q_step (v := .slice (subA apA (Int.toNat 1) (Int.toNat (F_partEnd ap 1)) 2) ((slI 2 ap 1 (F_partEnd ap 1)).length / 2 : Nat) ((Int.toNat (F_partEnd ap 1)) - (Int.toNat 1))) hE361 (y_move rfl) rfl rfl rfl ?_; intro a362 hE363; clear hE361
     refine l_step hE363 rfl (l_call (f := 89) (argv := [.slice (subA apA (Int.toNat 1) (Int.toNat (F_partEnd ap 1)) 2) ((slI 2 ap 1 (F_partEnd ap 1)).length / 2 : Nat) ((Int.toNat (F_partEnd ap 1)) - (Int.toNat 1)), .bool true]) hE363 (fun _ => cf_negationNormal _ _) rfl rfl (ih (subA apA (Int.toNat 1) (Int.toNat (F_partEnd ap 1)) 2) ((slI 2 ap 1 (F_partEnd ap 1)).length / 2 : Nat) ((Int.toNat (F_partEnd ap 1)) - (Int.toNat 1)) (slI 2 ap 1 (F_partEnd ap 1)) true w20 (RdS.sub (St.rdR (i := 0) hS23 rfl) (Int.toNat (F_partEnd ap 1)) hv13.1 hv13.2.1 hv13.2.2 hv15.1 hv15.2 hv14 rfl) (Nat.le_trans (slI_le 2 _ _ _) hl) (by first | (with_reducible exact hi1.1) | (with_reducible exact hi1.2.1)) (by omega)) ?_)
     rintro _ w365 ⟨b370, c371, rfl, ho372, he369⟩ a366 hE367; clear hE363
     have hf373 := hpost (slI 2 ap 1 (F_partEnd ap 1)) true (by first | (have h := hrow.2; omega) | exact (Nat.le_trans (slI_le 2 _ _ _) hl)) (by first | (with_reducible exact hrow.1) | first | (with_reducible exact hi1.1) | (with_reducible exact hi1.2.1)) (by first | (have h := hrow.2; omega) | (have h := hi1.2.2; omega))
     have hS368 := St.own hS23 he369 ho372; clear hS23
     refine q_step (v := .slice (subA apA (Int.toNat (F_partEnd ap 1)) (Int.toNat (F_partEnd ap (F_partEnd ap 1))) 2) ((slI 2 ap (F_partEnd ap 1) (F_partEnd ap (F_partEnd ap 1))).length / 2 : Nat) ((Int.toNat (F_partEnd ap (F_partEnd ap 1))) - (Int.toNat (F_partEnd ap 1)))) hE367 (y_move rfl) rfl rfl rfl ?_; intro a374 hE375; clear hE367
     refine l_step hE375 rfl (l_call (f := 89) (argv := [.slice (subA apA (Int.toNat (F_partEnd ap 1)) (Int.toNat (F_partEnd ap (F_partEnd ap 1))) 2) ((slI 2 ap (F_partEnd ap 1) (F_partEnd ap (F_partEnd ap 1))).length / 2 : Nat) ((Int.toNat (F_partEnd ap (F_partEnd ap 1))) - (Int.toNat (F_partEnd ap 1))), .bool false]) hE375 (fun _ => cf_negationNormal _ _) rfl rfl (ih (subA apA (Int.toNat (F_partEnd ap 1)) (Int.toNat (F_partEnd ap (F_partEnd ap 1))) 2) ((slI 2 ap (F_partEnd ap 1) (F_partEnd ap (F_partEnd ap 1))).length / 2 : Nat) ((Int.toNat (F_partEnd ap (F_partEnd ap 1))) - (Int.toNat (F_partEnd ap 1))) (slI 2 ap (F_partEnd ap 1) (F_partEnd ap (F_partEnd ap 1))) false w365 (RdS.sub (St.rdR (i := 1) hS368 rfl) (Int.toNat (F_partEnd ap (F_partEnd ap 1))) hv25.1 hv25.2.1 hv25.2.2 hv27.1 hv27.2 hv26 rfl) (Nat.le_trans (slI_le 2 _ _ _) hl) (by first | (with_reducible exact hi1.1) | (with_reducible exact hi1.2.1)) (by omega)) ?_)
     rintro _ w377 ⟨b382, c383, rfl, ho384, he381⟩ a378 hE379; clear hE375
     have hf385 := hpost (slI 2 ap (F_partEnd ap 1) (F_partEnd ap (F_partEnd ap 1))) false (by first | (have h := hrow.2; omega) | exact (Nat.le_trans (slI_le 2 _ _ _) hl)) (by first | (with_reducible exact hrow.1) | first | (with_reducible exact hi1.1) | (with_reducible exact hi1.2.1)) (by first | (have h := hrow.2; omega) | (have h := hi1.2.2; omega))
     have hS380 := St.own hS368 he381 ho384; clear hS368
     refine l_step hE379 rfl (l_call (f := 127) (argv := [.int .i64 2, .slice b370 ((self (slI 2 ap 1 (F_partEnd ap 1)) true).length / 2 : Nat) c371, .slice b382 ((self (slI 2 ap (F_partEnd ap 1) (F_partEnd ap (F_partEnd ap 1))) false).length / 2 : Nat) c383]) hE379 (fun _ => cf_join _ _) rfl rfl (c_join 2 b370 ((self (slI 2 ap 1 (F_partEnd ap 1)) true).length / 2 : Nat) c371 (self (slI 2 ap 1 (F_partEnd ap 1)) true) b382 ((self (slI 2 ap (F_partEnd ap 1) (F_partEnd ap (F_partEnd ap 1))) false).length / 2 : Nat) c383 (self (slI 2 ap (F_partEnd ap 1) (F_partEnd ap (F_partEnd ap 1))) false) w377 (St.rdO (i := 1) hS380 rfl) (St.rdO (i := 0) hS380 rfl) (by omega) (by omega)) ?_)
     rintro _ w387 ⟨b392, c393, rfl, ho394, he391⟩ a388 hE389; clear hE379
     have hf395 := join_len 2 (self (slI 2 ap 1 (F_partEnd ap 1)) true) (self (slI 2 ap (F_partEnd ap 1) (F_partEnd ap (F_partEnd ap 1))) false)
     have hS390 := St.own hS380 he391 ho394; clear hS380
     refine q_step (v := .slice b392 ((F_join 2 (self (slI 2 ap 1 (F_partEnd ap 1)) true) (self (slI 2 ap (F_partEnd ap 1) (F_partEnd ap (F_partEnd ap 1))) false)).length / 2 : Nat) c393) hE389 (y_assign rfl) rfl rfl rfl ?_; intro a396 hE397; clear hE389
     refine c_nil ?_
     have hE398 := hE397.sub (L' := [(4, .slice b392 ((F_join 2 (self (slI 2 ap 1 (F_partEnd ap 1)) true) (self (slI 2 ap (F_partEnd ap 1) (F_partEnd ap (F_partEnd ap 1))) false)).length / 2 : Nat) c393)]) ⟨rfl, trivial⟩; clear hE397
     refine p_tn ?_
     refine wp_ret ?_
     have hF : F_implyNormal self ap positive = F_join 2 (self (slI 2 ap 1 (F_partEnd ap 1)) true) (self (slI 2 ap (F_partEnd ap 1) (F_partEnd ap (F_partEnd ap 1))) false) := by unfold F_implyNormal; rw [ht322, ht295, hb44]; first | done | rfl
     refine c_ret1 hE398 rfl rfl ?_
     exact ⟨b392, c393, (by rw [hF]; first | done | (dsimp only; done) | rfl), (by rw [hF]; (try dsimp only); exact hS390.ok 0 _ rfl), hS390.ext⟩

theorem parts_rows {ap : List Int} (h : IsFm ap) : (F_parts ap).length ≤ 2 ∧ ∀ m : Int, 0 ≤ m → m < ((F_parts ap).length : Int) → IsFm (gL (F_parts ap) m) ∧ (gL (F_parts ap) m).length + 2 ≤ ap.length := by
  by_cases h1 : F_partsOf (gS 2 0 ap 0) = 1
  · have e : F_parts ap = [slI 2 ap 1 (F_partEnd ap 1)] := by unfold F_parts; rw [decide_eq_true h1, cond_true]
    rw [e]
    refine ⟨by simp, fun m h0 hm => ?_⟩
    simp at hm
    obtain rfl : m = 0 := by omega
    show IsFm (slI 2 ap 1 (F_partEnd ap 1)) ∧ (slI 2 ap 1 (F_partEnd ap 1)).length + 2 ≤ ap.length
    have hp : F_l02Parts (gS 2 0 ap 0) = 1 := h1
    have hu := h.un hp
    have e2 : F_partEnd ap 1 = ((ap.length / 2 : Nat) : Int) := by
      rw [partEnd_l]
      obtain ⟨t, ht, rfl⟩ := h
      have hk := t.kind ht
      rw [hp] at hk
      cases t with
      | leaf k v => exact absurd hk (by simp)
      | bin k v a b => exact absurd hk (by simp)
      | un k v a =>
        have hl := (Fm.un k v a).code_half
        have hs : (Fm.un k v a).size = a.size + 1 := rfl
        have pa := a.size_pos
        have e1 : slI 2 (Fm.un k v a).code 1 (1 + a.size) = a.code := by
          have := fm_un (k := k) (v := v) (a := a)
          rw [hl, hs] at this
          rw [show (1 : Int) + (a.size : Int) = ((a.size + 1 : Nat) : Int) by omega]; exact this
        rw [hl, hs]
        refine l02Part_of ?_
        rw [hl, hs, show Int.toNat (((a.size + 1 : Nat) : Int) - 1) + 1 = 1 + a.size by omega, part_code _ (Fm.code_ev _) a 1 1 1 ht.2 (by omega) (by omega) e1.symm (by rw [hl, hs]; omega)]
        rw [show (1 : Int) - 1 = 0 by rfl, part_zero, show (1 : Int) + (a.size : Int) = ((a.size + 1 : Nat) : Int) by omega]
    rw [e2]
    have := h.ev
    have := hu.1.ev
    exact ⟨hu.1, by omega⟩
  · by_cases h2 : F_partsOf (gS 2 0 ap 0) = 2
    · have e : F_parts ap = [slI 2 ap 1 (F_partEnd ap 1), slI 2 ap (F_partEnd ap 1) (F_partEnd ap (F_partEnd ap 1))] := by unfold F_parts; rw [decide_eq_false h1, cond_false, decide_eq_true h2, cond_true]
      have hi := imp_parts h h2
      rw [e]
      refine ⟨by simp, fun m h0 hm => ?_⟩
      simp at hm
      rcases (show m = 0 ∨ m = 1 by omega) with rfl | rfl
      · exact ⟨hi.1, by show (slI 2 ap 1 (F_partEnd ap 1)).length + 2 ≤ _; omega⟩
      · exact ⟨hi.2.1, by show (slI 2 ap (F_partEnd ap 1) (F_partEnd ap (F_partEnd ap 1))).length + 2 ≤ _; omega⟩
    · have e : F_parts ap = [] := by unfold F_parts; rw [decide_eq_false h1, cond_false, decide_eq_false h2, cond_false]
      rw [e]
      exact ⟨by simp, fun m h0 hm => by simp at hm; omega⟩


def F_z_CloneNS (sp : List Int) : List Int :=
  ([]) ++ sp
theorem cf_z_CloneNS (args : Array Value) (w : World) : (callFunc 200 args).run Try.prog w = .ok (.enter 200 args) w := by kernel_rfl
set_option maxRecDepth 100000 in
theorem c_z_CloneNS (spA : Addr) (spN spC : Nat) (sp : List Int) (w : World) (spR : RdS w 2 (some spA) spN spC sp) (hl : sp.length ≤ 1048576) :
    Calls Try.prog 200 #[.slice (some spA) spN spC] w (Ret fun v w' => ∃ b1 : Option Addr, ∃ c1 : Nat, v = .slice b1 ((F_z_CloneNS sp).length / 2 : Nat) c1 ∧ OwnS w' w.heap.size 94 2 b1 ((F_z_CloneNS sp).length / 2 : Nat) c1 (F_z_CloneNS sp) ∧ Ext w w') := by
  obtain rfl : spN = sp.length / 2 := (spR.lenD (by decide)).symm
  have spEv := spR.ev (by decide)
  have spLe := spR.le
  have hS := St.nil w
  have hS1 := St.rd0 hS rfl spR; clear hS
  refine enter (args := [.slice (some spA) ((sp).length / 2 : Nat) spC]) Try.func200 rfl rfl ?_
  rw [Try.ntmps200]; intro a hE
  have hE := hE.sub (L' := [(0, .slice (some spA) ((sp).length / 2 : Nat) spC)]) ⟨rfl, trivial⟩
  refine c_seq ?_
  refine c_reg ?_
  refine q_step (v := .slice none 0 0) hE (y_assign rfl) rfl rfl rfl ?_; intro a2 hE3; clear hE
  refine c_nil ?_
  have hE4 := hE3.sub (L' := [(0, .slice (some spA) ((sp).length / 2 : Nat) spC)]) ⟨rfl, trivial⟩; clear hE3
  refine p_tn ?_
  refine c_seq ?_
  refine c_seq ?_
  refine c_reg ?_
  refine q_step (v := .slice (some spA) ((sp).length / 2 : Nat) spC) hE4 (y_move rfl) rfl rfl rfl ?_; intro a5 hE6; clear hE4
  refine q_step (v := .bool false) hE6 (y_eqnil (e := 94) (by kernel_rfl) rfl rfl) rfl rfl rfl ?_; intro a7 hE8; clear hE6
  refine c_nil ?_
  have hE9 := hE8.sub (L' := [(0, .slice (some spA) ((sp).length / 2 : Nat) spC), (4, .bool false)]) ⟨rfl, rfl, trivial⟩; clear hE8
  refine p_tn ?_
  refine c_false hE9 rfl ?_
  refine wp_skip ?_
  refine p_tn ?_
  refine c_seq ?_
  refine c_reg ?_
  refine l_step hE9 rfl (l_lit (e := 94) (s := 2) (xs := []) (vs := []) hS1 hE9 rfl (fun _ => by kernel_rfl) rfl rfl rfl ?_)
  intro b10 w11 hS14 he15 a12 hE13; clear hS1 hE9
  refine q_step (v := .slice (some spA) ((sp).length / 2 : Nat) spC) hE13 (y_move rfl) rfl rfl rfl ?_; intro a16 hE17; clear hE13
  obtain ⟨_, hi1, hi2, hi3, hi4⟩ := info_parts (show (Try.prog.info? 94).map (fun i => (i.zero, i.size, i.bytes)) = some (some (.agg #[.int .i64 0, .int .i64 0]), 2, 16) by kernel_rfl)
  refine l_step hE17 rfl (l_append (k := 0) (n' := ((([]) ++ sp).length / 2 : Nat)) hS14 hE17 (by kernel_rfl) hi1 hi2 hi3 rfl (by decide) (by rw [hi4]; decide) rfl rfl rfl (St.rdR (i := 1) hS14 rfl) (by first | omega | (simp only [List.length_append, List.length_cons, List.length_nil]; omega)) (by have h1 := (St.rdO (i := 0) hS14 rfl).1; have h2 := (St.rdR (i := 1) hS14 rfl).1; simp only [List.length_append, List.length_nil, List.length_cons] at h1 h2 ⊢; omega) rfl ?_)
  intro b18 c24 w19 hS22 a20 hE21; clear hS14 hE17 hi1 hi2 hi3 hi4
  refine q_step (v := .slice b18 ((([]) ++ sp).length / 2 : Nat) c24) hE21 (y_assign rfl) rfl rfl rfl ?_; intro a25 hE26; clear hE21
  refine c_nil ?_
  have hE27 := hE26.sub (L' := [(2, .slice b18 ((([]) ++ sp).length / 2 : Nat) c24)]) ⟨rfl, trivial⟩; clear hE26
  refine p_tn ?_
  refine wp_ret ?_
  have hF : F_z_CloneNS sp = ([]) ++ sp := by unfold F_z_CloneNS; rfl
  refine c_ret1 hE27 rfl rfl ?_
  exact ⟨b18, c24, (by rw [hF]; first | done | (dsimp only; done) | rfl), (by rw [hF]; (try dsimp only); exact hS22.ok 0 _ rfl), hS22.ext⟩

set_option maxRecDepth 100000 in
theorem c_z_CloneN (spA : Option Addr) (spN spC : Nat) (sp : List Int) (w : World) (spR : RdS w 2 spA spN spC sp) (hl : sp.length ≤ 1048576) :
    Calls Try.prog 200 #[.slice spA spN spC] w (Ret fun v w' => ∃ b1 : Option Addr, ∃ c1 : Nat, v = .slice b1 ((sp).length / 2 : Nat) c1 ∧ OwnS w' w.heap.size 94 2 b1 ((sp).length / 2 : Nat) c1 sp ∧ Ext w w') := by
  cases spA with
  | some p =>
    have := c_z_CloneNS p spN spC sp w spR hl
    simpa only [F_z_CloneNS, List.nil_append] using this
  | none =>
    obtain ⟨rfl, rfl⟩ := spR.2.2.2.1 rfl
    have h0 : sp = [] := by have := spR.1; simpa using this
    subst h0
    refine enter (args := [.slice none 0 0]) Try.func200 rfl rfl ?_
    rw [Try.ntmps200]; intro a hE
    have hE := hE.sub (L' := [(0, .slice none 0 0)]) ⟨rfl, trivial⟩
    refine c_seq ?_
    refine c_reg ?_
    refine q_step (v := .slice none 0 0) hE (y_assign rfl) rfl rfl rfl ?_; intro a1 hE1
    refine c_nil ?_
    refine p_tn ?_
    refine c_seq ?_
    refine c_seq ?_
    refine c_reg ?_
    refine q_step (v := .slice none 0 0) hE1 (y_move rfl) rfl rfl rfl ?_; intro a2 hE2
    refine q_step (v := .bool true) hE2 (y_eqnil0 (e := 94) (by kernel_rfl) rfl rfl) rfl rfl rfl ?_; intro a3 hE3
    refine c_nil ?_
    refine p_tn ?_
    refine c_true hE3 rfl ?_
    refine c_seq ?_
    refine c_reg ?_
    refine q_step (v := .slice none 0 0) hE3 (y_assign rfl) rfl rfl rfl ?_; intro a4 hE4
    refine c_nil ?_
    refine p_tn ?_
    refine wp_ret ?_
    refine p_tr ?_
    refine c_ret1 hE4 rfl rfl ?_
    exact ⟨none, 0, rfl, OwnS.nilS _ _ _ _, Ext.refl w⟩

def F_clone (ap : List Int) : List Int :=
  ap
theorem cf_clone (args : Array Value) (w : World) : (callFunc 151 args).run Try.prog w = .ok (.enter 151 args) w := by kernel_rfl
set_option maxRecDepth 100000 in
theorem c_clone (apA : Option Addr) (apN apC : Nat) (ap : List Int) (w : World) (apR : RdS w 2 apA apN apC ap) (hl : ap.length ≤ 1048576) :
    Calls Try.prog 151 #[.slice apA apN apC] w (Ret fun v w' => ∃ b1 : Option Addr, ∃ c1 : Nat, v = .slice b1 ((F_clone ap).length / 2 : Nat) c1 ∧ OwnS w' w.heap.size 94 2 b1 ((F_clone ap).length / 2 : Nat) c1 (F_clone ap) ∧ Ext w w') := by
  obtain rfl : apN = ap.length / 2 := (apR.lenD (by decide)).symm
  have apEv := apR.ev (by decide)
  have apLe := apR.le
  have hS := St.nil w
  have hS1 := St.rd0 hS rfl apR; clear hS
  refine enter (args := [.slice apA ((ap).length / 2 : Nat) apC]) Try.func151 rfl rfl ?_
  rw [Try.ntmps151]; intro a hE
  have hE := hE.sub (L' := [(0, .slice apA ((ap).length / 2 : Nat) apC)]) ⟨rfl, trivial⟩
  refine c_seq ?_
  refine c_reg ?_
  refine q_step (v := .slice none 0 0) hE (y_assign rfl) rfl rfl rfl ?_; intro a2 hE3; clear hE
  refine c_nil ?_
  have hE4 := hE3.sub (L' := [(0, .slice apA ((ap).length / 2 : Nat) apC)]) ⟨rfl, trivial⟩; clear hE3
  refine p_tn ?_
  refine c_seq ?_
  refine c_reg ?_
  refine q_step (v := .slice apA ((ap).length / 2 : Nat) apC) hE4 (y_move rfl) rfl rfl rfl ?_; intro a5 hE6; clear hE4
  refine l_step hE6 rfl (l_call (f := 200) (argv := [.slice apA ((ap).length / 2 : Nat) apC]) hE6 (fun _ => cf_z_CloneNS _ _) rfl rfl (c_z_CloneN apA ((ap).length / 2 : Nat) apC ap w (St.rdR (i := 0) hS1 rfl) (by omega)) ?_)
  rintro _ w8 ⟨b13, c14, rfl, ho15, he12⟩ a9 hE10; clear hE6
  have hS11 := St.own hS1 he12 ho15; clear hS1
  refine q_step (v := .slice b13 ((ap).length / 2 : Nat) c14) hE10 (y_assign rfl) rfl rfl rfl ?_; intro a16 hE17; clear hE10
  refine c_nil ?_
  have hE18 := hE17.sub (L' := [(2, .slice b13 ((ap).length / 2 : Nat) c14)]) ⟨rfl, trivial⟩; clear hE17
  refine p_tn ?_
  refine wp_ret ?_
  have hF : F_clone ap = ap := by unfold F_clone; rfl
  refine c_ret1 hE18 rfl rfl ?_
  exact ⟨b13, c14, (by rw [hF]; first | done | (dsimp only; done) | rfl), (by rw [hF]; (try dsimp only); exact hS11.ok 0 _ rfl), hS11.ext⟩

end Go.Proofs.Ytkilkfhjfobcdaa
