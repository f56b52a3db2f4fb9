/- GNA: models and contracts, printed by wip/gen/gen.py -/
import Derived.Test.YtkilkfhjfobcdaaGA
import Derived.Test.YtkilkfhjfobcdaaNest
set_option linter.unusedVariables false
set_option linter.unusedSimpArgs false
namespace Go.Proofs.Ytkilkfhjfobcdaa
open Go.RowKit

def F_l_szNodeS (ap : List Int) (left : Int) : Int :=
  bif (decide ((left - (((ap).length / 2 : Nat) : Int)) < 0)) then (-1) else (left - (((ap).length / 2 : Nat) : Int))
theorem cf_l_szNodeS (args : Array Value) (w : World) : (callFunc 20 args).run Try.prog w = .ok (.enter 20 args) w := by kernel_rfl
set_option maxRecDepth 100000 in
theorem c_l_szNodeS (apA : Option Addr) (apN apC : Nat) (ap : List Int) (left : Int) (w : World) (apR : RdS w 2 apA apN apC ap) (hl : left ≤ 1048576) (hl0 : 0 ≤ left) :
    Calls Try.prog 20 #[.slice apA apN apC, .int .i64 left] w (Ret fun v w' => v = .int .i64 (F_l_szNodeS ap left) ∧ w = w') := by
  obtain rfl : apN = ap.length / 2 := (apR.lenD (by decide)).symm
  have apEv := apR.ev (by decide)
  have apLe := apR.le
  have hS := St.nil w
  have hS1 := St.rd0 hS rfl apR; clear hS
  refine enter (args := [.slice apA ((ap).length / 2 : Nat) apC, .int .i64 left]) Try.func20 rfl rfl ?_
  rw [Try.ntmps20]; intro a hE
  have hE := hE.sub (L' := [(0, .slice apA ((ap).length / 2 : Nat) apC), (1, .int .i64 left)]) ⟨rfl, rfl, trivial⟩
  refine c_seq ?_
  refine c_reg ?_
  refine q_step (v := .int .i64 0) hE (y_assign rfl) rfl rfl rfl ?_; intro a2 hE3; clear hE
  refine c_nil ?_
  have hE4 := hE3.sub (L' := [(0, .slice apA ((ap).length / 2 : Nat) apC), (1, .int .i64 left)]) ⟨rfl, rfl, trivial⟩; clear hE3
  refine p_tn ?_
  refine c_seq ?_
  refine c_reg ?_
  refine q_step (v := .int .i64 left) hE4 (y_move rfl) rfl rfl rfl ?_; intro a5 hE6; clear hE4
  refine q_step (v := .slice apA ((ap).length / 2 : Nat) apC) hE6 (y_move rfl) rfl rfl rfl ?_; intro a7 hE8; clear hE6
  refine q_step (v := .int .i64 (((ap).length / 2 : Nat) : Int)) hE8 (y_len (e := 96) (by kernel_rfl) rfl) rfl rfl rfl ?_; intro a9 hE10; clear hE8
  refine q_step (v := .int .i64 (left - (((ap).length / 2 : Nat) : Int))) hE10 (y_sub rfl rfl ⟨(by omega), (by omega)⟩) rfl rfl rfl ?_; intro a11 hE12; clear hE10
  refine q_step (v := .int .i64 (left - (((ap).length / 2 : Nat) : Int))) hE12 (y_assign rfl) rfl rfl rfl ?_; intro a13 hE14; clear hE12
  refine c_nil ?_
  have hE15 := hE14.sub (L' := [(1, .int .i64 (left - (((ap).length / 2 : Nat) : Int)))]) ⟨rfl, trivial⟩; clear hE14
  refine p_tn ?_
  refine c_seq ?_
  refine c_seq ?_
  refine c_reg ?_
  refine q_step (v := .int .i64 (left - (((ap).length / 2 : Nat) : Int))) hE15 (y_move rfl) rfl rfl rfl ?_; intro a16 hE17; clear hE15
  refine q_step (v := .bool (decide ((left - (((ap).length / 2 : Nat) : Int)) < 0))) hE17 (y_lss rfl rfl) rfl rfl rfl ?_; intro a18 hE19; clear hE17
  refine c_nil ?_
  have hE20 := hE19.sub (L' := [(1, .int .i64 (left - (((ap).length / 2 : Nat) : Int))), (10, .bool (decide ((left - (((ap).length / 2 : Nat) : Int)) < 0)))]) ⟨rfl, rfl, trivial⟩; clear hE19
  refine p_tn ?_
  refine c_cond hE20 rfl (fun ht21 => ?_) (fun ht21 => ?_)
  ·
   have hp22 := of_decide_eq_true ht21
   have hE23 := hE20; rw [ht21] at hE23; clear hE20
   refine c_seq ?_
   refine c_reg ?_
   refine q_step (v := .int .i64 (-1)) hE23 (y_assign rfl) rfl rfl rfl ?_; intro a24 hE25; clear hE23
   refine c_nil ?_
   have hE26 := hE25.sub (L' := [(4, .int .i64 (-1))]) ⟨rfl, trivial⟩; clear hE25
   refine p_tn ?_
   refine wp_ret ?_
   refine p_tr ?_
   have hF : F_l_szNodeS ap left = -1 := by unfold F_l_szNodeS; rw [ht21]; first | done | rfl
   refine c_ret1 hE26 rfl rfl ?_
   exact ⟨(by rw [hF]; first | done | (dsimp only; done) | rfl), rfl⟩
  ·
   have hp27 := of_decide_eq_false ht21
   have hE28 := hE20; rw [ht21] at hE28; clear hE20
   refine wp_skip ?_
   refine p_tn ?_
   refine c_seq ?_
   refine c_reg ?_
   refine q_step (v := .int .i64 (left - (((ap).length / 2 : Nat) : Int))) hE28 (y_move rfl) rfl rfl rfl ?_; intro a29 hE30; clear hE28
   refine q_step (v := .int .i64 (left - (((ap).length / 2 : Nat) : Int))) hE30 (y_assign rfl) rfl rfl rfl ?_; intro a31 hE32; clear hE30
   refine c_nil ?_
   have hE33 := hE32.sub (L' := [(4, .int .i64 (left - (((ap).length / 2 : Nat) : Int)))]) ⟨rfl, trivial⟩; clear hE32
   refine p_tn ?_
   refine wp_ret ?_
   have hF : F_l_szNodeS ap left = left - (((ap).length / 2 : Nat) : Int) := by unfold F_l_szNodeS; rw [ht21]; first | done | rfl
   refine c_ret1 hE33 rfl rfl ?_
   exact ⟨(by rw [hF]; first | done | (dsimp only; done) | rfl), rfl⟩

def F_l_toNode (ap0 : Int) (ap1 : Int) : Int × Int :=
  (ap0, ap1)
theorem cf_l_toNode (args : Array Value) (w : World) : (callFunc 73 args).run Try.prog w = .ok (.enter 73 args) w := by kernel_rfl
set_option maxRecDepth 100000 in
theorem c_l_toNode (ap0 : Int) (ap1 : Int) (w : World) :
    Calls Try.prog 73 #[.agg #[.int .i64 ap0, .int .i64 ap1]] w (Ret fun v w' => v = .agg #[.int .i64 ((F_l_toNode ap0 ap1).1), .int .i64 ((F_l_toNode ap0 ap1).2)] ∧ Ext w w') := by
  have hS := St.nil w
  refine enter (args := [.agg #[.int .i64 ap0, .int .i64 ap1]]) Try.func73 rfl rfl ?_
  rw [Try.ntmps73]; intro a hE
  have hE := hE.sub (L' := [(0, .agg #[.int .i64 ap0, .int .i64 ap1])]) ⟨rfl, trivial⟩
  refine c_seq ?_
  refine c_reg ?_
  refine l_step hE rfl (l_box (v := .agg #[.int .i64 ap0, .int .i64 ap1]) (cs := #[.int .i64 ap0, .int .i64 ap1]) hS hE rfl rfl rfl ?_)
  intro b1 w2 hS5 he6 a3 hE4; clear hS hE
  refine l_step hE4 rfl (l_alloc (z := .agg #[.int .i64 0, .int .i64 0]) (cs := #[.int .i64 0, .int .i64 0]) hS5 hE4 (fun _ => by kernel_rfl) rfl rfl ?_)
  intro b7 w8 hS11 he12 a9 hE10; clear hS5 hE4
  refine c_nil ?_
  have hE13 := hE10.sub (L' := [(1, .pointer (some ⟨b1, 0, none⟩)), (2, .pointer (some ⟨b7, 0, none⟩))]) ⟨rfl, rfl, trivial⟩; clear hE10
  refine p_tn ?_
  refine c_seq ?_
  refine c_reg ?_
  refine l_step hE13 rfl (l_alloc (z := .agg #[.int .i64 0, .int .i64 0]) (cs := #[.int .i64 0, .int .i64 0]) hS11 hE13 (fun _ => by kernel_rfl) rfl rfl ?_)
  intro b14 w15 hS18 he19 a16 hE17; clear hS11 hE13
  refine c_nil ?_
  have hE20 := hE17.sub (L' := [(1, .pointer (some ⟨b1, 0, none⟩)), (2, .pointer (some ⟨b7, 0, none⟩)), (3, .pointer (some ⟨b14, 0, none⟩))]) ⟨rfl, rfl, rfl, trivial⟩; clear hE17
  refine p_tn ?_
  refine c_seq ?_
  refine c_reg ?_
  refine q_step (v := .pointer (some ⟨b1, 0, none⟩)) hE20 (y_field rfl (fun _ => by kernel_rfl)) rfl rfl rfl ?_; intro a21 hE22; clear hE20
  refine q_step (v := .int .i64 ap0) hE22 (y_load (fun _ => by kernel_rfl) rfl (St.cell (i := 2) hS18 rfl rfl)) rfl rfl rfl ?_; intro a23 hE24; clear hE22
  refine q_step (v := .pointer (some ⟨b14, 0, none⟩)) hE24 (y_field rfl (fun _ => by kernel_rfl)) rfl rfl rfl ?_; intro a25 hE26; clear hE24
  refine l_step hE26 rfl (l_storeB (k := 0) (cs' := #[.int .i64 ap0, .int .i64 0]) hS18 hE26 (fun _ => by kernel_rfl) rfl rfl rfl rfl rfl rfl rfl ?_)
  intro w28 hS31 a29 hE30; clear hS18 hE26
  refine c_nil ?_
  have hE33 := hE30.sub (L' := [(1, .pointer (some ⟨b1, 0, none⟩)), (2, .pointer (some ⟨b7, 0, none⟩)), (3, .pointer (some ⟨b14, 0, none⟩))]) ⟨rfl, rfl, rfl, trivial⟩; clear hE30
  refine p_tn ?_
  refine c_seq ?_
  refine c_reg ?_
  refine q_step (v := .pointer (some ⟨b1, 1, none⟩)) hE33 (y_field rfl (fun _ => by kernel_rfl)) rfl rfl rfl ?_; intro a34 hE35; clear hE33
  refine q_step (v := .int .i64 ap1) hE35 (y_load (fun _ => by kernel_rfl) rfl (St.cell (i := 2) hS31 rfl rfl)) rfl rfl rfl ?_; intro a36 hE37; clear hE35
  refine q_step (v := .pointer (some ⟨b14, 1, none⟩)) hE37 (y_field rfl (fun _ => by kernel_rfl)) rfl rfl rfl ?_; intro a38 hE39; clear hE37
  refine l_step hE39 rfl (l_storeB (k := 0) (cs' := #[.int .i64 ap0, .int .i64 ap1]) hS31 hE39 (fun _ => by kernel_rfl) rfl rfl rfl rfl rfl rfl rfl ?_)
  intro w41 hS44 a42 hE43; clear hS31 hE39
  refine c_nil ?_
  have hE46 := hE43.sub (L' := [(2, .pointer (some ⟨b7, 0, none⟩)), (3, .pointer (some ⟨b14, 0, none⟩))]) ⟨rfl, rfl, trivial⟩; clear hE43
  refine p_tn ?_
  refine c_seq ?_
  refine c_reg ?_
  refine q_step (v := .agg #[.int .i64 ap0, .int .i64 ap1]) hE46 (y_loadS Try.underlying94 rfl (by kernel_rfl) rfl (St.row (i := 0) hS44 rfl)) rfl rfl rfl ?_; intro a47 hE48; clear hE46
  refine l_step hE48 rfl (l_storeS (k := 1) (cs' := #[.int .i64 ap0, .int .i64 ap1]) hS44 hE48 (by kernel_rfl) rfl rfl (by kernel_rfl) rfl rfl ?_)
  intro w50 hS53 a51 hE52; clear hS44 hE48
  refine c_nil ?_
  have hE55 := hE52.sub (L' := [(2, .pointer (some ⟨b7, 0, none⟩))]) ⟨rfl, trivial⟩; clear hE52
  refine p_tn ?_
  refine wp_ret ?_
  have hF : F_l_toNode ap0 ap1 = (ap0, ap1) := by unfold F_l_toNode; rfl
  refine c_retC hE55 rfl rfl Try.underlying94 rfl (by kernel_rfl) (St.row (i := 1) hS53 rfl _ (Ext.refl _)) ?_
  exact ⟨(by rw [hF]; first | done | (dsimp only; done) | rfl), hS53.ext⟩

theorem d_l_toNode (ap0 ap1 : Int) (w : World) :
    Calls Try.prog 73 #[.agg #[.int .i64 ap0, .int .i64 ap1]] w (Ret fun v w' => v = .agg #[.int .i64 ap0, .int .i64 ap1] ∧ Ext w w') := c_l_toNode ap0 ap1 w
theorem gi_sS {xs : List Int} {s j : Nat} {m y : Int} {k : Nat} (h : m.toNat * s + j < xs.length) : gi (sS s j xs m y) k = if m.toNat * s + j = k then y else gi xs k := by
  unfold sS; exact gi_set h
theorem gS_sS {xs : List Int} {s j : Nat} {m y : Int} (h : m.toNat * s + j < xs.length) : gS s j (sS s j xs m y) m = y := by
  unfold gS; rw [gi_sS h, if_pos rfl]
/-- Lists of pairs are equal if their elements are. -/
theorem ext2 {xs ys : List Int} (hl : xs.length = ys.length) (he : xs.length = xs.length / 2 * 2) (h : ∀ i : Int, 0 ≤ i → i < ((xs.length / 2 : Nat) : Int) → gS 2 0 xs i = gS 2 0 ys i ∧ gS 2 1 xs i = gS 2 1 ys i) : xs = ys := by
  refine ext_gi hl fun k hk => ?_
  obtain ⟨h0, h1⟩ := h ((k / 2 : Nat) : Int) (by omega) (by omega)
  unfold gS at h0 h1
  rw [Int.toNat_natCast] at h0 h1
  rcases Nat.mod_two_eq_zero_or_one k with e | e
  · rw [show k / 2 * 2 + 0 = k by omega] at h0; exact h0
  · rw [show k / 2 * 2 + 1 = k by omega] at h1; exact h1


def F_l_toNodeS_L1b (ap : List Int) (rec : Int → (List Int) → Int × (List Int)) (i4 : Int) (out3 : List Int) : Int × (List Int) :=
  bif (decide (i4 < (((ap).length / 2 : Nat) : Int))) then (rec (i4 + 1) (sS 2 1 (sS 2 0 out3 i4 (gS 2 0 ap i4)) i4 (gS 2 1 ap i4))) else (i4, out3)
def F_l_toNodeS_L1 (ap : List Int) : Nat → Int → (List Int) → Int × (List Int)
  | 0, i4, out3 => (i4, out3)
  | r + 1, i4, out3 => F_l_toNodeS_L1b ap (F_l_toNodeS_L1 ap r) i4 out3
def F_l_toNodeS (ap : List Int) : List Int :=
  (F_l_toNodeS_L1 ap (Int.toNat ((((ap).length / 2 : Nat) : Int) - 0) + 1) 0 (List.replicate (Int.toNat (((ap).length / 2 : Nat) : Int) * 2) 0)).2
theorem cf_l_toNodeS (args : Array Value) (w : World) : (callFunc 22 args).run Try.prog w = .ok (.enter 22 args) w := by kernel_rfl
set_option maxRecDepth 100000 in
theorem c_l_toNodeS (apA : Option Addr) (apN apC : Nat) (ap : List Int) (w : World) (apR : RdS w 2 apA apN apC ap) (hl : ap.length ≤ 2097152) :
    Calls Try.prog 22 #[.slice apA apN apC] w (Ret fun v w' => ∃ b1 : Option Addr, ∃ c1 : Nat, v = .slice b1 ((F_l_toNodeS ap).length / 2 : Nat) c1 ∧ OwnS w' w.heap.size 94 2 b1 ((F_l_toNodeS ap).length / 2 : Nat) c1 (F_l_toNodeS ap) ∧ Ext w w') := by
  obtain rfl : apN = ap.length / 2 := (apR.lenD (by decide)).symm
  have apEv := apR.ev (by decide)
  have apLe := apR.le
  have hS := St.nil w
  have hS1 := St.rd0 hS rfl apR; clear hS
  refine enter (args := [.slice apA ((ap).length / 2 : Nat) apC]) Try.func22 rfl rfl ?_
  rw [Try.ntmps22]; intro a hE
  have hE := hE.sub (L' := [(0, .slice apA ((ap).length / 2 : Nat) apC)]) ⟨rfl, trivial⟩
  refine c_seq ?_
  refine c_reg ?_
  refine q_step (v := .slice none 0 0) hE (y_assign rfl) rfl rfl rfl ?_; intro a2 hE3; clear hE
  refine c_nil ?_
  have hE4 := hE3.sub (L' := [(0, .slice apA ((ap).length / 2 : Nat) apC)]) ⟨rfl, trivial⟩; clear hE3
  refine p_tn ?_
  refine c_seq ?_
  refine c_reg ?_
  refine q_step (v := .slice apA ((ap).length / 2 : Nat) apC) hE4 (y_move rfl) rfl rfl rfl ?_; intro a5 hE6; clear hE4
  refine q_step (v := .int .i64 (((ap).length / 2 : Nat) : Int)) hE6 (y_len (e := 96) (by kernel_rfl) rfl) rfl rfl rfl ?_; intro a7 hE8; clear hE6
  refine l_step hE8 rfl (l_make2 (e := 94) (m := (((ap).length / 2 : Nat) : Int)) (n' := ((List.replicate (Int.toNat (((ap).length / 2 : Nat) : Int) * 2) (0 : Int)).length / 2 : Nat)) hS1 hE8 (by kernel_rfl) (by kernel_rfl) rfl rfl (by omega) (by omega) rfl (by simp) ?_)
  intro b9 w10 hS13 he14 a11 hE12; clear hS1 hE8
  have hv15 : (List.replicate (Int.toNat (((ap).length / 2 : Nat) : Int) * 2) (0 : Int)).length = Int.toNat (((ap).length / 2 : Nat) : Int) * 2 := List.length_replicate
  refine q_step (v := .slice b9 ((List.replicate (Int.toNat (((ap).length / 2 : Nat) : Int) * 2) (0 : Int)).length / 2 : Nat) ((List.replicate (Int.toNat (((ap).length / 2 : Nat) : Int) * 2) (0 : Int)).length / 2 : Nat)) hE12 (y_assign rfl) rfl rfl rfl ?_; intro a16 hE17; clear hE12
  refine c_nil ?_
  have hE18 := hE17.sub (L' := [(0, .slice apA ((ap).length / 2 : Nat) apC), (3, .slice b9 ((List.replicate (Int.toNat (((ap).length / 2 : Nat) : Int) * 2) (0 : Int)).length / 2 : Nat) ((List.replicate (Int.toNat (((ap).length / 2 : Nat) : Int) * 2) (0 : Int)).length / 2 : Nat))]) ⟨rfl, rfl, trivial⟩; clear hE17
  refine p_tn ?_
  refine c_seq ?_
  refine c_seq ?_
  refine c_reg ?_
  refine q_step (v := .int .i64 0) hE18 (y_assign rfl) rfl rfl rfl ?_; intro a19 hE20; clear hE18
  refine c_nil ?_
  have hE21 := hE20.sub (L' := [(0, .slice apA ((ap).length / 2 : Nat) apC), (3, .slice b9 ((List.replicate (Int.toNat (((ap).length / 2 : Nat) : Int) * 2) (0 : Int)).length / 2 : Nat) ((List.replicate (Int.toNat (((ap).length / 2 : Nat) : Int) * 2) (0 : Int)).length / 2 : Nat)), (4, .int .i64 0)]) ⟨rfl, rfl, rfl, trivial⟩; clear hE20
  refine p_tn ?_
  refine c_cut1 (fun a' w' => (0 ≤ ((F_l_toNodeS_L1 ap (Int.toNat ((((ap).length / 2 : Nat) : Int) - 0) + 1) 0 (List.replicate (Int.toNat (((ap).length / 2 : Nat) : Int) * 2) 0)).1)) ∧ (((F_l_toNodeS_L1 ap (Int.toNat ((((ap).length / 2 : Nat) : Int) - 0) + 1) 0 (List.replicate (Int.toNat (((ap).length / 2 : Nat) : Int) * 2) 0)).2).length = ap.length) ∧ (((F_l_toNodeS_L1 ap (Int.toNat ((((ap).length / 2 : Nat) : Int) - 0) + 1) 0 (List.replicate (Int.toNat (((ap).length / 2 : Nat) : Int) * 2) 0)).1) ≤ (((ap).length / 2 : Nat) : Int)) ∧ E a' 23 [(0, .slice apA ((ap).length / 2 : Nat) apC), (3, .slice b9 ((List.replicate (Int.toNat (((ap).length / 2 : Nat) : Int) * 2) (0 : Int)).length / 2 : Nat) ((List.replicate (Int.toNat (((ap).length / 2 : Nat) : Int) * 2) (0 : Int)).length / 2 : Nat)), (4, .int .i64 ((F_l_toNodeS_L1 ap (Int.toNat ((((ap).length / 2 : Nat) : Int) - 0) + 1) 0 (List.replicate (Int.toNat (((ap).length / 2 : Nat) : Int) * 2) 0)).1))] ∧ St w w' [.own 94 2 b9 ((List.replicate (Int.toNat (((ap).length / 2 : Nat) : Int) * 2) (0 : Int)).length / 2 : Nat) ((List.replicate (Int.toNat (((ap).length / 2 : Nat) : Int) * 2) (0 : Int)).length / 2 : Nat) ((F_l_toNodeS_L1 ap (Int.toNat ((((ap).length / 2 : Nat) : Int) - 0) + 1) 0 (List.replicate (Int.toNat (((ap).length / 2 : Nat) : Int) * 2) 0)).2), .rd 2 apA ((ap).length / 2 : Nat) apC ap]) ?_ ?_
  ·
   refine wp_block ?_
   refine c_loop (fun r a' w' => ∃ i4 : Int, ∃ out3 : List Int, F_l_toNodeS_L1 ap r i4 out3 = F_l_toNodeS_L1 ap (Int.toNat ((((ap).length / 2 : Nat) : Int) - 0) + 1) 0 (List.replicate (Int.toNat (((ap).length / 2 : Nat) : Int) * 2) 0) ∧ Int.toNat ((((ap).length / 2 : Nat) : Int) - i4) < r ∧ (0 ≤ i4) ∧ (out3.length = ap.length) ∧ (i4 ≤ (((ap).length / 2 : Nat) : Int)) ∧ E a' 23 [(0, .slice apA ((ap).length / 2 : Nat) apC), (3, .slice b9 ((List.replicate (Int.toNat (((ap).length / 2 : Nat) : Int) * 2) (0 : Int)).length / 2 : Nat) ((List.replicate (Int.toNat (((ap).length / 2 : Nat) : Int) * 2) (0 : Int)).length / 2 : Nat)), (4, .int .i64 i4)] ∧ St w w' [.own 94 2 b9 ((List.replicate (Int.toNat (((ap).length / 2 : Nat) : Int) * 2) (0 : Int)).length / 2 : Nat) ((List.replicate (Int.toNat (((ap).length / 2 : Nat) : Int) * 2) (0 : Int)).length / 2 : Nat) out3, .rd 2 apA ((ap).length / 2 : Nat) apC ap]) (r := (Int.toNat ((((ap).length / 2 : Nat) : Int) - 0) + 1)) ?_ ?_
   · exact ⟨0, List.replicate (Int.toNat (((ap).length / 2 : Nat) : Int) * 2) 0, rfl, Nat.lt_succ_self _, (by first | omega | (simp only [sS_len, sL_len]; omega) | (simp only [List.length_replicate, sI_len]; omega) | (simp only [List.length_append, List.length_cons, List.length_nil, sI_len, cond_true, cond_false]; omega) | (simp only [List.length_append, List.length_cons, List.length_nil, sI_len, cond_eq_ite, apply_ite List.length]; split <;> simp only [List.length_append, List.length_cons, List.length_nil, sI_len] <;> omega) | grind), (by first | omega | (simp only [sS_len, sL_len]; omega) | (simp only [List.length_replicate, sI_len]; omega) | (simp only [List.length_append, List.length_cons, List.length_nil, sI_len, cond_true, cond_false]; omega) | (simp only [List.length_append, List.length_cons, List.length_nil, sI_len, cond_eq_ite, apply_ite List.length]; split <;> simp only [List.length_append, List.length_cons, List.length_nil, sI_len] <;> omega) | grind), (by first | omega | (simp only [sS_len, sL_len]; omega) | (simp only [List.length_replicate, sI_len]; omega) | (simp only [List.length_append, List.length_cons, List.length_nil, sI_len, cond_true, cond_false]; omega) | (simp only [List.length_append, List.length_cons, List.length_nil, sI_len, cond_eq_ite, apply_ite List.length]; split <;> simp only [List.length_append, List.length_cons, List.length_nil, sI_len] <;> omega) | grind), (hE21.sub (L' := [(0, .slice apA ((ap).length / 2 : Nat) apC), (3, .slice b9 ((List.replicate (Int.toNat (((ap).length / 2 : Nat) : Int) * 2) (0 : Int)).length / 2 : Nat) ((List.replicate (Int.toNat (((ap).length / 2 : Nat) : Int) * 2) (0 : Int)).length / 2 : Nat)), (4, .int .i64 0)]) ⟨rfl, rfl, rfl, trivial⟩), (St.pick (Γ' := [.own 94 2 b9 ((List.replicate (Int.toNat (((ap).length / 2 : Nat) : Int) * 2) (0 : Int)).length / 2 : Nat) ((List.replicate (Int.toNat (((ap).length / 2 : Nat) : Int) * 2) (0 : Int)).length / 2 : Nat) (List.replicate (Int.toNat (((ap).length / 2 : Nat) : Int) * 2) 0), .rd 2 apA ((ap).length / 2 : Nat) apC ap]) hS13 [0, 1] (by decide) rfl)⟩
   ·
    clear hE21 hS13
    rintro r32 a23 w24 ⟨i4, out3, hT27, hr28, hi29, hi30, hi31, hE25, hS26⟩
    obtain ⟨r32, rfl⟩ : ∃ r', r32 = r' + 1 := ⟨r32 - 1, by omega⟩
    refine c_seq ?_
    refine c_seq ?_
    refine c_reg ?_
    refine q_step (v := .int .i64 i4) hE25 (y_move rfl) rfl rfl rfl ?_; intro a33 hE34; clear hE25
    refine q_step (v := .slice apA ((ap).length / 2 : Nat) apC) hE34 (y_move rfl) rfl rfl rfl ?_; intro a35 hE36; clear hE34
    refine q_step (v := .int .i64 (((ap).length / 2 : Nat) : Int)) hE36 (y_len (e := 96) (by kernel_rfl) rfl) rfl rfl rfl ?_; intro a37 hE38; clear hE36
    refine q_step (v := .bool (decide (i4 < (((ap).length / 2 : Nat) : Int)))) hE38 (y_lss rfl rfl) rfl rfl rfl ?_; intro a39 hE40; clear hE38
    refine c_nil ?_
    have hE41 := hE40.sub (L' := [(0, .slice apA ((ap).length / 2 : Nat) apC), (3, .slice b9 ((List.replicate (Int.toNat (((ap).length / 2 : Nat) : Int) * 2) (0 : Int)).length / 2 : Nat) ((List.replicate (Int.toNat (((ap).length / 2 : Nat) : Int) * 2) (0 : Int)).length / 2 : Nat)), (4, .int .i64 i4), (11, .bool (decide (i4 < (((ap).length / 2 : Nat) : Int))))]) ⟨rfl, rfl, rfl, rfl, trivial⟩; clear hE40
    refine p_tn ?_
    refine c_cond hE41 rfl (fun ht42 => ?_) (fun ht42 => ?_)
    ·
     have hp43 := of_decide_eq_true ht42
     have hE44 := hE41; rw [ht42] at hE44; clear hE41
     refine wp_skip ?_
     refine p_tn ?_
     refine c_seq ?_
     refine wp_block ?_
     refine c_reg ?_
     refine q_step (v := .slice b9 ((List.replicate (Int.toNat (((ap).length / 2 : Nat) : Int) * 2) (0 : Int)).length / 2 : Nat) ((List.replicate (Int.toNat (((ap).length / 2 : Nat) : Int) * 2) (0 : Int)).length / 2 : Nat)) hE44 (y_move rfl) rfl rfl rfl ?_; intro a45 hE46; clear hE44
     refine q_step (v := .int .i64 i4) hE46 (y_move rfl) rfl rfl rfl ?_; intro a47 hE48; clear hE46
     refine q_step (v := .slice apA ((ap).length / 2 : Nat) apC) hE48 (y_move rfl) rfl rfl rfl ?_; intro a49 hE50; clear hE48
     refine q_step (v := .int .i64 i4) hE50 (y_move rfl) rfl rfl rfl ?_; intro a51 hE52; clear hE50
     refine q_step (v := .pointer (some (adr apA (Int.toNat i4 * 2)))) hE52 (y_idx (by kernel_rfl) (fun _ => by kernel_rfl) rfl rfl (RdS.isS (m := i4) (St.rdR (i := 1) hS26 rfl) (by omega) (by omega)) (by omega) (by omega) rfl) rfl rfl rfl ?_; intro a53 hE54; clear hE52
     refine q_step (v := .agg #[.int .i64 (gS 2 0 ap i4), .int .i64 (gS 2 1 ap i4)]) hE54 (y_loadE Try.underlying96 rfl (by kernel_rfl) rfl (RdS.rng2 (St.rdR (i := 1) hS26 rfl) (by omega) (by omega))) rfl rfl rfl ?_; intro a55 hE56; clear hE54
     refine l_step hE56 rfl (l_call (f := 73) (argv := [.agg #[.int .i64 (gS 2 0 ap i4), .int .i64 (gS 2 1 ap i4)]]) hE56 (fun _ => cf_l_toNode _ _) rfl rfl (d_l_toNode (gS 2 0 ap i4) (gS 2 1 ap i4) w24) ?_)
     rintro _ w58 ⟨rfl, he62⟩ a59 hE60; clear hE56
     have hS61 := St.go hS26 he62; clear hS26
     refine q_step (v := .pointer (some (adr b9 (Int.toNat i4 * 2)))) hE60 (y_idx (by kernel_rfl) (fun _ => by kernel_rfl) rfl rfl (RdS.isS (m := i4) (St.rdO (i := 0) hS61 rfl) (by omega) (by omega)) (by omega) (by omega) rfl) rfl rfl rfl ?_; intro a63 hE64; clear hE60
     refine l_step hE64 rfl (l_storeE2 (k := 0) hS61 hE64 (fun _ => by kernel_rfl) rfl rfl rfl (by omega) (by omega) ?_)
     intro w66 hS69 a67 hE68; clear hS61 hE64
     refine c_nil ?_
     have hE71 := hE68.sub (L' := [(0, .slice apA ((ap).length / 2 : Nat) apC), (3, .slice b9 ((List.replicate (Int.toNat (((ap).length / 2 : Nat) : Int) * 2) (0 : Int)).length / 2 : Nat) ((List.replicate (Int.toNat (((ap).length / 2 : Nat) : Int) * 2) (0 : Int)).length / 2 : Nat)), (4, .int .i64 i4)]) ⟨rfl, rfl, rfl, trivial⟩; clear hE68
     refine p_bn ?_
     refine p_tn ?_
     refine c_reg ?_
     refine q_step (v := .int .i64 i4) hE71 (y_move rfl) rfl rfl rfl ?_; intro a72 hE73; clear hE71
     refine q_step (v := .int .i64 (i4 + 1)) hE73 (y_add rfl rfl ⟨(by omega), (by omega)⟩) rfl rfl rfl ?_; intro a74 hE75; clear hE73
     refine q_step (v := .int .i64 (i4 + 1)) hE75 (y_assign rfl) rfl rfl rfl ?_; intro a76 hE77; clear hE75
     refine c_nil ?_
     have hE78 := hE77.sub (L' := [(0, .slice apA ((ap).length / 2 : Nat) apC), (3, .slice b9 ((List.replicate (Int.toNat (((ap).length / 2 : Nat) : Int) * 2) (0 : Int)).length / 2 : Nat) ((List.replicate (Int.toNat (((ap).length / 2 : Nat) : Int) * 2) (0 : Int)).length / 2 : Nat)), (4, .int .i64 (i4 + 1))]) ⟨rfl, rfl, rfl, trivial⟩; clear hE77
     refine p_tn ⟨r32, Nat.lt_succ_self _, i4 + 1, sS 2 1 (sS 2 0 out3 i4 (gS 2 0 ap i4)) i4 (gS 2 1 ap i4), (hT27.symm.trans (show F_l_toNodeS_L1b ap (F_l_toNodeS_L1 ap r32) i4 out3 = F_l_toNodeS_L1 ap r32 (i4 + 1) (sS 2 1 (sS 2 0 out3 i4 (gS 2 0 ap i4)) i4 (gS 2 1 ap i4)) by unfold F_l_toNodeS_L1b; rw [ht42]; first | done | rfl)).symm, (by omega), (by first | omega | (simp only [sS_len, sL_len]; omega) | (simp only [List.length_replicate, sI_len]; omega) | (simp only [List.length_append, List.length_cons, List.length_nil, sI_len, cond_true, cond_false]; omega) | (simp only [List.length_append, List.length_cons, List.length_nil, sI_len, cond_eq_ite, apply_ite List.length]; split <;> simp only [List.length_append, List.length_cons, List.length_nil, sI_len] <;> omega) | grind), (by first | omega | (simp only [sS_len, sL_len]; omega) | (simp only [List.length_replicate, sI_len]; omega) | (simp only [List.length_append, List.length_cons, List.length_nil, sI_len, cond_true, cond_false]; omega) | (simp only [List.length_append, List.length_cons, List.length_nil, sI_len, cond_eq_ite, apply_ite List.length]; split <;> simp only [List.length_append, List.length_cons, List.length_nil, sI_len] <;> omega) | grind), (by first | omega | (simp only [sS_len, sL_len]; omega) | (simp only [List.length_replicate, sI_len]; omega) | (simp only [List.length_append, List.length_cons, List.length_nil, sI_len, cond_true, cond_false]; omega) | (simp only [List.length_append, List.length_cons, List.length_nil, sI_len, cond_eq_ite, apply_ite List.length]; split <;> simp only [List.length_append, List.length_cons, List.length_nil, sI_len] <;> omega) | grind), (hE78.sub (L' := [(0, .slice apA ((ap).length / 2 : Nat) apC), (3, .slice b9 ((List.replicate (Int.toNat (((ap).length / 2 : Nat) : Int) * 2) (0 : Int)).length / 2 : Nat) ((List.replicate (Int.toNat (((ap).length / 2 : Nat) : Int) * 2) (0 : Int)).length / 2 : Nat)), (4, .int .i64 (i4 + 1))]) ⟨rfl, rfl, rfl, trivial⟩), (St.pick (Γ' := [.own 94 2 b9 ((List.replicate (Int.toNat (((ap).length / 2 : Nat) : Int) * 2) (0 : Int)).length / 2 : Nat) ((List.replicate (Int.toNat (((ap).length / 2 : Nat) : Int) * 2) (0 : Int)).length / 2 : Nat) (sS 2 1 (sS 2 0 out3 i4 (gS 2 0 ap i4)) i4 (gS 2 1 ap i4)), .rd 2 apA ((ap).length / 2 : Nat) apC ap]) hS69 [0, 1] (by decide) rfl)⟩
    ·
     have hp79 := of_decide_eq_false ht42
     have hE80 := hE41; rw [ht42] at hE80; clear hE41
     refine wp_exit ?_
     refine p_te ?_
     have hX81 : F_l_toNodeS_L1 ap (Int.toNat ((((ap).length / 2 : Nat) : Int) - 0) + 1) 0 (List.replicate (Int.toNat (((ap).length / 2 : Nat) : Int) * 2) 0) = (i4, out3) := hT27.symm.trans (show F_l_toNodeS_L1b ap (F_l_toNodeS_L1 ap r32) i4 out3 = (i4, out3) by unfold F_l_toNodeS_L1b; rw [ht42]; first | done | rfl)
     refine p_te (p_be (p_tn ?_))
     exact ⟨(by rw [hX81]; exact (show 0 ≤ i4 from (by first | omega | (simp only [sS_len, sL_len]; omega) | (simp only [List.length_replicate, sI_len]; omega) | (simp only [List.length_append, List.length_cons, List.length_nil, sI_len, cond_true, cond_false]; omega) | (simp only [List.length_append, List.length_cons, List.length_nil, sI_len, cond_eq_ite, apply_ite List.length]; split <;> simp only [List.length_append, List.length_cons, List.length_nil, sI_len] <;> omega) | grind))), (by rw [hX81]; exact (show out3.length = ap.length from (by first | omega | (simp only [sS_len, sL_len]; omega) | (simp only [List.length_replicate, sI_len]; omega) | (simp only [List.length_append, List.length_cons, List.length_nil, sI_len, cond_true, cond_false]; omega) | (simp only [List.length_append, List.length_cons, List.length_nil, sI_len, cond_eq_ite, apply_ite List.length]; split <;> simp only [List.length_append, List.length_cons, List.length_nil, sI_len] <;> omega) | grind))), (by rw [hX81]; exact (show i4 ≤ (((ap).length / 2 : Nat) : Int) from (by first | omega | (simp only [sS_len, sL_len]; omega) | (simp only [List.length_replicate, sI_len]; omega) | (simp only [List.length_append, List.length_cons, List.length_nil, sI_len, cond_true, cond_false]; omega) | (simp only [List.length_append, List.length_cons, List.length_nil, sI_len, cond_eq_ite, apply_ite List.length]; split <;> simp only [List.length_append, List.length_cons, List.length_nil, sI_len] <;> omega) | grind))), (by rw [hX81]; exact (hE80.sub (L' := [(0, .slice apA ((ap).length / 2 : Nat) apC), (3, .slice b9 ((List.replicate (Int.toNat (((ap).length / 2 : Nat) : Int) * 2) (0 : Int)).length / 2 : Nat) ((List.replicate (Int.toNat (((ap).length / 2 : Nat) : Int) * 2) (0 : Int)).length / 2 : Nat)), (4, .int .i64 i4)]) ⟨rfl, rfl, rfl, trivial⟩)), (by rw [hX81]; exact (St.pick (Γ' := [.own 94 2 b9 ((List.replicate (Int.toNat (((ap).length / 2 : Nat) : Int) * 2) (0 : Int)).length / 2 : Nat) ((List.replicate (Int.toNat (((ap).length / 2 : Nat) : Int) * 2) (0 : Int)).length / 2 : Nat) out3, .rd 2 apA ((ap).length / 2 : Nat) apC ap]) hS26 [0, 1] (by decide) rfl))⟩
  ·
   rintro a82 w83 ⟨hi87, hi88, hi89, hE84, hS85⟩; clear hE21 hS13
   refine p_tn ?_
   refine c_seq ?_
   refine c_reg ?_
   refine q_step (v := .slice b9 ((List.replicate (Int.toNat (((ap).length / 2 : Nat) : Int) * 2) (0 : Int)).length / 2 : Nat) ((List.replicate (Int.toNat (((ap).length / 2 : Nat) : Int) * 2) (0 : Int)).length / 2 : Nat)) hE84 (y_move rfl) rfl rfl rfl ?_; intro a90 hE91; clear hE84
   refine q_step (v := .slice b9 ((List.replicate (Int.toNat (((ap).length / 2 : Nat) : Int) * 2) (0 : Int)).length / 2 : Nat) ((List.replicate (Int.toNat (((ap).length / 2 : Nat) : Int) * 2) (0 : Int)).length / 2 : Nat)) hE91 (y_assign rfl) rfl rfl rfl ?_; intro a92 hE93; clear hE91
   refine c_nil ?_
   have hE94 := hE93.sub (L' := [(2, .slice b9 ((List.replicate (Int.toNat (((ap).length / 2 : Nat) : Int) * 2) (0 : Int)).length / 2 : Nat) ((List.replicate (Int.toNat (((ap).length / 2 : Nat) : Int) * 2) (0 : Int)).length / 2 : Nat))]) ⟨rfl, trivial⟩; clear hE93
   refine p_tn ?_
   refine wp_ret ?_
   have hF : F_l_toNodeS ap = (F_l_toNodeS_L1 ap (Int.toNat ((((ap).length / 2 : Nat) : Int) - 0) + 1) 0 (List.replicate (Int.toNat (((ap).length / 2 : Nat) : Int) * 2) 0)).2 := by unfold F_l_toNodeS; rfl
   refine c_ret1 hE94 rfl rfl ?_
   exact ⟨b9, ((List.replicate (Int.toNat (((ap).length / 2 : Nat) : Int) * 2) (0 : Int)).length / 2 : Nat), (by rw [hF]; first | rfl | (rw [((St.rdO (i := 0) hS85 rfl).lenD (by decide))])), (by rw [hF, ((St.rdO (i := 0) hS85 rfl).lenD (by decide))]; (try dsimp only); exact hS85.ok 0 _ rfl), hS85.ext⟩

theorem toNodeS_key (ap : List Int) (he : ap.length = ap.length / 2 * 2) : ∀ (k : Nat) (i : Int) (xs : List Int), 0 ≤ i → ((ap.length / 2 : Nat) : Int) - i = k → xs.length = ap.length → (∀ j : Nat, (j : Int) < 2 * i → gi xs j = gi ap j) → (F_l_toNodeS_L1 ap (k + 1) i xs).2 = ap := by
  intro k
  induction k with
  | zero =>
    intro i xs h0 hk hl hp
    show (F_l_toNodeS_L1b ap _ i xs).2 = ap
    unfold F_l_toNodeS_L1b
    rw [decide_eq_false (by omega)]
    show xs = ap
    exact ext_gi hl fun j hj => hp j (by omega)
  | succ k ih =>
    intro i xs h0 hk hl hp
    show (F_l_toNodeS_L1b ap _ i xs).2 = ap
    unfold F_l_toNodeS_L1b
    rw [decide_eq_true (by omega)]
    refine ih (i + 1) (sS 2 1 (sS 2 0 xs i (gS 2 0 ap i)) i (gS 2 1 ap i)) (by omega) (by omega) (by rw [sS_len, sS_len]; exact hl) fun j hj => ?_
    rw [gi_sS (by rw [sS_len]; omega), gi_sS (by omega)]
    by_cases e : i.toNat * 2 + 1 = j
    · rw [if_pos e]; unfold gS; rw [e]
    · rw [if_neg e]
      by_cases e' : i.toNat * 2 + 0 = j
      · rw [if_pos e']; unfold gS; rw [e']
      · rw [if_neg e']; exact hp j (by omega)
theorem toNodeS_eq (ap : List Int) (he : ap.length = ap.length / 2 * 2) : F_l_toNodeS ap = ap := by
  unfold F_l_toNodeS
  have e : Int.toNat (((ap.length / 2 : Nat) : Int) - 0) = ap.length / 2 := by omega
  rw [e]
  exact toNodeS_key ap he (ap.length / 2) 0 _ (by omega) (by omega) (by rw [List.length_replicate, Int.toNat_natCast]; omega) fun j hj => by omega
theorem d_l_toNodeS (apA : Option Addr) (apN apC : Nat) (ap : List Int) (w : World) (apR : RdS w 2 apA apN apC ap) (hl : ap.length ≤ 2097152) :
    Calls Try.prog 22 #[.slice apA apN apC] w (Ret fun v w' => ∃ b1 : Option Addr, ∃ c1 : Nat, v = .slice b1 ((ap).length / 2 : Nat) c1 ∧ OwnS w' w.heap.size 94 2 b1 ((ap).length / 2 : Nat) c1 ap ∧ Ext w w') := by
  have := c_l_toNodeS apA apN apC ap w apR hl
  rwa [toNodeS_eq ap (apR.ev (by decide))] at this


def F_l_eqNode (ap0 : Int) (ap1 : Int) (bp0 : Int) (bp1 : Int) : Bool :=
  bif (!decide (ap0 = bp0)) then false else (bif (!decide (ap1 = bp1)) then false else true)
theorem cf_l_eqNode (args : Array Value) (w : World) : (callFunc 78 args).run Try.prog w = .ok (.enter 78 args) w := by kernel_rfl
set_option maxRecDepth 100000 in
theorem c_l_eqNode (ap0 : Int) (ap1 : Int) (bp0 : Int) (bp1 : Int) (w : World) :
    Calls Try.prog 78 #[.agg #[.int .i64 ap0, .int .i64 ap1], .agg #[.int .i64 bp0, .int .i64 bp1]] w (Ret fun v w' => v = .bool (F_l_eqNode ap0 ap1 bp0 bp1) ∧ Ext w w') := by
  have hS := St.nil w
  refine enter (args := [.agg #[.int .i64 ap0, .int .i64 ap1], .agg #[.int .i64 bp0, .int .i64 bp1]]) Try.func78 rfl rfl ?_
  rw [Try.ntmps78]; intro a hE
  have hE := hE.sub (L' := [(0, .agg #[.int .i64 ap0, .int .i64 ap1]), (1, .agg #[.int .i64 bp0, .int .i64 bp1])]) ⟨rfl, rfl, trivial⟩
  refine c_seq ?_
  refine c_reg ?_
  refine l_step hE rfl (l_box (v := .agg #[.int .i64 ap0, .int .i64 ap1]) (cs := #[.int .i64 ap0, .int .i64 ap1]) hS hE rfl rfl rfl ?_)
  intro b1 w2 hS5 he6 a3 hE4; clear hS hE
  refine l_step hE4 rfl (l_box (v := .agg #[.int .i64 bp0, .int .i64 bp1]) (cs := #[.int .i64 bp0, .int .i64 bp1]) hS5 hE4 rfl rfl rfl ?_)
  intro b7 w8 hS11 he12 a9 hE10; clear hS5 hE4
  refine q_step (v := .bool false) hE10 (y_assign rfl) rfl rfl rfl ?_; intro a13 hE14; clear hE10
  refine c_nil ?_
  have hE15 := hE14.sub (L' := [(2, .pointer (some ⟨b1, 0, none⟩)), (3, .pointer (some ⟨b7, 0, none⟩))]) ⟨rfl, rfl, trivial⟩; clear hE14
  refine p_tn ?_
  refine c_seq ?_
  refine c_seq ?_
  refine c_reg ?_
  refine q_step (v := .pointer (some ⟨b1, 0, none⟩)) hE15 (y_field rfl (fun _ => by kernel_rfl)) rfl rfl rfl ?_; intro a16 hE17; clear hE15
  refine q_step (v := .int .i64 ap0) hE17 (y_load (fun _ => by kernel_rfl) rfl (St.cell (i := 1) hS11 rfl rfl)) rfl rfl rfl ?_; intro a18 hE19; clear hE17
  refine q_step (v := .pointer (some ⟨b7, 0, none⟩)) hE19 (y_field rfl (fun _ => by kernel_rfl)) rfl rfl rfl ?_; intro a20 hE21; clear hE19
  refine q_step (v := .int .i64 bp0) hE21 (y_load (fun _ => by kernel_rfl) rfl (St.cell (i := 0) hS11 rfl rfl)) rfl rfl rfl ?_; intro a22 hE23; clear hE21
  refine q_step (v := .bool (!decide (ap0 = bp0))) hE23 (y_neq rfl rfl) rfl rfl rfl ?_; intro a24 hE25; clear hE23
  refine c_nil ?_
  have hE26 := hE25.sub (L' := [(2, .pointer (some ⟨b1, 0, none⟩)), (3, .pointer (some ⟨b7, 0, none⟩)), (9, .bool (!decide (ap0 = bp0)))]) ⟨rfl, rfl, rfl, trivial⟩; clear hE25
  refine p_tn ?_
  refine c_cond hE26 rfl (fun ht27 => ?_) (fun ht27 => ?_)
  ·
   have ht28 := bn_t ht27
   have hp29 := of_decide_eq_false ht28
   have hE30 := hE26; rw [ht27] at hE30; clear hE26
   refine c_seq ?_
   refine c_reg ?_
   refine q_step (v := .bool false) hE30 (y_assign rfl) rfl rfl rfl ?_; intro a31 hE32; clear hE30
   refine c_nil ?_
   have hE33 := hE32.sub (L' := [(4, .bool false)]) ⟨rfl, trivial⟩; clear hE32
   refine p_tn ?_
   refine wp_ret ?_
   refine p_tr ?_
   have hF : F_l_eqNode ap0 ap1 bp0 bp1 = false := by unfold F_l_eqNode; rw [ht27]; first | done | rfl
   refine c_ret1 hE33 rfl rfl ?_
   exact ⟨(by rw [hF]; first | done | (dsimp only; done) | rfl), hS11.ext⟩
  ·
   have ht34 := bn_f ht27
   have hp35 := of_decide_eq_true ht34
   have hE36 := hE26; rw [ht27] at hE36; clear hE26
   refine wp_skip ?_
   refine p_tn ?_
   refine c_seq ?_
   refine c_seq ?_
   refine c_reg ?_
   refine q_step (v := .pointer (some ⟨b1, 1, none⟩)) hE36 (y_field rfl (fun _ => by kernel_rfl)) rfl rfl rfl ?_; intro a37 hE38; clear hE36
   refine q_step (v := .int .i64 ap1) hE38 (y_load (fun _ => by kernel_rfl) rfl (St.cell (i := 1) hS11 rfl rfl)) rfl rfl rfl ?_; intro a39 hE40; clear hE38
   refine q_step (v := .pointer (some ⟨b7, 1, none⟩)) hE40 (y_field rfl (fun _ => by kernel_rfl)) rfl rfl rfl ?_; intro a41 hE42; clear hE40
   refine q_step (v := .int .i64 bp1) hE42 (y_load (fun _ => by kernel_rfl) rfl (St.cell (i := 0) hS11 rfl rfl)) rfl rfl rfl ?_; intro a43 hE44; clear hE42
   refine q_step (v := .bool (!decide (ap1 = bp1))) hE44 (y_neq rfl rfl) rfl rfl rfl ?_; intro a45 hE46; clear hE44
   refine c_nil ?_
   have hE47 := hE46.sub (L' := [(14, .bool (!decide (ap1 = bp1)))]) ⟨rfl, trivial⟩; clear hE46
   refine p_tn ?_
   refine c_cond hE47 rfl (fun ht48 => ?_) (fun ht48 => ?_)
   ·
    have ht49 := bn_t ht48
    have hp50 := of_decide_eq_false ht49
    have hE51 := hE47; rw [ht48] at hE51; clear hE47
    refine c_seq ?_
    refine c_reg ?_
    refine q_step (v := .bool false) hE51 (y_assign rfl) rfl rfl rfl ?_; intro a52 hE53; clear hE51
    refine c_nil ?_
    have hE54 := hE53.sub (L' := [(4, .bool false)]) ⟨rfl, trivial⟩; clear hE53
    refine p_tn ?_
    refine wp_ret ?_
    refine p_tr ?_
    have hF : F_l_eqNode ap0 ap1 bp0 bp1 = false := by unfold F_l_eqNode; rw [ht48, ht27]; first | done | rfl
    refine c_ret1 hE54 rfl rfl ?_
    exact ⟨(by rw [hF]; first | done | (dsimp only; done) | rfl), hS11.ext⟩
   ·
    have ht55 := bn_f ht48
    have hp56 := of_decide_eq_true ht55
    have hE57 := hE47; rw [ht48] at hE57; clear hE47
    refine wp_skip ?_
    refine p_tn ?_
    refine c_seq ?_
    refine c_reg ?_
    refine q_step (v := .bool true) hE57 (y_assign rfl) rfl rfl rfl ?_; intro a58 hE59; clear hE57
    refine c_nil ?_
    have hE60 := hE59.sub (L' := [(4, .bool true)]) ⟨rfl, trivial⟩; clear hE59
    refine p_tn ?_
    refine wp_ret ?_
    have hF : F_l_eqNode ap0 ap1 bp0 bp1 = true := by unfold F_l_eqNode; rw [ht48, ht27]; first | done | rfl
    refine c_ret1 hE60 rfl rfl ?_
    exact ⟨(by rw [hF]; first | done | (dsimp only; done) | rfl), hS11.ext⟩

theorem d_l_eqNode (ap0 ap1 bp0 bp1 : Int) (w : World) :
    Calls Try.prog 78 #[.agg #[.int .i64 ap0, .int .i64 ap1], .agg #[.int .i64 bp0, .int .i64 bp1]] w (Ret fun v w' => v = .bool (decide (ap0 = bp0) && decide (ap1 = bp1)) ∧ Ext w w') := by
  have := c_l_eqNode ap0 ap1 bp0 bp1 w
  have e : F_l_eqNode ap0 ap1 bp0 bp1 = (decide (ap0 = bp0) && decide (ap1 = bp1)) := by
    unfold F_l_eqNode
    by_cases h0 : ap0 = bp0 <;> by_cases h1 : ap1 = bp1 <;> simp [h0, h1]
  rwa [e] at this


def F_l_eqNodeS_L1b (ap : List Int) (bp : List Int) (rec : Int → Except (Bool) (Int)) (i5 : Int) : Except (Bool) (Int) :=
  bif (decide (i5 < (((ap).length / 2 : Nat) : Int))) then (bif (!(decide ((gS 2 0 ap i5) = (gS 2 0 bp i5)) && decide ((gS 2 1 ap i5) = (gS 2 1 bp i5)))) then (.error false) else (rec (i5 + 1))) else (.ok i5)
def F_l_eqNodeS_L1 (ap : List Int) (bp : List Int) : Nat → Int → Except (Bool) (Int)
  | 0, i5 => .ok i5
  | r + 1, i5 => F_l_eqNodeS_L1b ap bp (F_l_eqNodeS_L1 ap bp r) i5
def F_l_eqNodeS (ap : List Int) (bp : List Int) : Bool :=
  bif (!decide ((((ap).length / 2 : Nat) : Int) = (((bp).length / 2 : Nat) : Int))) then false else (bif (isOk (F_l_eqNodeS_L1 ap bp (Int.toNat ((((ap).length / 2 : Nat) : Int) - 0) + 1) 0)) then true else (errD (F_l_eqNodeS_L1 ap bp (Int.toNat ((((ap).length / 2 : Nat) : Int) - 0) + 1) 0)))
theorem cf_l_eqNodeS (args : Array Value) (w : World) : (callFunc 24 args).run Try.prog w = .ok (.enter 24 args) w := by kernel_rfl
set_option maxRecDepth 100000 in
theorem c_l_eqNodeS (apA : Option Addr) (apN apC : Nat) (ap : List Int) (bpA : Option Addr) (bpN bpC : Nat) (bp : List Int) (w : World) (apR : RdS w 2 apA apN apC ap) (bpR : RdS w 2 bpA bpN bpC bp) :
    Calls Try.prog 24 #[.slice apA apN apC, .slice bpA bpN bpC] w (Ret fun v w' => v = .bool (F_l_eqNodeS ap bp) ∧ Ext w w') := by
  obtain rfl : apN = ap.length / 2 := (apR.lenD (by decide)).symm
  have apEv := apR.ev (by decide)
  have apLe := apR.le
  obtain rfl : bpN = bp.length / 2 := (bpR.lenD (by decide)).symm
  have bpEv := bpR.ev (by decide)
  have bpLe := bpR.le
  have hS := St.nil w
  have hS1 := St.rd0 hS rfl apR; clear hS
  have hS2 := St.rd0 hS1 rfl bpR; clear hS1
  refine enter (args := [.slice apA ((ap).length / 2 : Nat) apC, .slice bpA ((bp).length / 2 : Nat) bpC]) Try.func24 rfl rfl ?_
  rw [Try.ntmps24]; intro a hE
  have hE := hE.sub (L' := [(0, .slice apA ((ap).length / 2 : Nat) apC), (1, .slice bpA ((bp).length / 2 : Nat) bpC)]) ⟨rfl, rfl, trivial⟩
  refine c_seq ?_
  refine c_reg ?_
  refine q_step (v := .bool false) hE (y_assign rfl) rfl rfl rfl ?_; intro a3 hE4; clear hE
  refine c_nil ?_
  have hE5 := hE4.sub (L' := [(0, .slice apA ((ap).length / 2 : Nat) apC), (1, .slice bpA ((bp).length / 2 : Nat) bpC)]) ⟨rfl, rfl, trivial⟩; clear hE4
  refine p_tn ?_
  refine c_seq ?_
  refine c_seq ?_
  refine c_reg ?_
  refine q_step (v := .slice apA ((ap).length / 2 : Nat) apC) hE5 (y_move rfl) rfl rfl rfl ?_; intro a6 hE7; clear hE5
  refine q_step (v := .int .i64 (((ap).length / 2 : Nat) : Int)) hE7 (y_len (e := 94) (by kernel_rfl) rfl) rfl rfl rfl ?_; intro a8 hE9; clear hE7
  refine q_step (v := .slice bpA ((bp).length / 2 : Nat) bpC) hE9 (y_move rfl) rfl rfl rfl ?_; intro a10 hE11; clear hE9
  refine q_step (v := .int .i64 (((bp).length / 2 : Nat) : Int)) hE11 (y_len (e := 94) (by kernel_rfl) rfl) rfl rfl rfl ?_; intro a12 hE13; clear hE11
  refine q_step (v := .bool (!decide ((((ap).length / 2 : Nat) : Int) = (((bp).length / 2 : Nat) : Int)))) hE13 (y_neq rfl rfl) rfl rfl rfl ?_; intro a14 hE15; clear hE13
  refine c_nil ?_
  have hE16 := hE15.sub (L' := [(0, .slice apA ((ap).length / 2 : Nat) apC), (1, .slice bpA ((bp).length / 2 : Nat) bpC), (10, .bool (!decide ((((ap).length / 2 : Nat) : Int) = (((bp).length / 2 : Nat) : Int))))]) ⟨rfl, rfl, rfl, trivial⟩; clear hE15
  refine p_tn ?_
  refine c_cond hE16 rfl (fun ht17 => ?_) (fun ht17 => ?_)
  ·
   have ht18 := bn_t ht17
   have hp19 := of_decide_eq_false ht18
   have hE20 := hE16; rw [ht17] at hE20; clear hE16
   refine c_seq ?_
   refine c_reg ?_
   refine q_step (v := .bool false) hE20 (y_assign rfl) rfl rfl rfl ?_; intro a21 hE22; clear hE20
   refine c_nil ?_
   have hE23 := hE22.sub (L' := [(4, .bool false)]) ⟨rfl, trivial⟩; clear hE22
   refine p_tn ?_
   refine wp_ret ?_
   refine p_tr ?_
   have hF : F_l_eqNodeS ap bp = false := by unfold F_l_eqNodeS; rw [ht17]; first | done | rfl
   refine c_ret1 hE23 rfl rfl ?_
   exact ⟨(by rw [hF]; first | done | (dsimp only; done) | rfl), hS2.ext⟩
  ·
   have ht24 := bn_f ht17
   have hp25 := of_decide_eq_true ht24
   have hE26 := hE16; rw [ht17] at hE26; clear hE16
   refine wp_skip ?_
   refine p_tn ?_
   refine c_seq ?_
   refine c_seq ?_
   refine c_reg ?_
   refine q_step (v := .int .i64 0) hE26 (y_assign rfl) rfl rfl rfl ?_; intro a27 hE28; clear hE26
   refine c_nil ?_
   have hE29 := hE28.sub (L' := [(0, .slice apA ((ap).length / 2 : Nat) apC), (1, .slice bpA ((bp).length / 2 : Nat) bpC), (5, .int .i64 0)]) ⟨rfl, rfl, rfl, trivial⟩; clear hE28
   refine p_tn ?_
   refine c_cut1 (fun a' w' => isOk (F_l_eqNodeS_L1 ap bp (Int.toNat ((((ap).length / 2 : Nat) : Int) - 0) + 1) 0) = true ∧ (0 ≤ (okD (F_l_eqNodeS_L1 ap bp (Int.toNat ((((ap).length / 2 : Nat) : Int) - 0) + 1) 0))) ∧ ((okD (F_l_eqNodeS_L1 ap bp (Int.toNat ((((ap).length / 2 : Nat) : Int) - 0) + 1) 0)) ≤ (((ap).length / 2 : Nat) : Int)) ∧ E a' 27 [(0, .slice apA ((ap).length / 2 : Nat) apC), (1, .slice bpA ((bp).length / 2 : Nat) bpC), (5, .int .i64 (okD (F_l_eqNodeS_L1 ap bp (Int.toNat ((((ap).length / 2 : Nat) : Int) - 0) + 1) 0)))] ∧ St w w' [.rd 2 bpA ((bp).length / 2 : Nat) bpC bp, .rd 2 apA ((ap).length / 2 : Nat) apC ap]) ?_ ?_
   ·
    refine wp_block ?_
    refine c_loop (fun r a' w' => ∃ i5 : Int, F_l_eqNodeS_L1 ap bp r i5 = F_l_eqNodeS_L1 ap bp (Int.toNat ((((ap).length / 2 : Nat) : Int) - 0) + 1) 0 ∧ Int.toNat ((((ap).length / 2 : Nat) : Int) - i5) < r ∧ (0 ≤ i5) ∧ (i5 ≤ (((ap).length / 2 : Nat) : Int)) ∧ E a' 27 [(0, .slice apA ((ap).length / 2 : Nat) apC), (1, .slice bpA ((bp).length / 2 : Nat) bpC), (5, .int .i64 i5)] ∧ St w w' [.rd 2 bpA ((bp).length / 2 : Nat) bpC bp, .rd 2 apA ((ap).length / 2 : Nat) apC ap]) (r := (Int.toNat ((((ap).length / 2 : Nat) : Int) - 0) + 1)) ?_ ?_
    · exact ⟨0, rfl, Nat.lt_succ_self _, (by first | omega | (simp only [sS_len, sL_len]; omega) | (simp only [List.length_replicate, sI_len]; omega) | (simp only [List.length_append, List.length_cons, List.length_nil, sI_len, cond_true, cond_false]; omega) | (simp only [List.length_append, List.length_cons, List.length_nil, sI_len, cond_eq_ite, apply_ite List.length]; split <;> simp only [List.length_append, List.length_cons, List.length_nil, sI_len] <;> omega) | grind), (by first | omega | (simp only [sS_len, sL_len]; omega) | (simp only [List.length_replicate, sI_len]; omega) | (simp only [List.length_append, List.length_cons, List.length_nil, sI_len, cond_true, cond_false]; omega) | (simp only [List.length_append, List.length_cons, List.length_nil, sI_len, cond_eq_ite, apply_ite List.length]; split <;> simp only [List.length_append, List.length_cons, List.length_nil, sI_len] <;> omega) | grind), (hE29.sub (L' := [(0, .slice apA ((ap).length / 2 : Nat) apC), (1, .slice bpA ((bp).length / 2 : Nat) bpC), (5, .int .i64 0)]) ⟨rfl, rfl, rfl, trivial⟩), (St.pick (Γ' := [.rd 2 bpA ((bp).length / 2 : Nat) bpC bp, .rd 2 apA ((ap).length / 2 : Nat) apC ap]) hS2 [0, 1] (by decide) rfl)⟩
    ·
     clear hE29 hS2
     rintro r39 a31 w32 ⟨i5, hT35, hr36, hi37, hi38, hE33, hS34⟩
     obtain ⟨r39, rfl⟩ : ∃ r', r39 = r' + 1 := ⟨r39 - 1, by omega⟩
     refine c_seq ?_
     refine c_seq ?_
     refine c_reg ?_
     refine q_step (v := .int .i64 i5) hE33 (y_move rfl) rfl rfl rfl ?_; intro a40 hE41; clear hE33
     refine q_step (v := .slice apA ((ap).length / 2 : Nat) apC) hE41 (y_move rfl) rfl rfl rfl ?_; intro a42 hE43; clear hE41
     refine q_step (v := .int .i64 (((ap).length / 2 : Nat) : Int)) hE43 (y_len (e := 94) (by kernel_rfl) rfl) rfl rfl rfl ?_; intro a44 hE45; clear hE43
     refine q_step (v := .bool (decide (i5 < (((ap).length / 2 : Nat) : Int)))) hE45 (y_lss rfl rfl) rfl rfl rfl ?_; intro a46 hE47; clear hE45
     refine c_nil ?_
     have hE48 := hE47.sub (L' := [(0, .slice apA ((ap).length / 2 : Nat) apC), (1, .slice bpA ((bp).length / 2 : Nat) bpC), (5, .int .i64 i5), (14, .bool (decide (i5 < (((ap).length / 2 : Nat) : Int))))]) ⟨rfl, rfl, rfl, rfl, trivial⟩; clear hE47
     refine p_tn ?_
     refine c_cond hE48 rfl (fun ht49 => ?_) (fun ht49 => ?_)
     ·
      have hp50 := of_decide_eq_true ht49
      have hE51 := hE48; rw [ht49] at hE51; clear hE48
      refine wp_skip ?_
      refine p_tn ?_
      refine c_seq ?_
      refine wp_block ?_
      refine c_seq ?_
      refine d_start (fun w w' => (fun w' => rngA w' (adr apA (Int.toNat i5 * 2)) [.int .i64 (gS 2 0 ap i5), .int .i64 (gS 2 1 ap i5)] ∧ rngA w' (adr bpA (Int.toNat i5 * 2)) [.int .i64 (gS 2 0 bp i5), .int .i64 (gS 2 1 bp i5)] ∧ True) w → (fun w' => rngA w' (adr apA (Int.toNat i5 * 2)) [.int .i64 (gS 2 0 ap i5), .int .i64 (gS 2 1 ap i5)] ∧ rngA w' (adr bpA (Int.toNat i5 * 2)) [.int .i64 (gS 2 0 bp i5), .int .i64 (gS 2 1 bp i5)] ∧ True) w') [3, 7] 10 (by kernel_rfl) rfl ?_
      intro w52 he53; have hS54 := St.go hS34 he53; clear hS34
      refine d_pure (fun _ h => h) (v := .slice apA ((ap).length / 2 : Nat) apC) 0 rfl hE51 (y_move rfl) rfl (by kernel_rfl) (by kernel_rfl) (by kernel_rfl) rfl rfl (fun _ _ _ h => h) ?_; intro a55 hE56; clear hE51
      refine d_pure (fun _ h => h) (v := .int .i64 i5) 1 rfl hE56 (y_move rfl) rfl (by kernel_rfl) (by kernel_rfl) (by kernel_rfl) rfl rfl (fun _ _ _ h => h) ?_; intro a57 hE58; clear hE56
      refine d_pure (fun _ h => h) (v := .pointer (some (adr apA (Int.toNat i5 * 2)))) 2 rfl hE58 (y_idx (by kernel_rfl) (fun _ => by kernel_rfl) rfl rfl (RdS.isS (m := i5) (St.rdR (i := 1) hS54 rfl) (by omega) (by omega)) (by omega) (by omega) rfl) rfl (by kernel_rfl) (by kernel_rfl) (by kernel_rfl) rfl rfl (fun _ _ _ h => h) ?_; intro a59 hE60; clear hE58
      refine d_take (fun _ h => h) (fun _ _ h k => h k) (v := .agg #[.int .i64 (gS 2 0 ap i5), .int .i64 (gS 2 1 ap i5)]) 3 rfl hE60 (S := fun w' => rngA w' (adr apA (Int.toNat i5 * 2)) [.int .i64 (gS 2 0 ap i5), .int .i64 (gS 2 1 ap i5)] ∧ rngA w' (adr bpA (Int.toNat i5 * 2)) [.int .i64 (gS 2 0 bp i5), .int .i64 (gS 2 1 bp i5)] ∧ True) ⟨(RdS.rng2 (St.rdR (i := 1) hS54 rfl) (by omega) (by omega) _ (Ext.refl _)), (RdS.rng2 (St.rdR (i := 0) hS54 rfl) (by omega) (by omega) _ (Ext.refl _)), trivial⟩ (y_loadE Try.underlying94 rfl (by kernel_rfl) rfl (fun _ h => h.1)) rfl rfl (by kernel_rfl) (by kernel_rfl) (by kernel_rfl) (by kernel_rfl) rfl rfl (fun _ _ _ h => h) ?_; intro a61 hE62; clear hE60
      refine d_pure (fun _ h => h) (v := .slice bpA ((bp).length / 2 : Nat) bpC) 4 rfl hE62 (y_move rfl) rfl (by kernel_rfl) (by kernel_rfl) (by kernel_rfl) rfl rfl (fun _ _ _ h => h) ?_; intro a63 hE64; clear hE62
      refine d_pure (fun _ h => h) (v := .int .i64 i5) 5 rfl hE64 (y_move rfl) rfl (by kernel_rfl) (by kernel_rfl) (by kernel_rfl) rfl rfl (fun _ _ _ h => h) ?_; intro a65 hE66; clear hE64
      refine d_pure (fun _ h => h) (v := .pointer (some (adr bpA (Int.toNat i5 * 2)))) 6 rfl hE66 (y_idx (by kernel_rfl) (fun _ => by kernel_rfl) rfl rfl (RdS.isS (m := i5) (St.rdR (i := 0) hS54 rfl) (by omega) (by omega)) (by omega) (by omega) rfl) rfl (by kernel_rfl) (by kernel_rfl) (by kernel_rfl) rfl rfl (fun _ _ _ h => h) ?_; intro a67 hE68; clear hE66
      refine d_take (fun _ h => h) (fun _ _ h k => h k) (v := .agg #[.int .i64 (gS 2 0 bp i5), .int .i64 (gS 2 1 bp i5)]) 7 rfl hE68 (S := fun w' => rngA w' (adr apA (Int.toNat i5 * 2)) [.int .i64 (gS 2 0 ap i5), .int .i64 (gS 2 1 ap i5)] ∧ rngA w' (adr bpA (Int.toNat i5 * 2)) [.int .i64 (gS 2 0 bp i5), .int .i64 (gS 2 1 bp i5)] ∧ True) ⟨(RdS.rng2 (St.rdR (i := 1) hS54 rfl) (by omega) (by omega) _ (Ext.refl _)), (RdS.rng2 (St.rdR (i := 0) hS54 rfl) (by omega) (by omega) _ (Ext.refl _)), trivial⟩ (y_loadE Try.underlying94 rfl (by kernel_rfl) rfl (fun _ h => h.2.1)) rfl rfl (by kernel_rfl) (by kernel_rfl) (by kernel_rfl) (by kernel_rfl) rfl rfl (fun _ _ _ h => h) ?_; intro a69 hE70; clear hE68
      refine d_only 8 (by kernel_rfl) rfl hE70 rfl (l_call (f := 78) (argv := [.agg #[.int .i64 (gS 2 0 ap i5), .int .i64 (gS 2 1 ap i5)], .agg #[.int .i64 (gS 2 0 bp i5), .int .i64 (gS 2 1 bp i5)]]) hE70 (fun _ => cf_l_eqNode _ _) rfl rfl (d_l_eqNode (gS 2 0 ap i5) (gS 2 1 ap i5) (gS 2 0 bp i5) (gS 2 1 bp i5) w52) ?_)
      rintro _ w72 ⟨rfl, he76⟩ a73 hE74; clear hE70
      have hS75 := St.go hS54 he76; clear hS54
      refine ⟨fun h => Bool.noConfusion (h.symm.trans (show exm _ _ _ = true by kernel_rfl)), ?_⟩
      refine d_pure (fun _ h => h) (v := .bool (!(decide ((gS 2 0 ap i5) = (gS 2 0 bp i5)) && decide ((gS 2 1 ap i5) = (gS 2 1 bp i5))))) 9 rfl hE74 (y_not rfl) rfl (by kernel_rfl) (by kernel_rfl) (by kernel_rfl) rfl rfl (fun _ _ _ h => h) ?_; intro a77 hE78; clear hE74
      refine d_done (by kernel_rfl) ?_
      have hE79 := hE78.sub (L' := [(0, .slice apA ((ap).length / 2 : Nat) apC), (1, .slice bpA ((bp).length / 2 : Nat) bpC), (5, .int .i64 i5), (26, .bool (!(decide ((gS 2 0 ap i5) = (gS 2 0 bp i5)) && decide ((gS 2 1 ap i5) = (gS 2 1 bp i5)))))]) ⟨rfl, rfl, rfl, rfl, trivial⟩; clear hE78
      refine p_tn ?_
      refine c_cond hE79 rfl (fun ht80 => ?_) (fun ht80 => ?_)
      ·
       have ht81 := bn_t ht80
       have hE82 := hE79; rw [ht80] at hE82; clear hE79
       refine c_seq ?_
       refine c_reg ?_
       refine q_step (v := .bool false) hE82 (y_assign rfl) rfl rfl rfl ?_; intro a83 hE84; clear hE82
       refine c_nil ?_
       have hE85 := hE84.sub (L' := [(4, .bool false)]) ⟨rfl, trivial⟩; clear hE84
       refine p_tn ?_
       refine wp_ret ?_
       refine p_br ?_
       refine p_tr ?_
       have hX86 : F_l_eqNodeS_L1 ap bp (Int.toNat ((((ap).length / 2 : Nat) : Int) - 0) + 1) 0 = .error false := hT35.symm.trans (show F_l_eqNodeS_L1b ap bp (F_l_eqNodeS_L1 ap bp r39) i5 = .error false by unfold F_l_eqNodeS_L1b; rw [ht80, ht49]; first | done | rfl)
       refine p_tr (p_br (p_tr ?_))
       refine p_tr ?_
       have hF : F_l_eqNodeS ap bp = false := by unfold F_l_eqNodeS; rw [hX86, ht17]; first | done | rfl
       refine c_ret1 hE85 rfl rfl ?_
       exact ⟨(by rw [hF]; first | done | (dsimp only; done) | rfl), hS75.ext⟩
      ·
       have ht87 := bn_f ht80
       obtain ⟨ht88, ht89⟩ := band_t ht87
       have hp90 := of_decide_eq_true ht88
       have hp91 := of_decide_eq_true ht89
       have hE92 := hE79; rw [ht80] at hE92; clear hE79
       refine wp_skip ?_
       refine p_bn ?_
       refine p_tn ?_
       refine c_reg ?_
       refine q_step (v := .int .i64 i5) hE92 (y_move rfl) rfl rfl rfl ?_; intro a93 hE94; clear hE92
       refine q_step (v := .int .i64 (i5 + 1)) hE94 (y_add rfl rfl ⟨(by omega), (by omega)⟩) rfl rfl rfl ?_; intro a95 hE96; clear hE94
       refine q_step (v := .int .i64 (i5 + 1)) hE96 (y_assign rfl) rfl rfl rfl ?_; intro a97 hE98; clear hE96
       refine c_nil ?_
       have hE99 := hE98.sub (L' := [(0, .slice apA ((ap).length / 2 : Nat) apC), (1, .slice bpA ((bp).length / 2 : Nat) bpC), (5, .int .i64 (i5 + 1))]) ⟨rfl, rfl, rfl, trivial⟩; clear hE98
       refine p_tn ⟨r39, Nat.lt_succ_self _, i5 + 1, (hT35.symm.trans (show F_l_eqNodeS_L1b ap bp (F_l_eqNodeS_L1 ap bp r39) i5 = F_l_eqNodeS_L1 ap bp r39 (i5 + 1) by unfold F_l_eqNodeS_L1b; rw [ht80, ht49]; first | done | rfl)).symm, (by omega), (by first | omega | (simp only [sS_len, sL_len]; omega) | (simp only [List.length_replicate, sI_len]; omega) | (simp only [List.length_append, List.length_cons, List.length_nil, sI_len, cond_true, cond_false]; omega) | (simp only [List.length_append, List.length_cons, List.length_nil, sI_len, cond_eq_ite, apply_ite List.length]; split <;> simp only [List.length_append, List.length_cons, List.length_nil, sI_len] <;> omega) | grind), (by first | omega | (simp only [sS_len, sL_len]; omega) | (simp only [List.length_replicate, sI_len]; omega) | (simp only [List.length_append, List.length_cons, List.length_nil, sI_len, cond_true, cond_false]; omega) | (simp only [List.length_append, List.length_cons, List.length_nil, sI_len, cond_eq_ite, apply_ite List.length]; split <;> simp only [List.length_append, List.length_cons, List.length_nil, sI_len] <;> omega) | grind), (hE99.sub (L' := [(0, .slice apA ((ap).length / 2 : Nat) apC), (1, .slice bpA ((bp).length / 2 : Nat) bpC), (5, .int .i64 (i5 + 1))]) ⟨rfl, rfl, rfl, trivial⟩), (St.pick (Γ' := [.rd 2 bpA ((bp).length / 2 : Nat) bpC bp, .rd 2 apA ((ap).length / 2 : Nat) apC ap]) hS75 [0, 1] (by decide) rfl)⟩
     ·
      have hp100 := of_decide_eq_false ht49
      have hE101 := hE48; rw [ht49] at hE101; clear hE48
      refine wp_exit ?_
      refine p_te ?_
      have hX102 : F_l_eqNodeS_L1 ap bp (Int.toNat ((((ap).length / 2 : Nat) : Int) - 0) + 1) 0 = .ok i5 := hT35.symm.trans (show F_l_eqNodeS_L1b ap bp (F_l_eqNodeS_L1 ap bp r39) i5 = .ok i5 by unfold F_l_eqNodeS_L1b; rw [ht49]; first | done | rfl)
      refine p_te (p_be (p_tn ?_))
      exact ⟨(by rw [hX102]; rfl), (by rw [hX102]; exact (show 0 ≤ i5 from (by first | omega | (simp only [sS_len, sL_len]; omega) | (simp only [List.length_replicate, sI_len]; omega) | (simp only [List.length_append, List.length_cons, List.length_nil, sI_len, cond_true, cond_false]; omega) | (simp only [List.length_append, List.length_cons, List.length_nil, sI_len, cond_eq_ite, apply_ite List.length]; split <;> simp only [List.length_append, List.length_cons, List.length_nil, sI_len] <;> omega) | grind))), (by rw [hX102]; exact (show i5 ≤ (((ap).length / 2 : Nat) : Int) from (by first | omega | (simp only [sS_len, sL_len]; omega) | (simp only [List.length_replicate, sI_len]; omega) | (simp only [List.length_append, List.length_cons, List.length_nil, sI_len, cond_true, cond_false]; omega) | (simp only [List.length_append, List.length_cons, List.length_nil, sI_len, cond_eq_ite, apply_ite List.length]; split <;> simp only [List.length_append, List.length_cons, List.length_nil, sI_len] <;> omega) | grind))), (by rw [hX102]; exact (hE101.sub (L' := [(0, .slice apA ((ap).length / 2 : Nat) apC), (1, .slice bpA ((bp).length / 2 : Nat) bpC), (5, .int .i64 i5)]) ⟨rfl, rfl, rfl, trivial⟩)), (St.pick (Γ' := [.rd 2 bpA ((bp).length / 2 : Nat) bpC bp, .rd 2 apA ((ap).length / 2 : Nat) apC ap]) hS34 [0, 1] (by decide) rfl)⟩
   ·
    rintro a103 w104 ⟨hO107, hi108, hi109, hE105, hS106⟩; clear hE29 hS2
    refine p_tn ?_
    refine c_seq ?_
    refine c_reg ?_
    refine q_step (v := .bool true) hE105 (y_assign rfl) rfl rfl rfl ?_; intro a110 hE111; clear hE105
    refine c_nil ?_
    have hE112 := hE111.sub (L' := [(4, .bool true)]) ⟨rfl, trivial⟩; clear hE111
    refine p_tn ?_
    refine wp_ret ?_
    have hF : F_l_eqNodeS ap bp = true := by unfold F_l_eqNodeS; rw [hO107, ht17]; first | done | rfl
    refine c_ret1 hE112 rfl rfl ?_
    exact ⟨(by rw [hF]; first | done | (dsimp only; done) | rfl), hS106.ext⟩

theorem eqNodeS_key (ap bp : List Int) (hl : ap.length = bp.length) (he : ap.length = ap.length / 2 * 2) : ∀ (k : Nat) (i : Int), 0 ≤ i → ((ap.length / 2 : Nat) : Int) - i = k → (∀ j : Nat, (j : Int) < 2 * i → gi ap j = gi bp j) →
    (bif isOk (F_l_eqNodeS_L1 ap bp (k + 1) i) then true else errD (F_l_eqNodeS_L1 ap bp (k + 1) i)) = decide (ap = bp) := by
  intro k
  induction k with
  | zero =>
    intro i h0 hk hp
    have e : F_l_eqNodeS_L1 ap bp (0 + 1) i = .ok i := by
      show F_l_eqNodeS_L1b ap bp _ i = _
      unfold F_l_eqNodeS_L1b
      rw [decide_eq_false (by omega)]; rfl
    rw [e]
    have : ap = bp := ext_gi hl fun j hj => hp j (by omega)
    rw [decide_eq_true this]; rfl
  | succ k ih =>
    intro i h0 hk hp
    have e : F_l_eqNodeS_L1 ap bp (k + 1 + 1) i = bif !(decide (gS 2 0 ap i = gS 2 0 bp i) && decide (gS 2 1 ap i = gS 2 1 bp i)) then .error false else F_l_eqNodeS_L1 ap bp (k + 1) (i + 1) := by
      show F_l_eqNodeS_L1b ap bp _ i = _
      unfold F_l_eqNodeS_L1b
      rw [decide_eq_true (by omega)]; rfl
    rw [e]
    by_cases h : gS 2 0 ap i = gS 2 0 bp i ∧ gS 2 1 ap i = gS 2 1 bp i
    · rw [decide_eq_true h.1, decide_eq_true h.2]
      refine ih (i + 1) (by omega) (by omega) fun j hj => ?_
      obtain ⟨h2, h3⟩ := h
      unfold gS at h2 h3
      by_cases e : i.toNat * 2 + 0 = j
      · rw [e] at h2; exact h2
      · by_cases e' : i.toNat * 2 + 1 = j
        · rw [e'] at h3; exact h3
        · exact hp j (by omega)
    · have : ¬ ap = bp := fun h' => h (by rw [h']; exact ⟨rfl, rfl⟩)
      rw [decide_eq_false this, ← Bool.decide_and, decide_eq_false h]; rfl
theorem eqNodeS_eq (ap bp : List Int) (ha : ap.length = ap.length / 2 * 2) (hb : bp.length = bp.length / 2 * 2) : F_l_eqNodeS ap bp = decide (ap = bp) := by
  unfold F_l_eqNodeS
  by_cases hl : ap.length = bp.length
  · rw [decide_eq_true (by omega)]
    have e : Int.toNat (((ap.length / 2 : Nat) : Int) - 0) = ap.length / 2 := by omega
    rw [e]
    exact eqNodeS_key ap bp hl ha (ap.length / 2) 0 (by omega) (by omega) fun j hj => by omega
  · rw [decide_eq_false (by omega)]
    have : ¬ ap = bp := fun h' => hl (by rw [h'])
    rw [decide_eq_false this]; rfl
theorem d_l_eqNodeS (apA : Option Addr) (apN apC : Nat) (ap : List Int) (bpA : Option Addr) (bpN bpC : Nat) (bp : List Int) (w : World) (apR : RdS w 2 apA apN apC ap) (bpR : RdS w 2 bpA bpN bpC bp) :
    Calls Try.prog 24 #[.slice apA apN apC, .slice bpA bpN bpC] w (Ret fun v w' => v = .bool (decide (ap = bp)) ∧ Ext w w') := by
  have := c_l_eqNodeS apA apN apC ap bpA bpN bpC bp w apR bpR
  rwa [eqNodeS_eq ap bp (apR.ev (by decide)) (bpR.ev (by decide))] at this


def F_l_markNodeS_L1b (ap : List Int) (rec : Int → Int → (List Int) → Int × Int × (List Int)) (k1 : Int) (i5 : Int) (a0 : List Int) : Int × Int × (List Int) :=
  bif (decide (i5 < (((ap).length / 2 : Nat) : Int))) then (rec ((k1 + 1) + 1) (i5 + 1) (sS 2 1 (sS 2 0 a0 i5 k1) i5 (k1 + 1))) else (k1, i5, a0)
def F_l_markNodeS_L1 (ap : List Int) : Nat → Int → Int → (List Int) → Int × Int × (List Int)
  | 0, k1, i5, a0 => (k1, i5, a0)
  | r + 1, k1, i5, a0 => F_l_markNodeS_L1b ap (F_l_markNodeS_L1 ap r) k1 i5 a0
def F_l_markNodeS (ap : List Int) (kp : Int) : Int × List Int :=
  ((F_l_markNodeS_L1 ap (Int.toNat ((((ap).length / 2 : Nat) : Int) - 0) + 1) kp 0 ap).1, (F_l_markNodeS_L1 ap (Int.toNat ((((ap).length / 2 : Nat) : Int) - 0) + 1) kp 0 ap).2.2)
theorem cf_l_markNodeS (args : Array Value) (w : World) : (callFunc 29 args).run Try.prog w = .ok (.enter 29 args) w := by kernel_rfl
set_option maxRecDepth 100000 in
theorem c_l_markNodeS (apA : Option Addr) (apN apC : Nat) (ap : List Int) (kp : Int) (w : World) (w0v : World) (Γ0 : List Ent) (hS0 : St w0v w (.own 94 2 apA apN apC ap :: Γ0)) (h0 : 0 ≤ kp) (h1 : kp ≤ 1000000000) (hl : ap.length ≤ 4194304) :
    Calls Try.prog 29 #[.slice apA apN apC, .int .i64 kp] w (Ret fun v w' => v = .int .i64 ((F_l_markNodeS ap kp).1) ∧ St w0v w' (.own 94 2 apA apN apC ((F_l_markNodeS ap kp).2) :: Γ0)) := by
  obtain rfl : apN = ap.length / 2 := ((St.rdO (i := 0) hS0 rfl).lenD (by decide)).symm
  have apEv := (St.rdO (i := 0) hS0 rfl).ev (by decide)
  have apLe := (St.rdO (i := 0) hS0 rfl).le
  refine enter (args := [.slice apA ((ap).length / 2 : Nat) apC, .int .i64 kp]) Try.func29 rfl rfl ?_
  rw [Try.ntmps29]; intro a hE
  have hE := hE.sub (L' := [(0, .slice apA ((ap).length / 2 : Nat) apC), (1, .int .i64 kp)]) ⟨rfl, rfl, trivial⟩
  refine c_seq ?_
  refine c_reg ?_
  refine q_step (v := .int .i64 0) hE (y_assign rfl) rfl rfl rfl ?_; intro a1 hE2; clear hE
  refine c_nil ?_
  have hE3 := hE2.sub (L' := [(0, .slice apA ((ap).length / 2 : Nat) apC), (1, .int .i64 kp)]) ⟨rfl, rfl, trivial⟩; clear hE2
  refine p_tn ?_
  refine c_seq ?_
  refine c_seq ?_
  refine c_reg ?_
  refine q_step (v := .int .i64 0) hE3 (y_assign rfl) rfl rfl rfl ?_; intro a4 hE5; clear hE3
  refine c_nil ?_
  have hE6 := hE5.sub (L' := [(0, .slice apA ((ap).length / 2 : Nat) apC), (1, .int .i64 kp), (5, .int .i64 0)]) ⟨rfl, rfl, rfl, trivial⟩; clear hE5
  refine p_tn ?_
  refine c_cut1 (fun a' w' => (0 ≤ ((F_l_markNodeS_L1 ap (Int.toNat ((((ap).length / 2 : Nat) : Int) - 0) + 1) kp 0 ap).2.1)) ∧ (((F_l_markNodeS_L1 ap (Int.toNat ((((ap).length / 2 : Nat) : Int) - 0) + 1) kp 0 ap).1) = kp + 2 * ((F_l_markNodeS_L1 ap (Int.toNat ((((ap).length / 2 : Nat) : Int) - 0) + 1) kp 0 ap).2.1)) ∧ (((F_l_markNodeS_L1 ap (Int.toNat ((((ap).length / 2 : Nat) : Int) - 0) + 1) kp 0 ap).2.2).length = ap.length) ∧ (((F_l_markNodeS_L1 ap (Int.toNat ((((ap).length / 2 : Nat) : Int) - 0) + 1) kp 0 ap).2.1) ≤ (((ap).length / 2 : Nat) : Int)) ∧ E a' 27 [(0, .slice apA ((ap).length / 2 : Nat) apC), (1, .int .i64 ((F_l_markNodeS_L1 ap (Int.toNat ((((ap).length / 2 : Nat) : Int) - 0) + 1) kp 0 ap).1)), (5, .int .i64 ((F_l_markNodeS_L1 ap (Int.toNat ((((ap).length / 2 : Nat) : Int) - 0) + 1) kp 0 ap).2.1))] ∧ St w0v w' (.own 94 2 apA ((ap).length / 2 : Nat) apC ((F_l_markNodeS_L1 ap (Int.toNat ((((ap).length / 2 : Nat) : Int) - 0) + 1) kp 0 ap).2.2) :: Γ0)) ?_ ?_
  ·
   refine wp_block ?_
   refine c_loop (fun r a' w' => ∃ k1 : Int, ∃ i5 : Int, ∃ a0 : List Int, F_l_markNodeS_L1 ap r k1 i5 a0 = F_l_markNodeS_L1 ap (Int.toNat ((((ap).length / 2 : Nat) : Int) - 0) + 1) kp 0 ap ∧ Int.toNat ((((ap).length / 2 : Nat) : Int) - i5) < r ∧ (0 ≤ i5) ∧ (k1 = kp + 2 * i5) ∧ (a0.length = ap.length) ∧ (i5 ≤ (((ap).length / 2 : Nat) : Int)) ∧ E a' 27 [(0, .slice apA ((ap).length / 2 : Nat) apC), (1, .int .i64 k1), (5, .int .i64 i5)] ∧ St w0v w' (.own 94 2 apA ((ap).length / 2 : Nat) apC a0 :: Γ0)) (r := (Int.toNat ((((ap).length / 2 : Nat) : Int) - 0) + 1)) ?_ ?_
   · exact ⟨kp, 0, ap, rfl, Nat.lt_succ_self _, (by first | omega | (simp only [sS_len, sL_len]; omega) | (simp only [List.length_replicate, sI_len]; omega) | (simp only [List.length_append, List.length_cons, List.length_nil, sI_len, cond_true, cond_false]; omega) | (simp only [List.length_append, List.length_cons, List.length_nil, sI_len, cond_eq_ite, apply_ite List.length]; split <;> simp only [List.length_append, List.length_cons, List.length_nil, sI_len] <;> omega) | grind), (by first | omega | (simp only [sS_len, sL_len]; omega) | (simp only [List.length_replicate, sI_len]; omega) | (simp only [List.length_append, List.length_cons, List.length_nil, sI_len, cond_true, cond_false]; omega) | (simp only [List.length_append, List.length_cons, List.length_nil, sI_len, cond_eq_ite, apply_ite List.length]; split <;> simp only [List.length_append, List.length_cons, List.length_nil, sI_len] <;> omega) | grind), (by first | omega | (simp only [sS_len, sL_len]; omega) | (simp only [List.length_replicate, sI_len]; omega) | (simp only [List.length_append, List.length_cons, List.length_nil, sI_len, cond_true, cond_false]; omega) | (simp only [List.length_append, List.length_cons, List.length_nil, sI_len, cond_eq_ite, apply_ite List.length]; split <;> simp only [List.length_append, List.length_cons, List.length_nil, sI_len] <;> omega) | grind), (by first | omega | (simp only [sS_len, sL_len]; omega) | (simp only [List.length_replicate, sI_len]; omega) | (simp only [List.length_append, List.length_cons, List.length_nil, sI_len, cond_true, cond_false]; omega) | (simp only [List.length_append, List.length_cons, List.length_nil, sI_len, cond_eq_ite, apply_ite List.length]; split <;> simp only [List.length_append, List.length_cons, List.length_nil, sI_len] <;> omega) | grind), (hE6.sub (L' := [(0, .slice apA ((ap).length / 2 : Nat) apC), (1, .int .i64 kp), (5, .int .i64 0)]) ⟨rfl, rfl, rfl, trivial⟩), (St.pickT (Γ := [.own 94 2 apA ((ap).length / 2 : Nat) apC ap]) (Γ' := [.own 94 2 apA ((ap).length / 2 : Nat) apC ap]) (Γ0 := Γ0) hS0 [0] (by decide) rfl rfl)⟩
   ·
    clear hE6 hS0
    rintro r18 a8 w9 ⟨k1, i5, a0, hT12, hr13, hi14, hi15, hi16, hi17, hE10, hS11⟩
    obtain ⟨r18, rfl⟩ : ∃ r', r18 = r' + 1 := ⟨r18 - 1, by omega⟩
    refine c_seq ?_
    refine c_seq ?_
    refine c_reg ?_
    refine q_step (v := .int .i64 i5) hE10 (y_move rfl) rfl rfl rfl ?_; intro a19 hE20; clear hE10
    refine q_step (v := .slice apA ((ap).length / 2 : Nat) apC) hE20 (y_move rfl) rfl rfl rfl ?_; intro a21 hE22; clear hE20
    refine q_step (v := .int .i64 (((ap).length / 2 : Nat) : Int)) hE22 (y_len (e := 94) (by kernel_rfl) rfl) rfl rfl rfl ?_; intro a23 hE24; clear hE22
    refine q_step (v := .bool (decide (i5 < (((ap).length / 2 : Nat) : Int)))) hE24 (y_lss rfl rfl) rfl rfl rfl ?_; intro a25 hE26; clear hE24
    refine c_nil ?_
    have hE27 := hE26.sub (L' := [(0, .slice apA ((ap).length / 2 : Nat) apC), (1, .int .i64 k1), (5, .int .i64 i5), (9, .bool (decide (i5 < (((ap).length / 2 : Nat) : Int))))]) ⟨rfl, rfl, rfl, rfl, trivial⟩; clear hE26
    refine p_tn ?_
    refine c_cond hE27 rfl (fun ht28 => ?_) (fun ht28 => ?_)
    ·
     have hp29 := of_decide_eq_true ht28
     have hE30 := hE27; rw [ht28] at hE30; clear hE27
     refine wp_skip ?_
     refine p_tn ?_
     refine c_seq ?_
     refine wp_block ?_
     refine c_seq ?_
     refine c_reg ?_
     refine q_step (v := .slice apA ((ap).length / 2 : Nat) apC) hE30 (y_move rfl) rfl rfl rfl ?_; intro a31 hE32; clear hE30
     refine q_step (v := .int .i64 i5) hE32 (y_move rfl) rfl rfl rfl ?_; intro a33 hE34; clear hE32
     refine q_step (v := .int .i64 k1) hE34 (y_move rfl) rfl rfl rfl ?_; intro a35 hE36; clear hE34
     refine q_step (v := .pointer (some (adr apA (Int.toNat i5 * 2)))) hE36 (y_idx (by kernel_rfl) (fun _ => by kernel_rfl) rfl rfl (RdS.isS (m := i5) (St.rdO (i := 0) hS11 rfl) (by omega) (by omega)) (by omega) (by omega) rfl) rfl rfl rfl ?_; intro a37 hE38; clear hE36
     refine q_step (v := .pointer (some (adr apA ((Int.toNat i5 * 2) + 0)))) hE38 (y_fieldE (o := 0) (fun _ _ => by kernel_rfl) rfl) rfl rfl rfl ?_; intro a39 hE40; clear hE38
     refine l_step hE40 rfl (l_storeF (k := 0) (j := 0) hS11 hE40 (fun _ => by kernel_rfl) rfl rfl rfl (by omega) (by omega) rfl ?_)
     intro w42 hS45 a43 hE44; clear hS11 hE40
     refine c_nil ?_
     have hE47 := hE44.sub (L' := [(0, .slice apA ((ap).length / 2 : Nat) apC), (1, .int .i64 k1), (5, .int .i64 i5)]) ⟨rfl, rfl, rfl, trivial⟩; clear hE44
     refine p_tn ?_
     refine c_seq ?_
     refine c_reg ?_
     refine q_step (v := .int .i64 k1) hE47 (y_move rfl) rfl rfl rfl ?_; intro a48 hE49; clear hE47
     refine q_step (v := .int .i64 (k1 + 1)) hE49 (y_add rfl rfl ⟨(by omega), (by omega)⟩) rfl rfl rfl ?_; intro a50 hE51; clear hE49
     refine q_step (v := .int .i64 (k1 + 1)) hE51 (y_assign rfl) rfl rfl rfl ?_; intro a52 hE53; clear hE51
     refine c_nil ?_
     have hE54 := hE53.sub (L' := [(0, .slice apA ((ap).length / 2 : Nat) apC), (1, .int .i64 (k1 + 1)), (5, .int .i64 i5)]) ⟨rfl, rfl, rfl, trivial⟩; clear hE53
     refine p_tn ?_
     refine c_seq ?_
     refine c_reg ?_
     refine q_step (v := .slice apA ((ap).length / 2 : Nat) apC) hE54 (y_move rfl) rfl rfl rfl ?_; intro a55 hE56; clear hE54
     refine q_step (v := .int .i64 i5) hE56 (y_move rfl) rfl rfl rfl ?_; intro a57 hE58; clear hE56
     refine q_step (v := .int .i64 (k1 + 1)) hE58 (y_move rfl) rfl rfl rfl ?_; intro a59 hE60; clear hE58
     refine q_step (v := .pointer (some (adr apA (Int.toNat i5 * 2)))) hE60 (y_idx (by kernel_rfl) (fun _ => by kernel_rfl) rfl rfl (RdS.isS (m := i5) (St.rdO (i := 0) hS45 rfl) (by omega) (by omega)) (by omega) (by omega) rfl) rfl rfl rfl ?_; intro a61 hE62; clear hE60
     refine q_step (v := .pointer (some (adr apA ((Int.toNat i5 * 2) + 1)))) hE62 (y_fieldE (o := 1) (fun _ _ => by kernel_rfl) rfl) rfl rfl rfl ?_; intro a63 hE64; clear hE62
     refine l_step hE64 rfl (l_storeF (k := 0) (j := 1) hS45 hE64 (fun _ => by kernel_rfl) rfl rfl rfl (by omega) (by omega) rfl ?_)
     intro w66 hS69 a67 hE68; clear hS45 hE64
     refine c_nil ?_
     have hE71 := hE68.sub (L' := [(0, .slice apA ((ap).length / 2 : Nat) apC), (1, .int .i64 (k1 + 1)), (5, .int .i64 i5)]) ⟨rfl, rfl, rfl, trivial⟩; clear hE68
     refine p_tn ?_
     refine c_reg ?_
     refine q_step (v := .int .i64 (k1 + 1)) hE71 (y_move rfl) rfl rfl rfl ?_; intro a72 hE73; clear hE71
     refine q_step (v := .int .i64 ((k1 + 1) + 1)) hE73 (y_add rfl rfl ⟨(by omega), (by omega)⟩) rfl rfl rfl ?_; intro a74 hE75; clear hE73
     refine q_step (v := .int .i64 ((k1 + 1) + 1)) hE75 (y_assign rfl) rfl rfl rfl ?_; intro a76 hE77; clear hE75
     refine c_nil ?_
     have hE78 := hE77.sub (L' := [(0, .slice apA ((ap).length / 2 : Nat) apC), (1, .int .i64 ((k1 + 1) + 1)), (5, .int .i64 i5)]) ⟨rfl, rfl, rfl, trivial⟩; clear hE77
     refine p_bn ?_
     refine p_tn ?_
     refine c_reg ?_
     refine q_step (v := .int .i64 i5) hE78 (y_move rfl) rfl rfl rfl ?_; intro a79 hE80; clear hE78
     refine q_step (v := .int .i64 (i5 + 1)) hE80 (y_add rfl rfl ⟨(by omega), (by omega)⟩) rfl rfl rfl ?_; intro a81 hE82; clear hE80
     refine q_step (v := .int .i64 (i5 + 1)) hE82 (y_assign rfl) rfl rfl rfl ?_; intro a83 hE84; clear hE82
     refine c_nil ?_
     have hE85 := hE84.sub (L' := [(0, .slice apA ((ap).length / 2 : Nat) apC), (1, .int .i64 ((k1 + 1) + 1)), (5, .int .i64 (i5 + 1))]) ⟨rfl, rfl, rfl, trivial⟩; clear hE84
     refine p_tn ⟨r18, Nat.lt_succ_self _, (k1 + 1) + 1, i5 + 1, sS 2 1 (sS 2 0 a0 i5 k1) i5 (k1 + 1), (hT12.symm.trans (show F_l_markNodeS_L1b ap (F_l_markNodeS_L1 ap r18) k1 i5 a0 = F_l_markNodeS_L1 ap r18 ((k1 + 1) + 1) (i5 + 1) (sS 2 1 (sS 2 0 a0 i5 k1) i5 (k1 + 1)) by unfold F_l_markNodeS_L1b; rw [ht28]; first | done | rfl)).symm, (by omega), (by first | omega | (simp only [sS_len, sL_len]; omega) | (simp only [List.length_replicate, sI_len]; omega) | (simp only [List.length_append, List.length_cons, List.length_nil, sI_len, cond_true, cond_false]; omega) | (simp only [List.length_append, List.length_cons, List.length_nil, sI_len, cond_eq_ite, apply_ite List.length]; split <;> simp only [List.length_append, List.length_cons, List.length_nil, sI_len] <;> omega) | grind), (by first | omega | (simp only [sS_len, sL_len]; omega) | (simp only [List.length_replicate, sI_len]; omega) | (simp only [List.length_append, List.length_cons, List.length_nil, sI_len, cond_true, cond_false]; omega) | (simp only [List.length_append, List.length_cons, List.length_nil, sI_len, cond_eq_ite, apply_ite List.length]; split <;> simp only [List.length_append, List.length_cons, List.length_nil, sI_len] <;> omega) | grind), (by first | omega | (simp only [sS_len, sL_len]; omega) | (simp only [List.length_replicate, sI_len]; omega) | (simp only [List.length_append, List.length_cons, List.length_nil, sI_len, cond_true, cond_false]; omega) | (simp only [List.length_append, List.length_cons, List.length_nil, sI_len, cond_eq_ite, apply_ite List.length]; split <;> simp only [List.length_append, List.length_cons, List.length_nil, sI_len] <;> omega) | grind), (by first | omega | (simp only [sS_len, sL_len]; omega) | (simp only [List.length_replicate, sI_len]; omega) | (simp only [List.length_append, List.length_cons, List.length_nil, sI_len, cond_true, cond_false]; omega) | (simp only [List.length_append, List.length_cons, List.length_nil, sI_len, cond_eq_ite, apply_ite List.length]; split <;> simp only [List.length_append, List.length_cons, List.length_nil, sI_len] <;> omega) | grind), (hE85.sub (L' := [(0, .slice apA ((ap).length / 2 : Nat) apC), (1, .int .i64 ((k1 + 1) + 1)), (5, .int .i64 (i5 + 1))]) ⟨rfl, rfl, rfl, trivial⟩), (St.pickT (Γ := [.own 94 2 apA ((ap).length / 2 : Nat) apC (sS 2 1 (sS 2 0 a0 i5 k1) i5 (k1 + 1))]) (Γ' := [.own 94 2 apA ((ap).length / 2 : Nat) apC (sS 2 1 (sS 2 0 a0 i5 k1) i5 (k1 + 1))]) (Γ0 := Γ0) hS69 [0] (by decide) rfl rfl)⟩
    ·
     have hp86 := of_decide_eq_false ht28
     have hE87 := hE27; rw [ht28] at hE87; clear hE27
     refine wp_exit ?_
     refine p_te ?_
     have hX88 : F_l_markNodeS_L1 ap (Int.toNat ((((ap).length / 2 : Nat) : Int) - 0) + 1) kp 0 ap = (k1, i5, a0) := hT12.symm.trans (show F_l_markNodeS_L1b ap (F_l_markNodeS_L1 ap r18) k1 i5 a0 = (k1, i5, a0) by unfold F_l_markNodeS_L1b; rw [ht28]; first | done | rfl)
     refine p_te (p_be (p_tn ?_))
     exact ⟨(by rw [hX88]; exact (show 0 ≤ i5 from (by first | omega | (simp only [sS_len, sL_len]; omega) | (simp only [List.length_replicate, sI_len]; omega) | (simp only [List.length_append, List.length_cons, List.length_nil, sI_len, cond_true, cond_false]; omega) | (simp only [List.length_append, List.length_cons, List.length_nil, sI_len, cond_eq_ite, apply_ite List.length]; split <;> simp only [List.length_append, List.length_cons, List.length_nil, sI_len] <;> omega) | grind))), (by rw [hX88]; exact (show k1 = kp + 2 * i5 from (by first | omega | (simp only [sS_len, sL_len]; omega) | (simp only [List.length_replicate, sI_len]; omega) | (simp only [List.length_append, List.length_cons, List.length_nil, sI_len, cond_true, cond_false]; omega) | (simp only [List.length_append, List.length_cons, List.length_nil, sI_len, cond_eq_ite, apply_ite List.length]; split <;> simp only [List.length_append, List.length_cons, List.length_nil, sI_len] <;> omega) | grind))), (by rw [hX88]; exact (show a0.length = ap.length from (by first | omega | (simp only [sS_len, sL_len]; omega) | (simp only [List.length_replicate, sI_len]; omega) | (simp only [List.length_append, List.length_cons, List.length_nil, sI_len, cond_true, cond_false]; omega) | (simp only [List.length_append, List.length_cons, List.length_nil, sI_len, cond_eq_ite, apply_ite List.length]; split <;> simp only [List.length_append, List.length_cons, List.length_nil, sI_len] <;> omega) | grind))), (by rw [hX88]; exact (show i5 ≤ (((ap).length / 2 : Nat) : Int) from (by first | omega | (simp only [sS_len, sL_len]; omega) | (simp only [List.length_replicate, sI_len]; omega) | (simp only [List.length_append, List.length_cons, List.length_nil, sI_len, cond_true, cond_false]; omega) | (simp only [List.length_append, List.length_cons, List.length_nil, sI_len, cond_eq_ite, apply_ite List.length]; split <;> simp only [List.length_append, List.length_cons, List.length_nil, sI_len] <;> omega) | grind))), (by rw [hX88]; exact (hE87.sub (L' := [(0, .slice apA ((ap).length / 2 : Nat) apC), (1, .int .i64 k1), (5, .int .i64 i5)]) ⟨rfl, rfl, rfl, trivial⟩)), (by rw [hX88]; exact (St.pickT (Γ := [.own 94 2 apA ((ap).length / 2 : Nat) apC a0]) (Γ' := [.own 94 2 apA ((ap).length / 2 : Nat) apC a0]) (Γ0 := Γ0) hS11 [0] (by decide) rfl rfl))⟩
  ·
   rintro a89 w90 ⟨hi94, hi95, hi96, hi97, hE91, hS92⟩; clear hE6 hS0
   refine p_tn ?_
   refine c_seq ?_
   refine c_reg ?_
   refine q_step (v := .int .i64 ((F_l_markNodeS_L1 ap (Int.toNat ((((ap).length / 2 : Nat) : Int) - 0) + 1) kp 0 ap).1)) hE91 (y_move rfl) rfl rfl rfl ?_; intro a98 hE99; clear hE91
   refine q_step (v := .int .i64 ((F_l_markNodeS_L1 ap (Int.toNat ((((ap).length / 2 : Nat) : Int) - 0) + 1) kp 0 ap).1)) hE99 (y_assign rfl) rfl rfl rfl ?_; intro a100 hE101; clear hE99
   refine c_nil ?_
   have hE102 := hE101.sub (L' := [(4, .int .i64 ((F_l_markNodeS_L1 ap (Int.toNat ((((ap).length / 2 : Nat) : Int) - 0) + 1) kp 0 ap).1))]) ⟨rfl, trivial⟩; clear hE101
   refine p_tn ?_
   refine wp_ret ?_
   have hF : F_l_markNodeS ap kp = ((F_l_markNodeS_L1 ap (Int.toNat ((((ap).length / 2 : Nat) : Int) - 0) + 1) kp 0 ap).1, (F_l_markNodeS_L1 ap (Int.toNat ((((ap).length / 2 : Nat) : Int) - 0) + 1) kp 0 ap).2.2) := by unfold F_l_markNodeS; rfl
   refine c_ret1 hE102 rfl rfl ?_
   have hS9 := (St.pickT (Γ := [.own 94 2 apA ((ap).length / 2 : Nat) apC ((F_l_markNodeS_L1 ap (Int.toNat ((((ap).length / 2 : Nat) : Int) - 0) + 1) kp 0 ap).2.2)]) (Γ' := [.own 94 2 apA ((ap).length / 2 : Nat) apC ((F_l_markNodeS_L1 ap (Int.toNat ((((ap).length / 2 : Nat) : Int) - 0) + 1) kp 0 ap).2.2)]) (Γ0 := Γ0) hS92 [0] (by decide) rfl rfl)
   exact ⟨(by rw [hF]), (by rw [hF]; (try dsimp only); exact hS9)⟩

def F_l_heldNodeS_L1b (ap : List Int) (rec : Int → Int → Except (Int) (Int × Int)) (k1 : Int) (i5 : Int) : Except (Int) (Int × Int) :=
  bif (decide (i5 < (((ap).length / 2 : Nat) : Int))) then (bif (!decide ((gS 2 0 ap i5) = k1)) then (.error (-1)) else (bif (!decide ((gS 2 1 ap i5) = (k1 + 1))) then (.error (-1)) else (rec ((k1 + 1) + 1) (i5 + 1)))) else (.ok (k1, i5))
def F_l_heldNodeS_L1 (ap : List Int) : Nat → Int → Int → Except (Int) (Int × Int)
  | 0, k1, i5 => .ok (k1, i5)
  | r + 1, k1, i5 => F_l_heldNodeS_L1b ap (F_l_heldNodeS_L1 ap r) k1 i5
def F_l_heldNodeS (ap : List Int) (kp : Int) : Int :=
  bif (isOk (F_l_heldNodeS_L1 ap (Int.toNat ((((ap).length / 2 : Nat) : Int) - 0) + 1) kp 0)) then ((okD (F_l_heldNodeS_L1 ap (Int.toNat ((((ap).length / 2 : Nat) : Int) - 0) + 1) kp 0)).1) else (errD (F_l_heldNodeS_L1 ap (Int.toNat ((((ap).length / 2 : Nat) : Int) - 0) + 1) kp 0))
theorem cf_l_heldNodeS (args : Array Value) (w : World) : (callFunc 30 args).run Try.prog w = .ok (.enter 30 args) w := by kernel_rfl
set_option maxRecDepth 100000 in
theorem c_l_heldNodeS (apA : Option Addr) (apN apC : Nat) (ap : List Int) (kp : Int) (w : World) (apR : RdS w 2 apA apN apC ap) (h0 : 0 ≤ kp) (h1 : kp ≤ 1000000000) (hl : ap.length ≤ 4194304) :
    Calls Try.prog 30 #[.slice apA apN apC, .int .i64 kp] w (Ret fun v w' => v = .int .i64 (F_l_heldNodeS ap kp) ∧ Ext w w') := by
  obtain rfl : apN = ap.length / 2 := (apR.lenD (by decide)).symm
  have apEv := apR.ev (by decide)
  have apLe := apR.le
  have hS := St.nil w
  have hS1 := St.rd0 hS rfl apR; clear hS
  refine enter (args := [.slice apA ((ap).length / 2 : Nat) apC, .int .i64 kp]) Try.func30 rfl rfl ?_
  rw [Try.ntmps30]; intro a hE
  have hE := hE.sub (L' := [(0, .slice apA ((ap).length / 2 : Nat) apC), (1, .int .i64 kp)]) ⟨rfl, rfl, trivial⟩
  refine c_seq ?_
  refine c_reg ?_
  refine q_step (v := .int .i64 0) hE (y_assign rfl) rfl rfl rfl ?_; intro a2 hE3; clear hE
  refine c_nil ?_
  have hE4 := hE3.sub (L' := [(0, .slice apA ((ap).length / 2 : Nat) apC), (1, .int .i64 kp)]) ⟨rfl, rfl, trivial⟩; clear hE3
  refine p_tn ?_
  refine c_seq ?_
  refine c_seq ?_
  refine c_reg ?_
  refine q_step (v := .int .i64 0) hE4 (y_assign rfl) rfl rfl rfl ?_; intro a5 hE6; clear hE4
  refine c_nil ?_
  have hE7 := hE6.sub (L' := [(0, .slice apA ((ap).length / 2 : Nat) apC), (1, .int .i64 kp), (5, .int .i64 0)]) ⟨rfl, rfl, rfl, trivial⟩; clear hE6
  refine p_tn ?_
  refine c_cut1 (fun a' w' => isOk (F_l_heldNodeS_L1 ap (Int.toNat ((((ap).length / 2 : Nat) : Int) - 0) + 1) kp 0) = true ∧ (0 ≤ ((okD (F_l_heldNodeS_L1 ap (Int.toNat ((((ap).length / 2 : Nat) : Int) - 0) + 1) kp 0)).2)) ∧ (((okD (F_l_heldNodeS_L1 ap (Int.toNat ((((ap).length / 2 : Nat) : Int) - 0) + 1) kp 0)).1) = kp + 2 * ((okD (F_l_heldNodeS_L1 ap (Int.toNat ((((ap).length / 2 : Nat) : Int) - 0) + 1) kp 0)).2)) ∧ (((okD (F_l_heldNodeS_L1 ap (Int.toNat ((((ap).length / 2 : Nat) : Int) - 0) + 1) kp 0)).2) ≤ (((ap).length / 2 : Nat) : Int)) ∧ E a' 31 [(0, .slice apA ((ap).length / 2 : Nat) apC), (1, .int .i64 ((okD (F_l_heldNodeS_L1 ap (Int.toNat ((((ap).length / 2 : Nat) : Int) - 0) + 1) kp 0)).1)), (5, .int .i64 ((okD (F_l_heldNodeS_L1 ap (Int.toNat ((((ap).length / 2 : Nat) : Int) - 0) + 1) kp 0)).2))] ∧ St w w' [.rd 2 apA ((ap).length / 2 : Nat) apC ap]) ?_ ?_
  ·
   refine wp_block ?_
   refine c_loop (fun r a' w' => ∃ k1 : Int, ∃ i5 : Int, F_l_heldNodeS_L1 ap r k1 i5 = F_l_heldNodeS_L1 ap (Int.toNat ((((ap).length / 2 : Nat) : Int) - 0) + 1) kp 0 ∧ Int.toNat ((((ap).length / 2 : Nat) : Int) - i5) < r ∧ (0 ≤ i5) ∧ (k1 = kp + 2 * i5) ∧ (i5 ≤ (((ap).length / 2 : Nat) : Int)) ∧ E a' 31 [(0, .slice apA ((ap).length / 2 : Nat) apC), (1, .int .i64 k1), (5, .int .i64 i5)] ∧ St w w' [.rd 2 apA ((ap).length / 2 : Nat) apC ap]) (r := (Int.toNat ((((ap).length / 2 : Nat) : Int) - 0) + 1)) ?_ ?_
   · exact ⟨kp, 0, rfl, Nat.lt_succ_self _, (by first | omega | (simp only [sS_len, sL_len]; omega) | (simp only [List.length_replicate, sI_len]; omega) | (simp only [List.length_append, List.length_cons, List.length_nil, sI_len, cond_true, cond_false]; omega) | (simp only [List.length_append, List.length_cons, List.length_nil, sI_len, cond_eq_ite, apply_ite List.length]; split <;> simp only [List.length_append, List.length_cons, List.length_nil, sI_len] <;> omega) | grind), (by first | omega | (simp only [sS_len, sL_len]; omega) | (simp only [List.length_replicate, sI_len]; omega) | (simp only [List.length_append, List.length_cons, List.length_nil, sI_len, cond_true, cond_false]; omega) | (simp only [List.length_append, List.length_cons, List.length_nil, sI_len, cond_eq_ite, apply_ite List.length]; split <;> simp only [List.length_append, List.length_cons, List.length_nil, sI_len] <;> omega) | grind), (by first | omega | (simp only [sS_len, sL_len]; omega) | (simp only [List.length_replicate, sI_len]; omega) | (simp only [List.length_append, List.length_cons, List.length_nil, sI_len, cond_true, cond_false]; omega) | (simp only [List.length_append, List.length_cons, List.length_nil, sI_len, cond_eq_ite, apply_ite List.length]; split <;> simp only [List.length_append, List.length_cons, List.length_nil, sI_len] <;> omega) | grind), (hE7.sub (L' := [(0, .slice apA ((ap).length / 2 : Nat) apC), (1, .int .i64 kp), (5, .int .i64 0)]) ⟨rfl, rfl, rfl, trivial⟩), (St.pick (Γ' := [.rd 2 apA ((ap).length / 2 : Nat) apC ap]) hS1 [0] (by decide) rfl)⟩
   ·
    clear hE7 hS1
    rintro r18 a9 w10 ⟨k1, i5, hT13, hr14, hi15, hi16, hi17, hE11, hS12⟩
    obtain ⟨r18, rfl⟩ : ∃ r', r18 = r' + 1 := ⟨r18 - 1, by omega⟩
    refine c_seq ?_
    refine c_seq ?_
    refine c_reg ?_
    refine q_step (v := .int .i64 i5) hE11 (y_move rfl) rfl rfl rfl ?_; intro a19 hE20; clear hE11
    refine q_step (v := .slice apA ((ap).length / 2 : Nat) apC) hE20 (y_move rfl) rfl rfl rfl ?_; intro a21 hE22; clear hE20
    refine q_step (v := .int .i64 (((ap).length / 2 : Nat) : Int)) hE22 (y_len (e := 94) (by kernel_rfl) rfl) rfl rfl rfl ?_; intro a23 hE24; clear hE22
    refine q_step (v := .bool (decide (i5 < (((ap).length / 2 : Nat) : Int)))) hE24 (y_lss rfl rfl) rfl rfl rfl ?_; intro a25 hE26; clear hE24
    refine c_nil ?_
    have hE27 := hE26.sub (L' := [(0, .slice apA ((ap).length / 2 : Nat) apC), (1, .int .i64 k1), (5, .int .i64 i5), (9, .bool (decide (i5 < (((ap).length / 2 : Nat) : Int))))]) ⟨rfl, rfl, rfl, rfl, trivial⟩; clear hE26
    refine p_tn ?_
    refine c_cond hE27 rfl (fun ht28 => ?_) (fun ht28 => ?_)
    ·
     have hp29 := of_decide_eq_true ht28
     have hE30 := hE27; rw [ht28] at hE30; clear hE27
     refine wp_skip ?_
     refine p_tn ?_
     refine c_seq ?_
     refine wp_block ?_
     refine c_seq ?_
     refine c_seq ?_
     refine c_reg ?_
     refine q_step (v := .slice apA ((ap).length / 2 : Nat) apC) hE30 (y_move rfl) rfl rfl rfl ?_; intro a31 hE32; clear hE30
     refine q_step (v := .int .i64 i5) hE32 (y_move rfl) rfl rfl rfl ?_; intro a33 hE34; clear hE32
     refine q_step (v := .pointer (some (adr apA (Int.toNat i5 * 2)))) hE34 (y_idx (by kernel_rfl) (fun _ => by kernel_rfl) rfl rfl (RdS.isS (m := i5) (St.rdR (i := 0) hS12 rfl) (by omega) (by omega)) (by omega) (by omega) rfl) rfl rfl rfl ?_; intro a35 hE36; clear hE34
     refine q_step (v := .pointer (some (adr apA ((Int.toNat i5 * 2) + 0)))) hE36 (y_fieldE (o := 0) (fun _ _ => by kernel_rfl) rfl) rfl rfl rfl ?_; intro a37 hE38; clear hE36
     refine q_step (v := .int .i64 (gS 2 0 ap i5)) hE38 (y_load (fun _ => by kernel_rfl) rfl (RdS.eltS (j := 0) (St.rdR (i := 0) hS12 rfl) (by omega) (by omega) (by decide))) rfl rfl rfl ?_; intro a39 hE40; clear hE38
     refine q_step (v := .int .i64 k1) hE40 (y_move rfl) rfl rfl rfl ?_; intro a41 hE42; clear hE40
     refine q_step (v := .bool (!decide ((gS 2 0 ap i5) = k1))) hE42 (y_neq rfl rfl) rfl rfl rfl ?_; intro a43 hE44; clear hE42
     refine c_nil ?_
     have hE45 := hE44.sub (L' := [(0, .slice apA ((ap).length / 2 : Nat) apC), (1, .int .i64 k1), (5, .int .i64 i5), (18, .bool (!decide ((gS 2 0 ap i5) = k1)))]) ⟨rfl, rfl, rfl, rfl, trivial⟩; clear hE44
     refine p_tn ?_
     refine c_cond hE45 rfl (fun ht46 => ?_) (fun ht46 => ?_)
     ·
      have ht47 := bn_t ht46
      have hp48 := of_decide_eq_false ht47
      have hE49 := hE45; rw [ht46] at hE49; clear hE45
      refine c_seq ?_
      refine c_reg ?_
      refine q_step (v := .int .i64 (-1)) hE49 (y_assign rfl) rfl rfl rfl ?_; intro a50 hE51; clear hE49
      refine c_nil ?_
      have hE52 := hE51.sub (L' := [(4, .int .i64 (-1))]) ⟨rfl, trivial⟩; clear hE51
      refine p_tn ?_
      refine wp_ret ?_
      refine p_tr ?_
      refine p_br ?_
      refine p_tr ?_
      have hX53 : F_l_heldNodeS_L1 ap (Int.toNat ((((ap).length / 2 : Nat) : Int) - 0) + 1) kp 0 = .error (-1) := hT13.symm.trans (show F_l_heldNodeS_L1b ap (F_l_heldNodeS_L1 ap r18) k1 i5 = .error (-1) by unfold F_l_heldNodeS_L1b; rw [ht46, ht28]; first | done | rfl)
      refine p_tr (p_br (p_tr ?_))
      refine p_tr ?_
      have hF : F_l_heldNodeS ap kp = -1 := by unfold F_l_heldNodeS; rw [hX53]; first | done | rfl
      refine c_ret1 hE52 rfl rfl ?_
      exact ⟨(by rw [hF]; first | done | (dsimp only; done) | rfl), hS12.ext⟩
     ·
      have ht54 := bn_f ht46
      have hp55 := of_decide_eq_true ht54
      have hE56 := hE45; rw [ht46] at hE56; clear hE45
      refine wp_skip ?_
      refine p_tn ?_
      refine c_seq ?_
      refine c_reg ?_
      refine q_step (v := .int .i64 k1) hE56 (y_move rfl) rfl rfl rfl ?_; intro a57 hE58; clear hE56
      refine q_step (v := .int .i64 (k1 + 1)) hE58 (y_add rfl rfl ⟨(by omega), (by omega)⟩) rfl rfl rfl ?_; intro a59 hE60; clear hE58
      refine q_step (v := .int .i64 (k1 + 1)) hE60 (y_assign rfl) rfl rfl rfl ?_; intro a61 hE62; clear hE60
      refine c_nil ?_
      have hE63 := hE62.sub (L' := [(0, .slice apA ((ap).length / 2 : Nat) apC), (1, .int .i64 (k1 + 1)), (5, .int .i64 i5)]) ⟨rfl, rfl, rfl, trivial⟩; clear hE62
      refine p_tn ?_
      refine c_seq ?_
      refine c_seq ?_
      refine c_reg ?_
      refine q_step (v := .slice apA ((ap).length / 2 : Nat) apC) hE63 (y_move rfl) rfl rfl rfl ?_; intro a64 hE65; clear hE63
      refine q_step (v := .int .i64 i5) hE65 (y_move rfl) rfl rfl rfl ?_; intro a66 hE67; clear hE65
      refine q_step (v := .pointer (some (adr apA (Int.toNat i5 * 2)))) hE67 (y_idx (by kernel_rfl) (fun _ => by kernel_rfl) rfl rfl (RdS.isS (m := i5) (St.rdR (i := 0) hS12 rfl) (by omega) (by omega)) (by omega) (by omega) rfl) rfl rfl rfl ?_; intro a68 hE69; clear hE67
      refine q_step (v := .pointer (some (adr apA ((Int.toNat i5 * 2) + 1)))) hE69 (y_fieldE (o := 1) (fun _ _ => by kernel_rfl) rfl) rfl rfl rfl ?_; intro a70 hE71; clear hE69
      refine q_step (v := .int .i64 (gS 2 1 ap i5)) hE71 (y_load (fun _ => by kernel_rfl) rfl (RdS.eltS (j := 1) (St.rdR (i := 0) hS12 rfl) (by omega) (by omega) (by decide))) rfl rfl rfl ?_; intro a72 hE73; clear hE71
      refine q_step (v := .int .i64 (k1 + 1)) hE73 (y_move rfl) rfl rfl rfl ?_; intro a74 hE75; clear hE73
      refine q_step (v := .bool (!decide ((gS 2 1 ap i5) = (k1 + 1)))) hE75 (y_neq rfl rfl) rfl rfl rfl ?_; intro a76 hE77; clear hE75
      refine c_nil ?_
      have hE78 := hE77.sub (L' := [(0, .slice apA ((ap).length / 2 : Nat) apC), (1, .int .i64 (k1 + 1)), (5, .int .i64 i5), (27, .bool (!decide ((gS 2 1 ap i5) = (k1 + 1))))]) ⟨rfl, rfl, rfl, rfl, trivial⟩; clear hE77
      refine p_tn ?_
      refine c_cond hE78 rfl (fun ht79 => ?_) (fun ht79 => ?_)
      ·
       have ht80 := bn_t ht79
       have hp81 := of_decide_eq_false ht80
       have hE82 := hE78; rw [ht79] at hE82; clear hE78
       refine c_seq ?_
       refine c_reg ?_
       refine q_step (v := .int .i64 (-1)) hE82 (y_assign rfl) rfl rfl rfl ?_; intro a83 hE84; clear hE82
       refine c_nil ?_
       have hE85 := hE84.sub (L' := [(4, .int .i64 (-1))]) ⟨rfl, trivial⟩; clear hE84
       refine p_tn ?_
       refine wp_ret ?_
       refine p_tr ?_
       refine p_br ?_
       refine p_tr ?_
       have hX86 : F_l_heldNodeS_L1 ap (Int.toNat ((((ap).length / 2 : Nat) : Int) - 0) + 1) kp 0 = .error (-1) := hT13.symm.trans (show F_l_heldNodeS_L1b ap (F_l_heldNodeS_L1 ap r18) k1 i5 = .error (-1) by unfold F_l_heldNodeS_L1b; rw [ht79, ht46, ht28]; first | done | rfl)
       refine p_tr (p_br (p_tr ?_))
       refine p_tr ?_
       have hF : F_l_heldNodeS ap kp = -1 := by unfold F_l_heldNodeS; rw [hX86]; first | done | rfl
       refine c_ret1 hE85 rfl rfl ?_
       exact ⟨(by rw [hF]; first | done | (dsimp only; done) | rfl), hS12.ext⟩
      ·
       have ht87 := bn_f ht79
       have hp88 := of_decide_eq_true ht87
       have hE89 := hE78; rw [ht79] at hE89; clear hE78
       refine wp_skip ?_
       refine p_tn ?_
       refine c_reg ?_
       refine q_step (v := .int .i64 (k1 + 1)) hE89 (y_move rfl) rfl rfl rfl ?_; intro a90 hE91; clear hE89
       refine q_step (v := .int .i64 ((k1 + 1) + 1)) hE91 (y_add rfl rfl ⟨(by omega), (by omega)⟩) rfl rfl rfl ?_; intro a92 hE93; clear hE91
       refine q_step (v := .int .i64 ((k1 + 1) + 1)) hE93 (y_assign rfl) rfl rfl rfl ?_; intro a94 hE95; clear hE93
       refine c_nil ?_
       have hE96 := hE95.sub (L' := [(0, .slice apA ((ap).length / 2 : Nat) apC), (1, .int .i64 ((k1 + 1) + 1)), (5, .int .i64 i5)]) ⟨rfl, rfl, rfl, trivial⟩; clear hE95
       refine p_bn ?_
       refine p_tn ?_
       refine c_reg ?_
       refine q_step (v := .int .i64 i5) hE96 (y_move rfl) rfl rfl rfl ?_; intro a97 hE98; clear hE96
       refine q_step (v := .int .i64 (i5 + 1)) hE98 (y_add rfl rfl ⟨(by omega), (by omega)⟩) rfl rfl rfl ?_; intro a99 hE100; clear hE98
       refine q_step (v := .int .i64 (i5 + 1)) hE100 (y_assign rfl) rfl rfl rfl ?_; intro a101 hE102; clear hE100
       refine c_nil ?_
       have hE103 := hE102.sub (L' := [(0, .slice apA ((ap).length / 2 : Nat) apC), (1, .int .i64 ((k1 + 1) + 1)), (5, .int .i64 (i5 + 1))]) ⟨rfl, rfl, rfl, trivial⟩; clear hE102
       refine p_tn ⟨r18, Nat.lt_succ_self _, (k1 + 1) + 1, i5 + 1, (hT13.symm.trans (show F_l_heldNodeS_L1b ap (F_l_heldNodeS_L1 ap r18) k1 i5 = F_l_heldNodeS_L1 ap r18 ((k1 + 1) + 1) (i5 + 1) by unfold F_l_heldNodeS_L1b; rw [ht79, ht46, ht28]; first | done | rfl)).symm, (by omega), (by first | omega | (simp only [sS_len, sL_len]; omega) | (simp only [List.length_replicate, sI_len]; omega) | (simp only [List.length_append, List.length_cons, List.length_nil, sI_len, cond_true, cond_false]; omega) | (simp only [List.length_append, List.length_cons, List.length_nil, sI_len, cond_eq_ite, apply_ite List.length]; split <;> simp only [List.length_append, List.length_cons, List.length_nil, sI_len] <;> omega) | grind), (by first | omega | (simp only [sS_len, sL_len]; omega) | (simp only [List.length_replicate, sI_len]; omega) | (simp only [List.length_append, List.length_cons, List.length_nil, sI_len, cond_true, cond_false]; omega) | (simp only [List.length_append, List.length_cons, List.length_nil, sI_len, cond_eq_ite, apply_ite List.length]; split <;> simp only [List.length_append, List.length_cons, List.length_nil, sI_len] <;> omega) | grind), (by first | omega | (simp only [sS_len, sL_len]; omega) | (simp only [List.length_replicate, sI_len]; omega) | (simp only [List.length_append, List.length_cons, List.length_nil, sI_len, cond_true, cond_false]; omega) | (simp only [List.length_append, List.length_cons, List.length_nil, sI_len, cond_eq_ite, apply_ite List.length]; split <;> simp only [List.length_append, List.length_cons, List.length_nil, sI_len] <;> omega) | grind), (hE103.sub (L' := [(0, .slice apA ((ap).length / 2 : Nat) apC), (1, .int .i64 ((k1 + 1) + 1)), (5, .int .i64 (i5 + 1))]) ⟨rfl, rfl, rfl, trivial⟩), (St.pick (Γ' := [.rd 2 apA ((ap).length / 2 : Nat) apC ap]) hS12 [0] (by decide) rfl)⟩
    ·
     have hp104 := of_decide_eq_false ht28
     have hE105 := hE27; rw [ht28] at hE105; clear hE27
     refine wp_exit ?_
     refine p_te ?_
     have hX106 : F_l_heldNodeS_L1 ap (Int.toNat ((((ap).length / 2 : Nat) : Int) - 0) + 1) kp 0 = .ok (k1, i5) := hT13.symm.trans (show F_l_heldNodeS_L1b ap (F_l_heldNodeS_L1 ap r18) k1 i5 = .ok (k1, i5) by unfold F_l_heldNodeS_L1b; rw [ht28]; first | done | rfl)
     refine p_te (p_be (p_tn ?_))
     exact ⟨(by rw [hX106]; rfl), (by rw [hX106]; exact (show 0 ≤ i5 from (by first | omega | (simp only [sS_len, sL_len]; omega) | (simp only [List.length_replicate, sI_len]; omega) | (simp only [List.length_append, List.length_cons, List.length_nil, sI_len, cond_true, cond_false]; omega) | (simp only [List.length_append, List.length_cons, List.length_nil, sI_len, cond_eq_ite, apply_ite List.length]; split <;> simp only [List.length_append, List.length_cons, List.length_nil, sI_len] <;> omega) | grind))), (by rw [hX106]; exact (show k1 = kp + 2 * i5 from (by first | omega | (simp only [sS_len, sL_len]; omega) | (simp only [List.length_replicate, sI_len]; omega) | (simp only [List.length_append, List.length_cons, List.length_nil, sI_len, cond_true, cond_false]; omega) | (simp only [List.length_append, List.length_cons, List.length_nil, sI_len, cond_eq_ite, apply_ite List.length]; split <;> simp only [List.length_append, List.length_cons, List.length_nil, sI_len] <;> omega) | grind))), (by rw [hX106]; exact (show i5 ≤ (((ap).length / 2 : Nat) : Int) from (by first | omega | (simp only [sS_len, sL_len]; omega) | (simp only [List.length_replicate, sI_len]; omega) | (simp only [List.length_append, List.length_cons, List.length_nil, sI_len, cond_true, cond_false]; omega) | (simp only [List.length_append, List.length_cons, List.length_nil, sI_len, cond_eq_ite, apply_ite List.length]; split <;> simp only [List.length_append, List.length_cons, List.length_nil, sI_len] <;> omega) | grind))), (by rw [hX106]; exact (hE105.sub (L' := [(0, .slice apA ((ap).length / 2 : Nat) apC), (1, .int .i64 k1), (5, .int .i64 i5)]) ⟨rfl, rfl, rfl, trivial⟩)), (St.pick (Γ' := [.rd 2 apA ((ap).length / 2 : Nat) apC ap]) hS12 [0] (by decide) rfl)⟩
  ·
   rintro a107 w108 ⟨hO111, hi112, hi113, hi114, hE109, hS110⟩; clear hE7 hS1
   refine p_tn ?_
   refine c_seq ?_
   refine c_reg ?_
   refine q_step (v := .int .i64 ((okD (F_l_heldNodeS_L1 ap (Int.toNat ((((ap).length / 2 : Nat) : Int) - 0) + 1) kp 0)).1)) hE109 (y_move rfl) rfl rfl rfl ?_; intro a115 hE116; clear hE109
   refine q_step (v := .int .i64 ((okD (F_l_heldNodeS_L1 ap (Int.toNat ((((ap).length / 2 : Nat) : Int) - 0) + 1) kp 0)).1)) hE116 (y_assign rfl) rfl rfl rfl ?_; intro a117 hE118; clear hE116
   refine c_nil ?_
   have hE119 := hE118.sub (L' := [(4, .int .i64 ((okD (F_l_heldNodeS_L1 ap (Int.toNat ((((ap).length / 2 : Nat) : Int) - 0) + 1) kp 0)).1))]) ⟨rfl, trivial⟩; clear hE118
   refine p_tn ?_
   refine wp_ret ?_
   have hF : F_l_heldNodeS ap kp = (okD (F_l_heldNodeS_L1 ap (Int.toNat ((((ap).length / 2 : Nat) : Int) - 0) + 1) kp 0)).1 := by unfold F_l_heldNodeS; rw [hO111]; first | done | rfl
   refine c_ret1 hE119 rfl rfl ?_
   exact ⟨(by rw [hF]; first | done | (dsimp only; done) | rfl), hS110.ext⟩

theorem szNodeS_bound {ap : List Int} {left : Int} (h : ¬ F_l_szNodeS ap left < 0) : ((ap.length / 2 : Nat) : Int) ≤ left ∧ 0 ≤ F_l_szNodeS ap left ∧ F_l_szNodeS ap left ≤ left := by
  unfold F_l_szNodeS at *
  by_cases h1 : left - ((ap.length / 2 : Nat) : Int) < 0
  · rw [decide_eq_true h1] at h; exact absurd (show (-1 : Int) < 0 by decide) h
  · rw [decide_eq_false h1] at *; simp only [cond_false] at *; omega
theorem markNodeS_key (ap : List Int) (kp : Int) (he : ap.length = ap.length / 2 * 2) : ∀ (k : Nat) (k1 i : Int) (xs : List Int), 0 ≤ i → ((ap.length / 2 : Nat) : Int) - i = k → xs.length = ap.length → k1 = kp + 2 * i → (∀ j : Nat, (j : Int) < 2 * i → gi xs j = kp + j) →
    ∃ i', F_l_markNodeS_L1 ap (k + 1) k1 i xs = (kp + ap.length, i', marked ap.length kp) := by
  intro k
  induction k with
  | zero =>
    intro k1 i xs h0 hk hl h1 hp
    refine ⟨i, ?_⟩
    show F_l_markNodeS_L1b ap _ k1 i xs = _
    unfold F_l_markNodeS_L1b
    rw [decide_eq_false (by omega)]
    have : xs = marked ap.length kp := ext_gi (by rw [marked_len, hl]) fun j hj => by rw [gi_marked (by omega)]; exact hp j (by omega)
    rw [← this, show k1 = kp + ap.length by omega]; rfl
  | succ k ih =>
    intro k1 i xs h0 hk hl h1 hp
    obtain ⟨i', h'⟩ := ih (k1 + 1 + 1) (i + 1) (sS 2 1 (sS 2 0 xs i k1) i (k1 + 1)) (by omega) (by omega) (by rw [sS_len, sS_len]; exact hl) (by omega) fun j hj => by
      rw [gi_sS (by rw [sS_len]; omega), gi_sS (by omega)]
      by_cases e : i.toNat * 2 + 1 = j
      · rw [if_pos e]; omega
      · rw [if_neg e]
        by_cases e' : i.toNat * 2 + 0 = j
        · rw [if_pos e']; omega
        · rw [if_neg e']; exact hp j (by omega)
    refine ⟨i', ?_⟩
    show F_l_markNodeS_L1b ap _ k1 i xs = _
    unfold F_l_markNodeS_L1b
    rw [decide_eq_true (by omega)]
    exact h'
theorem markNodeS_eq (ap : List Int) (kp : Int) (he : ap.length = ap.length / 2 * 2) : F_l_markNodeS ap kp = (kp + ap.length, marked ap.length kp) := by
  unfold F_l_markNodeS
  have e : Int.toNat (((ap.length / 2 : Nat) : Int) - 0) = ap.length / 2 := by omega
  rw [e]
  obtain ⟨i', h⟩ := markNodeS_key ap kp he (ap.length / 2) kp 0 ap (by omega) (by omega) rfl (by omega) fun j hj => by omega
  rw [h]
theorem d_l_markNodeS (apA : Option Addr) (apN apC : Nat) (ap : List Int) (kp : Int) (w : World) (w0v : World) (Γ0 : List Ent) (hS0 : St w0v w (.own 94 2 apA apN apC ap :: Γ0)) (h0 : 0 ≤ kp) (h1 : kp ≤ 1000000000) (hl : ap.length ≤ 4194304) :
    Calls Try.prog 29 #[.slice apA apN apC, .int .i64 kp] w (Ret fun v w' => v = .int .i64 (kp + ap.length) ∧ St w0v w' (.own 94 2 apA apN apC (marked ap.length kp) :: Γ0)) := by
  have := c_l_markNodeS apA apN apC ap kp w w0v Γ0 hS0 h0 h1 hl
  rwa [markNodeS_eq ap kp ((St.rdO (i := 0) hS0 rfl).ev (by decide))] at this
theorem heldNodeS_key (n : Nat) (kp : Int) (he : n = n / 2 * 2) : ∀ (k : Nat) (k1 i : Int), 0 ≤ i → ((n / 2 : Nat) : Int) - i = k → k1 = kp + 2 * i →
    ∃ i', F_l_heldNodeS_L1 (marked n kp) (k + 1) k1 i = .ok (kp + n, i') := by
  intro k
  induction k with
  | zero =>
    intro k1 i h0 hk h1
    refine ⟨i, ?_⟩
    show F_l_heldNodeS_L1b _ _ k1 i = _
    unfold F_l_heldNodeS_L1b
    rw [marked_len, decide_eq_false (by omega), show k1 = kp + n by omega]; rfl
  | succ k ih =>
    intro k1 i h0 hk h1
    obtain ⟨i', h'⟩ := ih (k1 + 1 + 1) (i + 1) (by omega) (by omega) (by omega)
    refine ⟨i', ?_⟩
    show F_l_heldNodeS_L1b _ _ k1 i = _
    unfold F_l_heldNodeS_L1b
    have hg : gS 2 0 (marked n kp) i = k1 := by unfold gS; rw [gi_marked (by omega)]; omega
    have hg1 : gS 2 1 (marked n kp) i = k1 + 1 := by unfold gS; rw [gi_marked (by omega)]; omega
    rw [marked_len, decide_eq_true (by omega), decide_eq_true hg, decide_eq_true hg1]
    exact h'
theorem heldNodeS_eq (n : Nat) (kp : Int) (he : n = n / 2 * 2) : F_l_heldNodeS (marked n kp) kp = kp + n := by
  unfold F_l_heldNodeS
  have e : Int.toNat ((((marked n kp).length / 2 : Nat) : Int) - 0) = n / 2 := by rw [marked_len]; omega
  rw [e]
  obtain ⟨i', h⟩ := heldNodeS_key n kp he (n / 2) kp 0 (by omega) (by omega) (by omega)
  rw [h]; rfl


end Go.Proofs.Ytkilkfhjfobcdaa
