/- GHI0: models and contracts, printed by wip/gen/gen.py -/
import Derived.Test.YtkilkfhjfobcdaaKCHGFG
import Derived.Test.YtkilkfhjfobcdaaKCHGHA0
set_option linter.unusedVariables false
set_option linter.unusedSimpArgs false
namespace Go.Proofs.Ytkilkfhjfobcdaa
open Go.RowKit
def F_greatest_L1b (mask : Int) (below : List Int) (rec : Int → Except ((Int) × (Bool)) (Int)) (t11 : Int) : Except ((Int) × (Bool)) (Int) :=
  bif (decide (t11 < ((F_membersOf mask).length : Int))) then (bif (F_within mask (gI below (gI (F_membersOf mask) t11))) then (.error (gI (F_membersOf mask) t11, true)) else (rec (t11 + 1))) else (.ok t11)
def F_greatest_L1 (mask : Int) (below : List Int) : Nat → Int → Except ((Int) × (Bool)) (Int)
  | 0, t11 => .ok t11
  | r + 1, t11 => F_greatest_L1b mask below (F_greatest_L1 mask below r) t11
def F_greatest (mask : Int) (below : List Int) : (Int) × (Bool) :=
  bif (isOk (F_greatest_L1 mask below (Int.toNat (((F_membersOf mask).length : Int) - 0) + 1) 0)) then (0, false) else (errD (F_greatest_L1 mask below (Int.toNat (((F_membersOf mask).length : Int) - 0) + 1) 0))
theorem cf_greatest (args : Array Value) (w : World) : (callFunc 189 args).run Try.prog w = .ok (.enter 189 args) w := by kernel_rfl
set_option maxRecDepth 100000 in
theorem c_greatest (mask : Int) (belowA : Option Addr) (belowN belowC : Nat) (below : List Int) (w : World) (belowR : RdS w 1 belowA belowN belowC below) (h0 : 0 ≤ mask) (h1 : mask ≤ fullI (below.length : Int)) (hl : below.length ≤ 30) :
    Calls Try.prog 189 #[.int .i64 mask, .slice belowA belowN belowC] w (Ret fun v w' => v = .tuple #[.int .i64 ((F_greatest mask below).1), .bool ((F_greatest mask below).2)] ∧ Ext w w') := by
  obtain rfl : belowN = below.length := belowR.len1.symm
  have belowLe := belowR.le
  have hfb := fullI_bd (n := (below.length : Int)) (by omega) (by omega)
  have hml := members_len (mask := mask) (n := below.length) (by omega) h0 h1
  have hS := St.nil w
  have hS1 := St.rd0 hS rfl belowR; clear hS
  refine enter (args := [.int .i64 mask, .slice belowA below.length belowC]) Try.func189 rfl rfl ?_
  rw [Try.ntmps189]; intro a hE
  have hE := hE.sub (L' := [(0, .int .i64 mask), (1, .slice belowA below.length belowC)]) ⟨rfl, rfl, trivial⟩
  refine c_seq ?_
  refine c_reg ?_
  refine q_step (v := .int .i64 0) hE (y_assign rfl) rfl rfl rfl ?_; intro a2 hE3; clear hE
  refine q_step (v := .bool false) hE3 (y_assign rfl) rfl rfl rfl ?_; intro a4 hE5; clear hE3
  refine c_nil ?_
  have hE6 := hE5.sub (L' := [(0, .int .i64 mask), (1, .slice belowA below.length belowC)]) ⟨rfl, rfl, trivial⟩; clear hE5
  refine p_tn ?_
  refine c_seq ?_
  refine c_seq ?_
  refine c_reg ?_
  refine q_step (v := .int .i64 mask) hE6 (y_move rfl) rfl rfl rfl ?_; intro a7 hE8; clear hE6
  refine l_step hE8 rfl (l_call (f := 194) (argv := [.int .i64 mask]) hE8 (fun _ => cf_membersOf _ _) rfl rfl (c_membersOf mask w (by omega) (by omega)) ?_)
  rintro _ w10 ⟨b15, c16, rfl, ho17, he14⟩ a11 hE12; clear hE8
  have hS13 := St.own hS1 he14 ho17; clear hS1
  refine q_step (v := .int .i64 ((F_membersOf mask).length : Int)) hE12 (y_len (e := 2) (by kernel_rfl) rfl) rfl rfl rfl ?_; intro a18 hE19; clear hE12
  refine q_step (v := .int .i64 0) hE19 (y_move rfl) rfl rfl rfl ?_; intro a20 hE21; clear hE19
  refine c_nil ?_
  have hE22 := hE21.sub (L' := [(0, .int .i64 mask), (1, .slice belowA below.length belowC), (9, .slice b15 ((F_membersOf mask).length) c16), (10, .int .i64 ((F_membersOf mask).length : Int)), (11, .int .i64 0)]) ⟨rfl, rfl, rfl, rfl, rfl, trivial⟩; clear hE21
  refine p_tn ?_
  refine c_cut1 (fun a' w' => isOk (F_greatest_L1 mask below (Int.toNat (((F_membersOf mask).length : Int) - 0) + 1) 0) = true ∧ (0 ≤ (okD (F_greatest_L1 mask below (Int.toNat (((F_membersOf mask).length : Int) - 0) + 1) 0))) ∧ ((okD (F_greatest_L1 mask below (Int.toNat (((F_membersOf mask).length : Int) - 0) + 1) 0)) ≤ ((F_membersOf mask).length : Int)) ∧ E a' 23 [(0, .int .i64 mask), (1, .slice belowA below.length belowC), (9, .slice b15 ((F_membersOf mask).length) c16), (10, .int .i64 ((F_membersOf mask).length : Int)), (11, .int .i64 (okD (F_greatest_L1 mask below (Int.toNat (((F_membersOf mask).length : Int) - 0) + 1) 0)))] ∧ St w w' [.own 2 1 b15 ((F_membersOf mask).length) c16 (F_membersOf mask), .rd 1 belowA below.length belowC below]) ?_ ?_
  ·
   refine wp_block ?_
   refine c_loop (fun r a' w' => ∃ t11 : Int, F_greatest_L1 mask below r t11 = F_greatest_L1 mask below (Int.toNat (((F_membersOf mask).length : Int) - 0) + 1) 0 ∧ Int.toNat (((F_membersOf mask).length : Int) - t11) < r ∧ (0 ≤ t11) ∧ (t11 ≤ ((F_membersOf mask).length : Int)) ∧ E a' 23 [(0, .int .i64 mask), (1, .slice belowA below.length belowC), (9, .slice b15 ((F_membersOf mask).length) c16), (10, .int .i64 ((F_membersOf mask).length : Int)), (11, .int .i64 t11)] ∧ St w w' [.own 2 1 b15 ((F_membersOf mask).length) c16 (F_membersOf mask), .rd 1 belowA below.length belowC below]) (r := (Int.toNat (((F_membersOf mask).length : Int) - 0) + 1)) ?_ ?_
   · exact ⟨0, rfl, Nat.lt_succ_self _, (by first | omega | (simp only [sS_len, sL_len]; omega) | (simp only [List.length_replicate, sI_len]; omega) | (simp only [List.length_append, List.length_cons, List.length_nil, sI_len, cond_true, cond_false]; omega) | (simp only [List.length_append, List.length_cons, List.length_nil, sI_len, cond_eq_ite, apply_ite List.length]; split <;> simp only [List.length_append, List.length_cons, List.length_nil, sI_len] <;> omega) | grind), (by first | omega | (simp only [sS_len, sL_len]; omega) | (simp only [List.length_replicate, sI_len]; omega) | (simp only [List.length_append, List.length_cons, List.length_nil, sI_len, cond_true, cond_false]; omega) | (simp only [List.length_append, List.length_cons, List.length_nil, sI_len, cond_eq_ite, apply_ite List.length]; split <;> simp only [List.length_append, List.length_cons, List.length_nil, sI_len] <;> omega) | grind), (hE22.sub (L' := [(0, .int .i64 mask), (1, .slice belowA below.length belowC), (9, .slice b15 ((F_membersOf mask).length) c16), (10, .int .i64 ((F_membersOf mask).length : Int)), (11, .int .i64 0)]) ⟨rfl, rfl, rfl, rfl, rfl, trivial⟩), (St.pick (Γ' := [.own 2 1 b15 ((F_membersOf mask).length) c16 (F_membersOf mask), .rd 1 belowA below.length belowC below]) hS13 [0, 1] (by decide) rfl)⟩
   ·
    clear hE22 hS13
    rintro r32 a24 w25 ⟨t11, hT28, hr29, hi30, hi31, hE26, hS27⟩
    obtain ⟨r32, rfl⟩ : ∃ r', r32 = r' + 1 := ⟨r32 - 1, by omega⟩
    refine c_seq ?_
    refine c_reg ?_
    refine q_step (v := .bool (decide (t11 < ((F_membersOf mask).length : Int)))) hE26 (y_lss rfl rfl) rfl rfl rfl ?_; intro a33 hE34; clear hE26
    refine c_nil ?_
    have hE35 := hE34.sub (L' := [(0, .int .i64 mask), (1, .slice belowA below.length belowC), (9, .slice b15 ((F_membersOf mask).length) c16), (10, .int .i64 ((F_membersOf mask).length : Int)), (11, .int .i64 t11), (12, .bool (decide (t11 < ((F_membersOf mask).length : Int))))]) ⟨rfl, rfl, rfl, rfl, rfl, rfl, trivial⟩; clear hE34
    refine p_tn ?_
    refine c_seq ?_
    refine c_cond hE35 rfl (fun ht36 => ?_) (fun ht36 => ?_)
    ·
     have hp37 := of_decide_eq_true ht36
     have hE38 := hE35; rw [ht36] at hE38; clear hE35
     have hm1 := members_lt (mask := mask) (n := below.length) (by omega) h0 h1 t11 (by omega) (by omega)
     refine wp_skip ?_
     refine p_tn ?_
     refine c_seq ?_
     refine wp_block ?_
     refine c_seq ?_
     refine c_reg ?_
     refine q_step (v := .pointer (some (adr b15 (Int.toNat t11)))) hE38 (y_idx (by kernel_rfl) (fun _ => by kernel_rfl) rfl rfl (RdS.isS (m := t11) (St.rdO (i := 0) hS27 rfl) (by omega) (by omega)) (by omega) (by omega) (Nat.mul_one _).symm) rfl rfl rfl ?_; intro a39 hE40; clear hE38
     refine q_step (v := .int .i64 (gI (F_membersOf mask) t11)) hE40 (y_load (fun _ => by kernel_rfl) rfl (RdS.elt (St.rdO (i := 0) hS27 rfl) (by omega) (by omega))) rfl rfl rfl ?_; intro a41 hE42; clear hE40
     refine q_step (v := .int .i64 (gI (F_membersOf mask) t11)) hE42 (y_assign rfl) rfl rfl rfl ?_; intro a43 hE44; clear hE42
     refine c_nil ?_
     have hE45 := hE44.sub (L' := [(0, .int .i64 mask), (1, .slice belowA below.length belowC), (7, .int .i64 (gI (F_membersOf mask) t11)), (9, .slice b15 ((F_membersOf mask).length) c16), (10, .int .i64 ((F_membersOf mask).length : Int)), (11, .int .i64 t11)]) ⟨rfl, rfl, rfl, rfl, rfl, rfl, trivial⟩; clear hE44
     refine p_tn ?_
     refine c_seq ?_
     refine c_reg ?_
     refine q_step (v := .int .i64 mask) hE45 (y_move rfl) rfl rfl rfl ?_; intro a46 hE47; clear hE45
     refine q_step (v := .slice belowA below.length belowC) hE47 (y_move rfl) rfl rfl rfl ?_; intro a48 hE49; clear hE47
     refine q_step (v := .int .i64 (gI (F_membersOf mask) t11)) hE49 (y_move rfl) rfl rfl rfl ?_; intro a50 hE51; clear hE49
     refine q_step (v := .pointer (some (adr belowA (Int.toNat (gI (F_membersOf mask) t11))))) hE51 (y_idx (by kernel_rfl) (fun _ => by kernel_rfl) rfl rfl (RdS.isS (m := gI (F_membersOf mask) t11) (St.rdR (i := 1) hS27 rfl) (by omega) (by omega)) (by omega) (by omega) (Nat.mul_one _).symm) rfl rfl rfl ?_; intro a52 hE53; clear hE51
     refine q_step (v := .int .i64 (gI below (gI (F_membersOf mask) t11))) hE53 (y_load (fun _ => by kernel_rfl) rfl (RdS.elt (St.rdR (i := 1) hS27 rfl) (by omega) (by omega))) rfl rfl rfl ?_; intro a54 hE55; clear hE53
     refine l_step hE55 rfl (l_call (f := 221) (argv := [.int .i64 mask, .int .i64 (gI below (gI (F_membersOf mask) t11))]) hE55 (fun _ => cf_within _ _) rfl rfl (c_within mask (gI below (gI (F_membersOf mask) t11)) w25) ?_)
     rintro _ _ ⟨rfl, rfl⟩ a58 hE59; clear hE55
     refine c_nil ?_
     have hE62 := hE59.sub (L' := [(0, .int .i64 mask), (1, .slice belowA below.length belowC), (7, .int .i64 (gI (F_membersOf mask) t11)), (9, .slice b15 ((F_membersOf mask).length) c16), (10, .int .i64 ((F_membersOf mask).length : Int)), (11, .int .i64 t11), (20, .bool (F_within mask (gI below (gI (F_membersOf mask) t11))))]) ⟨rfl, rfl, rfl, rfl, rfl, rfl, rfl, trivial⟩; clear hE59
     refine p_tn ?_
     refine c_cond hE62 rfl (fun ht63 => ?_) (fun ht63 => ?_)
     ·
      have hE64 := hE62; rw [ht63] at hE64; clear hE62
      refine c_seq ?_
      refine c_reg ?_
      refine q_step (v := .int .i64 (gI (F_membersOf mask) t11)) hE64 (y_move rfl) rfl rfl rfl ?_; intro a65 hE66; clear hE64
      refine q_step (v := .int .i64 (gI (F_membersOf mask) t11)) hE66 (y_assign rfl) rfl rfl rfl ?_; intro a67 hE68; clear hE66
      refine q_step (v := .bool true) hE68 (y_assign rfl) rfl rfl rfl ?_; intro a69 hE70; clear hE68
      refine c_nil ?_
      have hE71 := hE70.sub (L' := [(4, .int .i64 (gI (F_membersOf mask) t11)), (5, .bool true)]) ⟨rfl, rfl, trivial⟩; clear hE70
      refine p_tn ?_
      refine wp_ret ?_
      refine p_br ?_
      refine p_tr ?_
      have hX72 : F_greatest_L1 mask below (Int.toNat (((F_membersOf mask).length : Int) - 0) + 1) 0 = .error (gI (F_membersOf mask) t11, true) := hT28.symm.trans (show F_greatest_L1b mask below (F_greatest_L1 mask below r32) t11 = .error (gI (F_membersOf mask) t11, true) by unfold F_greatest_L1b; rw [ht63, ht36]; first | done | rfl)
      refine p_tr (p_br (p_tr ?_))
      refine p_tr ?_
      have hF : F_greatest mask below = (gI (F_membersOf mask) t11, true) := by unfold F_greatest; rw [hX72]; first | done | rfl
      refine c_ret2 hE71 rfl rfl rfl ?_
      exact ⟨(by rw [hF]; first | done | (dsimp only; done) | rfl), hS27.ext⟩
     ·
      have hE73 := hE62; rw [ht63] at hE73; clear hE62
      refine wp_skip ?_
      refine p_bn ?_
      refine p_tn ?_
      refine c_reg ?_
      refine q_step (v := .int .i64 (t11 + 1)) hE73 (y_add rfl rfl ⟨(by omega), (by omega)⟩) rfl rfl rfl ?_; intro a74 hE75; clear hE73
      refine q_step (v := .int .i64 (t11 + 1)) hE75 (y_move rfl) rfl rfl rfl ?_; intro a76 hE77; clear hE75
      refine c_nil ?_
      have hE78 := hE77.sub (L' := [(0, .int .i64 mask), (1, .slice belowA below.length belowC), (9, .slice b15 ((F_membersOf mask).length) c16), (10, .int .i64 ((F_membersOf mask).length : Int)), (11, .int .i64 (t11 + 1))]) ⟨rfl, rfl, rfl, rfl, rfl, trivial⟩; clear hE77
      refine p_tn ⟨r32, Nat.lt_succ_self _, t11 + 1, (hT28.symm.trans (show F_greatest_L1b mask below (F_greatest_L1 mask below r32) t11 = F_greatest_L1 mask below r32 (t11 + 1) by unfold F_greatest_L1b; rw [ht63, ht36]; first | done | rfl)).symm, (by omega), (by first | omega | (simp only [sS_len, sL_len]; omega) | (simp only [List.length_replicate, sI_len]; omega) | (simp only [List.length_append, List.length_cons, List.length_nil, sI_len, cond_true, cond_false]; omega) | (simp only [List.length_append, List.length_cons, List.length_nil, sI_len, cond_eq_ite, apply_ite List.length]; split <;> simp only [List.length_append, List.length_cons, List.length_nil, sI_len] <;> omega) | grind), (by first | omega | (simp only [sS_len, sL_len]; omega) | (simp only [List.length_replicate, sI_len]; omega) | (simp only [List.length_append, List.length_cons, List.length_nil, sI_len, cond_true, cond_false]; omega) | (simp only [List.length_append, List.length_cons, List.length_nil, sI_len, cond_eq_ite, apply_ite List.length]; split <;> simp only [List.length_append, List.length_cons, List.length_nil, sI_len] <;> omega) | grind), (hE78.sub (L' := [(0, .int .i64 mask), (1, .slice belowA below.length belowC), (9, .slice b15 ((F_membersOf mask).length) c16), (10, .int .i64 ((F_membersOf mask).length : Int)), (11, .int .i64 (t11 + 1))]) ⟨rfl, rfl, rfl, rfl, rfl, trivial⟩), (St.pick (Γ' := [.own 2 1 b15 ((F_membersOf mask).length) c16 (F_membersOf mask), .rd 1 belowA below.length belowC below]) hS27 [0, 1] (by decide) rfl)⟩
    ·
     have hp79 := of_decide_eq_false ht36
     have hE80 := hE35; rw [ht36] at hE80; clear hE35
     refine wp_exit ?_
     refine p_te ?_
     have hX81 : F_greatest_L1 mask below (Int.toNat (((F_membersOf mask).length : Int) - 0) + 1) 0 = .ok t11 := hT28.symm.trans (show F_greatest_L1b mask below (F_greatest_L1 mask below r32) t11 = .ok t11 by unfold F_greatest_L1b; rw [ht36]; first | done | rfl)
     refine p_te (p_be (p_tn ?_))
     exact ⟨(by rw [hX81]; rfl), (by rw [hX81]; exact (show 0 ≤ t11 from (by first | omega | (simp only [sS_len, sL_len]; omega) | (simp only [List.length_replicate, sI_len]; omega) | (simp only [List.length_append, List.length_cons, List.length_nil, sI_len, cond_true, cond_false]; omega) | (simp only [List.length_append, List.length_cons, List.length_nil, sI_len, cond_eq_ite, apply_ite List.length]; split <;> simp only [List.length_append, List.length_cons, List.length_nil, sI_len] <;> omega) | grind))), (by rw [hX81]; exact (show t11 ≤ ((F_membersOf mask).length : Int) from (by first | omega | (simp only [sS_len, sL_len]; omega) | (simp only [List.length_replicate, sI_len]; omega) | (simp only [List.length_append, List.length_cons, List.length_nil, sI_len, cond_true, cond_false]; omega) | (simp only [List.length_append, List.length_cons, List.length_nil, sI_len, cond_eq_ite, apply_ite List.length]; split <;> simp only [List.length_append, List.length_cons, List.length_nil, sI_len] <;> omega) | grind))), (by rw [hX81]; exact (hE80.sub (L' := [(0, .int .i64 mask), (1, .slice belowA below.length belowC), (9, .slice b15 ((F_membersOf mask).length) c16), (10, .int .i64 ((F_membersOf mask).length : Int)), (11, .int .i64 t11)]) ⟨rfl, rfl, rfl, rfl, rfl, trivial⟩)), (St.pick (Γ' := [.own 2 1 b15 ((F_membersOf mask).length) c16 (F_membersOf mask), .rd 1 belowA below.length belowC below]) hS27 [0, 1] (by decide) rfl)⟩
  ·
   rintro a82 w83 ⟨hO86, hi87, hi88, hE84, hS85⟩; clear hE22 hS13
   refine p_tn ?_
   refine c_seq ?_
   refine c_reg ?_
   refine q_step (v := .int .i64 0) hE84 (y_assign rfl) rfl rfl rfl ?_; intro a89 hE90; clear hE84
   refine q_step (v := .bool false) hE90 (y_assign rfl) rfl rfl rfl ?_; intro a91 hE92; clear hE90
   refine c_nil ?_
   have hE93 := hE92.sub (L' := [(4, .int .i64 0), (5, .bool false)]) ⟨rfl, rfl, trivial⟩; clear hE92
   refine p_tn ?_
   refine wp_ret ?_
   have hF : F_greatest mask below = (0, false) := by unfold F_greatest; rw [hO86]; first | done | rfl
   refine c_ret2 hE93 rfl rfl rfl ?_
   exact ⟨(by rw [hF]; first | done | (dsimp only; done) | rfl), hS85.ext⟩
theorem find_fm (p : Nat → Bool) (q : Int → Bool) : ∀ (l : List Nat), ((l.filter p).map (fun (j : Nat) => (j : Int))).find? q = (l.find? (fun (j : Nat) => p j && q (j : Int))).map (fun (j : Nat) => (j : Int)) := by
  intro l
  induction l with
  | nil => rfl
  | cons a l ih =>
    cases hp : p a
    · rw [List.filter_cons_of_neg (by rw [hp]; decide), ih, List.find?_cons, hp, Bool.false_and]
    · rw [List.filter_cons_of_pos hp, List.map_cons, List.find?_cons, List.find?_cons, hp, Bool.true_and]
      cases q (a : Int)
      · exact ih
      · rfl
theorem greatest_val {mask : Int} {below : List Int} (h0 : 0 ≤ mask) (h1 : mask ≤ fullI (below.length : Int)) (hl : below.length ≤ 30) : F_greatest mask below = (match (List.range below.length).find? (fun (j : Nat) => F_has mask (j : Int) && F_within mask (gI below (j : Int))) with | some j => ((j : Int), true) | none => (0, false)) := by
  unfold F_greatest
  rw [findL (F_greatest_L1 mask below) (fun x => (x, true)) (F_membersOf mask) (fun x => F_within mask (gI below x)) (fun r i => rfl)]
  have hm := members_eq (mask := mask) (n := below.length) (by omega) h0 h1
  have e : (F_membersOf mask).find? (fun x => F_within mask (gI below x)) = ((List.range below.length).find? (fun (j : Nat) => F_has mask (j : Int) && F_within mask (gI below (j : Int)))).map (fun (j : Nat) => (j : Int)) := by
    rw [hm, find_fm]
  rw [e]
  generalize (List.range below.length).find? _ = o
  cases o with
  | none => rfl
  | some j => rfl
theorem greatest_bd (mask : Int) (below : List Int) (h0 : 0 ≤ mask) (h1 : mask ≤ fullI (below.length : Int)) (hl : 1 ≤ (below.length : Int) ∧ (below.length : Int) ≤ 30) : 0 ≤ (F_greatest mask below).1 ∧ (F_greatest mask below).1 < (below.length : Int) := by
  rw [greatest_val h0 h1 (by omega)]
  cases h : (List.range below.length).find? (fun (j : Nat) => F_has mask (j : Int) && F_within mask (gI below (j : Int))) with
  | none => exact ⟨Int.le_refl _, by show (0 : Int) < _; omega⟩
  | some j =>
    have := List.mem_range.1 (List.mem_of_find?_eq_some h)
    exact ⟨by show (0 : Int) ≤ (j : Int); omega, by show (j : Int) < _; omega⟩
end Go.Proofs.Ytkilkfhjfobcdaa
