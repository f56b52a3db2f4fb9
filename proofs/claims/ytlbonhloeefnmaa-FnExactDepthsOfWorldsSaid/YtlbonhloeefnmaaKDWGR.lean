/- GR: models and contracts, printed by wip/gen/gen.py -/
import Derived.Test.YtlbonhloeefnmaaKDWGW
set_option linter.unusedVariables false
set_option linter.unusedSimpArgs false
namespace Go.Proofs.Ytlbonhloeefnmaa
open Go.RowKit
theorem rl_of {f0 : Int} {f1 : List Int} (h0 : 0 ≤ f0) (hl : (f1.length : Int) = f0) (hx : ∀ m : Int, 0 ≤ m → m < (f1.length : Int) → 0 ≤ gI f1 m ∧ gI f1 m ≤ fullI f0) : Rl f0.toNat f1 := by
  refine ⟨by omega, fun i hi => ?_⟩
  have := hx (i : Int) (by omega) (by omega)
  have e : ((f0.toNat : Nat) : Int) = f0 := by omega
  exact ⟨this.1, by rw [e]; exact this.2⟩
theorem reach_stepI {f0 : Int} {f1 : List Int} {mask : Int} (h0 : 0 ≤ f0 ∧ f0 ≤ 8) (hl : (f1.length : Int) = f0) (hx : ∀ m : Int, 0 ≤ m → m < (f1.length : Int) → 0 ≤ gI f1 m ∧ gI f1 m ≤ fullI f0) (hm0 : 0 ≤ mask) (hm1 : mask ≤ fullI f0) : (0 ≤ orI mask (F_l01Image f1 mask) ∧ orI mask (F_l01Image f1 mask) ≤ fullI f0) ∧ (¬ anI (F_l01Image f1 mask) mask = 0 → mask < orI mask (F_l01Image f1 mask)) := by
  have e : ((f0.toNat : Nat) : Int) = f0 := by omega
  have hM : Mk f0.toNat mask := ⟨hm0, by rw [e]; exact hm1⟩
  obtain ⟨h1, h2⟩ := reach_step (by omega) (rl_of h0.1 hl hx) hM
  exact ⟨⟨h1.1, by have := h1.2; rwa [e] at this⟩, h2⟩
def F_l05Reach_L1b (f1 : List Int) (rec : Int → Int) (mask1 : Int) : Int :=
  bif (!decide ((anI (F_l01Image f1 mask1) mask1) = 0)) then (rec (orI mask1 (F_l01Image f1 mask1))) else mask1
def F_l05Reach_L1 (f1 : List Int) : Nat → Int → Int
  | 0, mask1 => mask1
  | r + 1, mask1 => F_l05Reach_L1b f1 (F_l05Reach_L1 f1 r) mask1
def F_l05Reach (f0 : Int) (f1 : List Int) (mask : Int) : Int :=
  (F_l05Reach_L1 f1 (Int.toNat (fullI f0 - mask) + 1) mask)
theorem cf_l05Reach (args : Array Value) (w : World) : (callFunc 216 args).run Try.prog w = .ok (.enter 216 args) w := by kernel_rfl
set_option maxRecDepth 100000 in
theorem c_l05Reach (f0 : Int) (f1A : Option Addr) (f1N f1C : Nat) (f1 : List Int) (mask : Int) (w : World) (f1R : RdS w 1 f1A f1N f1C f1) (h0 : 0 ≤ f0 ∧ f0 ≤ 8) (hl : (f1.length : Int) = f0) (hm : 0 ≤ mask ∧ mask ≤ fullI f0) (hx : ∀ m : Int, 0 ≤ m → m < (f1.length : Int) → 0 ≤ gI f1 m ∧ gI f1 m ≤ fullI f0) :
    Calls Try.prog 216 #[.agg #[.int .i64 f0, .slice f1A f1N f1C], .int .i64 mask] w (Ret fun v w' => v = .int .i64 (F_l05Reach f0 f1 mask) ∧ Ext w w') := by
  obtain rfl : f1N = f1.length := f1R.len1.symm
  have f1Le := f1R.le
  have hS := St.nil w
  have hS1 := St.rd0 hS rfl f1R; clear hS
  refine enter (args := [.agg #[.int .i64 f0, .slice f1A f1.length f1C], .int .i64 mask]) Try.func216 rfl rfl ?_
  rw [Try.ntmps216]; intro a hE
  have hE := hE.sub (L' := [(0, .agg #[.int .i64 f0, .slice f1A f1.length f1C]), (1, .int .i64 mask)]) ⟨rfl, rfl, trivial⟩
  refine c_seq ?_
  refine c_reg ?_
  refine l_step hE rfl (l_box (v := .agg #[.int .i64 f0, .slice f1A f1.length f1C]) (cs := #[.int .i64 f0, .slice f1A f1.length f1C]) hS1 hE rfl rfl rfl ?_)
  intro b2 w3 hS6 he7 a4 hE5; clear hS1 hE
  refine q_step (v := .int .i64 0) hE5 (y_assign rfl) rfl rfl rfl ?_; intro a8 hE9; clear hE5
  refine c_nil ?_
  have hE10 := hE9.sub (L' := [(1, .int .i64 mask), (2, .pointer (some ⟨b2, 0, none⟩))]) ⟨rfl, rfl, trivial⟩; clear hE9
  refine p_tn ?_
  refine c_cut (fun a' w' => (0 ≤ (F_l05Reach_L1 f1 (Int.toNat (fullI f0 - mask) + 1) mask)) ∧ ((F_l05Reach_L1 f1 (Int.toNat (fullI f0 - mask) + 1) mask) ≤ fullI f0) ∧ E a' 19 [(1, .int .i64 (F_l05Reach_L1 f1 (Int.toNat (fullI f0 - mask) + 1) mask)), (2, .pointer (some ⟨b2, 0, none⟩))] ∧ St w w' [.blk b2 #[.int .i64 f0, .slice f1A f1.length f1C] 30, .rd 1 f1A f1.length f1C f1]) ?_ ?_
  ·
   refine wp_block ?_
   refine c_loop (fun r a' w' => ∃ mask1 : Int, F_l05Reach_L1 f1 r mask1 = F_l05Reach_L1 f1 (Int.toNat (fullI f0 - mask) + 1) mask ∧ Int.toNat (fullI f0 - mask1) < r ∧ (0 ≤ mask1) ∧ (mask1 ≤ fullI f0) ∧ E a' 19 [(1, .int .i64 mask1), (2, .pointer (some ⟨b2, 0, none⟩))] ∧ St w w' [.blk b2 #[.int .i64 f0, .slice f1A f1.length f1C] 30, .rd 1 f1A f1.length f1C f1]) (r := (Int.toNat (fullI f0 - mask) + 1)) ?_ ?_
   · exact ⟨mask, rfl, Nat.lt_succ_self _, (by first | omega | (simp only [sS_len, sL_len]; omega) | (simp only [List.length_replicate, sI_len]; omega) | (simp only [List.length_append, List.length_cons, List.length_nil, sI_len, cond_true, cond_false]; omega) | (simp only [List.length_append, List.length_cons, List.length_nil, sI_len, cond_eq_ite, apply_ite List.length]; split <;> simp only [List.length_append, List.length_cons, List.length_nil, sI_len] <;> omega) | grind), (by first | omega | (simp only [sS_len, sL_len]; omega) | (simp only [List.length_replicate, sI_len]; omega) | (simp only [List.length_append, List.length_cons, List.length_nil, sI_len, cond_true, cond_false]; omega) | (simp only [List.length_append, List.length_cons, List.length_nil, sI_len, cond_eq_ite, apply_ite List.length]; split <;> simp only [List.length_append, List.length_cons, List.length_nil, sI_len] <;> omega) | grind), (hE10.sub (L' := [(1, .int .i64 mask), (2, .pointer (some ⟨b2, 0, none⟩))]) ⟨rfl, rfl, trivial⟩), (St.pick (Γ' := [.blk b2 #[.int .i64 f0, .slice f1A f1.length f1C] 30, .rd 1 f1A f1.length f1C f1]) hS6 [0, 1] (by decide) rfl)⟩
   ·
    clear hE10 hS6
    rintro r20 a12 w13 ⟨mask1, hT16, hr17, hi18, hi19, hE14, hS15⟩
    obtain ⟨r20, rfl⟩ : ∃ r', r20 = r' + 1 := ⟨r20 - 1, by omega⟩
    have hst := reach_stepI (mask := mask1) h0 hl hx (by omega) (by omega)
    refine c_seq ?_
    refine c_seq ?_
    refine c_reg ?_
    refine q_step (v := .pointer (some ⟨b2, 1, none⟩)) hE14 (y_field rfl (fun _ => by kernel_rfl)) rfl rfl rfl ?_; intro a21 hE22; clear hE14
    refine q_step (v := .slice f1A f1.length f1C) hE22 (y_load (fun _ => by kernel_rfl) rfl (St.cell (i := 0) hS15 rfl rfl)) rfl rfl rfl ?_; intro a23 hE24; clear hE22
    refine q_step (v := .int .i64 mask1) hE24 (y_move rfl) rfl rfl rfl ?_; intro a25 hE26; clear hE24
    refine l_step hE26 rfl (l_call (f := 121) (argv := [.slice f1A f1.length f1C, .int .i64 mask1]) hE26 (fun _ => cf_l01Image _ _) rfl rfl (c_l01Image f1A f1.length f1C f1 mask1 w13 (St.rdR (i := 1) hS15 rfl) (by omega)) ?_)
    rintro _ w28 ⟨rfl, he32⟩ a29 hE30; clear hE26
    have hS31 := St.go hS15 he32; clear hS15
    refine q_step (v := .int .i64 mask1) hE30 (y_move rfl) rfl rfl rfl ?_; intro a33 hE34; clear hE30
    refine q_step (v := .int .i64 (anI (F_l01Image f1 mask1) mask1)) hE34 (y_andNot rfl rfl) rfl rfl rfl ?_; intro a35 hE36; clear hE34
    refine q_step (v := .bool (!decide ((anI (F_l01Image f1 mask1) mask1) = 0))) hE36 (y_neq rfl rfl) rfl rfl rfl ?_; intro a37 hE38; clear hE36
    refine c_nil ?_
    have hE39 := hE38.sub (L' := [(1, .int .i64 mask1), (2, .pointer (some ⟨b2, 0, none⟩)), (11, .bool (!decide ((anI (F_l01Image f1 mask1) mask1) = 0)))]) ⟨rfl, rfl, rfl, trivial⟩; clear hE38
    refine p_tn ?_
    refine c_cond hE39 rfl (fun ht40 => ?_) (fun ht40 => ?_)
    ·
     have ht41 := bn_t ht40
     have hp42 := of_decide_eq_false ht41
     have hE43 := hE39; rw [ht40] at hE43; clear hE39
     refine wp_skip ?_
     refine p_tn ?_
     refine wp_block ?_
     refine c_reg ?_
     refine q_step (v := .int .i64 mask1) hE43 (y_move rfl) rfl rfl rfl ?_; intro a44 hE45; clear hE43
     refine q_step (v := .pointer (some ⟨b2, 1, none⟩)) hE45 (y_field rfl (fun _ => by kernel_rfl)) rfl rfl rfl ?_; intro a46 hE47; clear hE45
     refine q_step (v := .slice f1A f1.length f1C) hE47 (y_load (fun _ => by kernel_rfl) rfl (St.cell (i := 0) hS31 rfl rfl)) rfl rfl rfl ?_; intro a48 hE49; clear hE47
     refine q_step (v := .int .i64 mask1) hE49 (y_move rfl) rfl rfl rfl ?_; intro a50 hE51; clear hE49
     refine l_step hE51 rfl (l_call (f := 121) (argv := [.slice f1A f1.length f1C, .int .i64 mask1]) hE51 (fun _ => cf_l01Image _ _) rfl rfl (c_l01Image f1A f1.length f1C f1 mask1 w28 (St.rdR (i := 1) hS31 rfl) (by omega)) ?_)
     rintro _ w53 ⟨rfl, he57⟩ a54 hE55; clear hE51
     have hS56 := St.go hS31 he57; clear hS31
     refine q_step (v := .int .i64 (orI mask1 (F_l01Image f1 mask1))) hE55 (y_or rfl rfl) rfl rfl rfl ?_; intro a58 hE59; clear hE55
     refine q_step (v := .int .i64 (orI mask1 (F_l01Image f1 mask1))) hE59 (y_assign rfl) rfl rfl rfl ?_; intro a60 hE61; clear hE59
     refine c_nil ?_
     have hE62 := hE61.sub (L' := [(1, .int .i64 (orI mask1 (F_l01Image f1 mask1))), (2, .pointer (some ⟨b2, 0, none⟩))]) ⟨rfl, rfl, trivial⟩; clear hE61
     refine p_bn ?_
     refine p_tn ⟨r20, Nat.lt_succ_self _, orI mask1 (F_l01Image f1 mask1), (hT16.symm.trans (show F_l05Reach_L1b f1 (F_l05Reach_L1 f1 r20) mask1 = F_l05Reach_L1 f1 r20 (orI mask1 (F_l01Image f1 mask1)) by unfold F_l05Reach_L1b; rw [ht40]; first | done | rfl)).symm, (by omega), (by first | omega | (simp only [sS_len, sL_len]; omega) | (simp only [List.length_replicate, sI_len]; omega) | (simp only [List.length_append, List.length_cons, List.length_nil, sI_len, cond_true, cond_false]; omega) | (simp only [List.length_append, List.length_cons, List.length_nil, sI_len, cond_eq_ite, apply_ite List.length]; split <;> simp only [List.length_append, List.length_cons, List.length_nil, sI_len] <;> omega) | grind), (by first | omega | (simp only [sS_len, sL_len]; omega) | (simp only [List.length_replicate, sI_len]; omega) | (simp only [List.length_append, List.length_cons, List.length_nil, sI_len, cond_true, cond_false]; omega) | (simp only [List.length_append, List.length_cons, List.length_nil, sI_len, cond_eq_ite, apply_ite List.length]; split <;> simp only [List.length_append, List.length_cons, List.length_nil, sI_len] <;> omega) | grind), (hE62.sub (L' := [(1, .int .i64 (orI mask1 (F_l01Image f1 mask1))), (2, .pointer (some ⟨b2, 0, none⟩))]) ⟨rfl, rfl, trivial⟩), (St.pick (Γ' := [.blk b2 #[.int .i64 f0, .slice f1A f1.length f1C] 30, .rd 1 f1A f1.length f1C f1]) hS56 [0, 1] (by decide) rfl)⟩
    ·
     have ht63 := bn_f ht40
     have hp64 := of_decide_eq_true ht63
     have hE65 := hE39; rw [ht40] at hE65; clear hE39
     refine wp_exit ?_
     refine p_te ?_
     have hX66 : F_l05Reach_L1 f1 (Int.toNat (fullI f0 - mask) + 1) mask = mask1 := hT16.symm.trans (show F_l05Reach_L1b f1 (F_l05Reach_L1 f1 r20) mask1 = mask1 by unfold F_l05Reach_L1b; rw [ht40]; first | done | rfl)
     refine p_te (p_be (p_tn ?_))
     exact ⟨(by rw [hX66]; exact (show 0 ≤ mask1 from (by first | omega | (simp only [sS_len, sL_len]; omega) | (simp only [List.length_replicate, sI_len]; omega) | (simp only [List.length_append, List.length_cons, List.length_nil, sI_len, cond_true, cond_false]; omega) | (simp only [List.length_append, List.length_cons, List.length_nil, sI_len, cond_eq_ite, apply_ite List.length]; split <;> simp only [List.length_append, List.length_cons, List.length_nil, sI_len] <;> omega) | grind))), (by rw [hX66]; exact (show mask1 ≤ fullI f0 from (by first | omega | (simp only [sS_len, sL_len]; omega) | (simp only [List.length_replicate, sI_len]; omega) | (simp only [List.length_append, List.length_cons, List.length_nil, sI_len, cond_true, cond_false]; omega) | (simp only [List.length_append, List.length_cons, List.length_nil, sI_len, cond_eq_ite, apply_ite List.length]; split <;> simp only [List.length_append, List.length_cons, List.length_nil, sI_len] <;> omega) | grind))), (by rw [hX66]; exact (hE65.sub (L' := [(1, .int .i64 mask1), (2, .pointer (some ⟨b2, 0, none⟩))]) ⟨rfl, rfl, trivial⟩)), (St.pick (Γ' := [.blk b2 #[.int .i64 f0, .slice f1A f1.length f1C] 30, .rd 1 f1A f1.length f1C f1]) hS31 [0, 1] (by decide) rfl)⟩
  ·
   rintro a67 w68 ⟨hi72, hi73, hE69, hS70⟩; clear hE10 hS6
   refine c_seq ?_
   refine c_reg ?_
   refine q_step (v := .int .i64 (F_l05Reach_L1 f1 (Int.toNat (fullI f0 - mask) + 1) mask)) hE69 (y_move rfl) rfl rfl rfl ?_; intro a74 hE75; clear hE69
   refine q_step (v := .int .i64 (F_l05Reach_L1 f1 (Int.toNat (fullI f0 - mask) + 1) mask)) hE75 (y_assign rfl) rfl rfl rfl ?_; intro a76 hE77; clear hE75
   refine c_nil ?_
   have hE78 := hE77.sub (L' := [(4, .int .i64 (F_l05Reach_L1 f1 (Int.toNat (fullI f0 - mask) + 1) mask))]) ⟨rfl, trivial⟩; clear hE77
   refine p_tn ?_
   refine wp_ret ?_
   have hF : F_l05Reach f0 f1 mask = (F_l05Reach_L1 f1 (Int.toNat (fullI f0 - mask) + 1) mask) := by unfold F_l05Reach; rfl
   refine c_ret1 hE78 rfl rfl ?_
   exact ⟨(by rw [hF]; first | done | (dsimp only; done) | rfl), hS70.ext⟩
theorem reach_rc {n : Nat} (hn : n ≤ 30) {a : List Int} (ha : Rl n a) (mask : Int) : ∀ (r : Nat) (s : Int), Mk n s → fullI (n : Int) - s < (r : Int) → (∀ j, tb mask j = true → tb s j = true) →
    (∀ S : Nat → Prop, (∀ j, tb mask j = true → S j) → (∀ i j, i < n → S i → rb a i j = true → S j) → ∀ j, tb s j = true → S j) → Rc n a mask (F_l05Reach_L1 a r s) := by
  intro r
  induction r with
  | zero => intro s hs h; have := hs.2; omega
  | succ r ih =>
    intro s hs h h1 h2
    obtain ⟨h3, h4⟩ := l01Image_bits (by omega) ha hs
    obtain ⟨h5, h6⟩ := reach_step hn ha hs
    have h7 := (Mk.or (by omega) hs h3).2
    show Rc n a mask (F_l05Reach_L1b a _ s)
    unfold F_l05Reach_L1b
    by_cases hz : anI (F_l01Image a s) s = 0
    · rw [decide_eq_true hz, Bool.not_true, cond_false]
      refine ⟨hs, h1, fun i j hi hij => ?_, h2⟩
      exact (Mk.anz (by omega) h3 hs).1 hz j ((h4 j).2 ⟨i, hi, hij⟩)
    · rw [decide_eq_false hz, Bool.not_false, cond_true]
      have := h6 hz
      refine ih _ h5 (by omega) (fun j hj => by rw [h7, h1 j hj]; rfl) (fun S hS hc j hj => ?_)
      rw [h7, Bool.or_eq_true] at hj
      rcases hj with hj | hj
      · exact h2 S hS hc j hj
      · obtain ⟨i, hi, hij⟩ := (h4 j).1 hj
        exact hc i j (tb_lt hs hi) (h2 S hS hc i hi) hij
theorem l05Reach_rc {f0 : Int} {f1 : List Int} {mask : Int} (h0 : 0 ≤ f0 ∧ f0 ≤ 8) (hl : (f1.length : Int) = f0) (hx : ∀ m : Int, 0 ≤ m → m < (f1.length : Int) → 0 ≤ gI f1 m ∧ gI f1 m ≤ fullI f0) (hm : 0 ≤ mask ∧ mask ≤ fullI f0) : Rc f0.toNat f1 mask (F_l05Reach f0 f1 mask) := by
  unfold F_l05Reach
  have e : ((f0.toNat : Nat) : Int) = f0 := by omega
  have hM : Mk f0.toNat mask := ⟨hm.1, by rw [e]; exact hm.2⟩
  refine reach_rc (by omega) (rl_of h0.1 hl hx) mask _ mask hM (by rw [e]; omega) (fun _ h => h) (fun S hS _ j hj => hS j hj)
def F_Frame_reachable (f0 : Int) (f1 : List Int) : List Int :=
  F_reflexive (F_transitive f1)
theorem cf_Frame_reachable (args : Array Value) (w : World) : (callFunc 167 args).run Try.prog w = .ok (.enter 167 args) w := by kernel_rfl
set_option maxRecDepth 100000 in
theorem c_Frame_reachable (f0 : Int) (f1A : Option Addr) (f1N f1C : Nat) (f1 : List Int) (w : World) (f1R : RdS w 1 f1A f1N f1C f1) (hl : f1.length ≤ 8) :
    Calls Try.prog 167 #[.agg #[.int .i64 f0, .slice f1A f1N f1C]] w (Ret fun v w' => ∃ b1 : Option Addr, ∃ c1 : Nat, v = .slice b1 (F_Frame_reachable f0 f1).length c1 ∧ OwnS w' w.heap.size 2 1 b1 (F_Frame_reachable f0 f1).length c1 (F_Frame_reachable f0 f1) ∧ Ext w w') := by
  obtain rfl : f1N = f1.length := f1R.len1.symm
  have f1Le := f1R.le
  have hS := St.nil w
  have hS1 := St.rd0 hS rfl f1R; clear hS
  refine enter (args := [.agg #[.int .i64 f0, .slice f1A f1.length f1C]]) Try.func167 rfl rfl ?_
  rw [Try.ntmps167]; intro a hE
  have hE := hE.sub (L' := [(0, .agg #[.int .i64 f0, .slice f1A f1.length f1C])]) ⟨rfl, trivial⟩
  refine c_seq ?_
  refine c_reg ?_
  refine l_step hE rfl (l_box (v := .agg #[.int .i64 f0, .slice f1A f1.length f1C]) (cs := #[.int .i64 f0, .slice f1A f1.length f1C]) hS1 hE rfl rfl rfl ?_)
  intro b2 w3 hS6 he7 a4 hE5; clear hS1 hE
  refine q_step (v := .slice none 0 0) hE5 (y_assign rfl) rfl rfl rfl ?_; intro a8 hE9; clear hE5
  refine c_nil ?_
  have hE10 := hE9.sub (L' := [(1, .pointer (some ⟨b2, 0, none⟩))]) ⟨rfl, trivial⟩; clear hE9
  refine p_tn ?_
  refine c_seq ?_
  refine c_reg ?_
  refine q_step (v := .pointer (some ⟨b2, 1, none⟩)) hE10 (y_field rfl (fun _ => by kernel_rfl)) rfl rfl rfl ?_; intro a11 hE12; clear hE10
  refine q_step (v := .slice f1A f1.length f1C) hE12 (y_load (fun _ => by kernel_rfl) rfl (St.cell (i := 0) hS6 rfl rfl)) rfl rfl rfl ?_; intro a13 hE14; clear hE12
  refine l_step hE14 rfl (l_call (f := 125) (argv := [.slice f1A f1.length f1C]) hE14 (fun _ => cf_transitive _ _) rfl rfl (c_transitive f1A f1.length f1C f1 w3 (St.rdR (i := 1) hS6 rfl) (by omega)) ?_)
  rintro _ w16 ⟨b21, c22, rfl, ho23, he20⟩ a17 hE18; clear hE14
  have hf24 := transitive_len f1
  have hS19 := St.own hS6 he20 ho23; clear hS6
  refine l_step hE18 rfl (l_call (f := 138) (argv := [.slice b21 ((F_transitive f1).length) c22]) hE18 (fun _ => cf_reflexive _ _) rfl rfl (c_reflexive b21 ((F_transitive f1).length) c22 (F_transitive f1) w16 (St.rdO (i := 0) hS19 rfl) (by omega)) ?_)
  rintro _ w26 ⟨b31, c32, rfl, ho33, he30⟩ a27 hE28; clear hE18
  have hf34 := reflexive_len (F_transitive f1)
  have hS29 := St.own hS19 he30 ho33; clear hS19
  refine q_step (v := .slice b31 ((F_reflexive (F_transitive f1)).length) c32) hE28 (y_assign rfl) rfl rfl rfl ?_; intro a35 hE36; clear hE28
  refine c_nil ?_
  have hE37 := hE36.sub (L' := [(2, .slice b31 ((F_reflexive (F_transitive f1)).length) c32)]) ⟨rfl, trivial⟩; clear hE36
  refine p_tn ?_
  refine wp_ret ?_
  have hF : F_Frame_reachable f0 f1 = F_reflexive (F_transitive f1) := by unfold F_Frame_reachable; rfl
  refine c_ret1 hE37 rfl rfl ?_
  exact ⟨b31, c32, (by rw [hF]; first | done | (dsimp only; done) | rfl), (by rw [hF]; (try dsimp only); exact hS29.ok 0 _ rfl), hS29.ext⟩
theorem reachable_len (f0 : Int) (f1 : List Int) : (F_Frame_reachable f0 f1).length = f1.length := by
  unfold F_Frame_reachable; rw [reflexive_len, transitive_len]
end Go.Proofs.Ytlbonhloeefnmaa
