/- GDA: models and contracts, printed by wip/gen/gen.py -/
import Derived.Test.YtlbonhloeefnmaaKMDGDF
import Derived.Test.YtlbonhloeefnmaaKMDGI
set_option linter.unusedVariables false
set_option linter.unusedSimpArgs false
namespace Go.Proofs.Ytlbonhloeefnmaa
open Go.RowKit
def F_l15Some (src : List Int) (srcg : Nat × Int) (atoms : Int) : (Int × List Int) × (Nat × Int) :=
  (((F_l15Of (((F_l05Some src srcg atoms).1).1) (((F_l05Some src srcg atoms).1).2)).1, (F_l15Of (((F_l05Some src srcg atoms).1).1) (((F_l05Some src srcg atoms).1).2)).2), (F_l05Some src srcg atoms).2)
theorem cf_l15Some (args : Array Value) (w : World) : (callFunc 205 args).run Try.prog w = .ok (.enter 205 args) w := by kernel_rfl
set_option maxRecDepth 100000 in
theorem c_l15Some (srcB : Nat) (srcA : Option Addr) (srcN srcC : Nat) (src : List Int) (srcg : Nat × Int) (atoms : Int) (w : World) (w0v : World) (Γ0 : List Ent) (hS0 : St w0v w (.blk srcB #[.slice srcA srcN srcC, .int .i64 ((srcg.1 : Nat) : Int), .int .u64 (srcg.2)] 156 :: Γ0)) (srcR : RdB w0v srcA srcN srcC src) (h0 : 0 ≤ atoms) (h1 : atoms ≤ 5) :
    Calls Try.prog 205 #[.pointer (some ⟨srcB, 0, none⟩), .int .i64 atoms] w (Ret fun v w' => ∃ b1 : Option Addr, ∃ c1 : Nat, v = .agg #[.int .i64 (((F_l15Some src srcg atoms).1).1), .slice b1 ((((F_l15Some src srcg atoms).1).2).length) c1] ∧ St w0v w' (.own 2 1 b1 ((((F_l15Some src srcg atoms).1).2).length) c1 (((F_l15Some src srcg atoms).1).2) :: .blk srcB #[.slice srcA srcN srcC, .int .i64 ((((F_l15Some src srcg atoms).2).1 : Nat) : Int), .int .u64 (((F_l15Some src srcg atoms).2).2)] 156 :: Γ0)) := by
  obtain rfl : srcN = src.length := srcR.len
  have srcLe := srcR.le
  refine enter (args := [.pointer (some ⟨srcB, 0, none⟩), .int .i64 atoms]) Try.func205 rfl rfl ?_
  rw [Try.ntmps205]; intro a hE
  have hE := hE.sub (L' := [(0, .pointer (some ⟨srcB, 0, none⟩)), (1, .int .i64 atoms)]) ⟨rfl, rfl, trivial⟩
  have hz1 : (decide (atoms < (((F_l05Some src srcg atoms).1).1))) = false := (decide_eq_false (by have h := l05Some_w srcR srcg atoms h0 (by omega); omega))
  refine c_seq ?_
  refine c_reg ?_
  refine l_step hE rfl (l_alloc (z := .agg #[.int .i64 0, .slice none 0 0]) (cs := #[.int .i64 0, .slice none 0 0]) hS0 hE (fun _ => by kernel_rfl) rfl rfl ?_)
  intro b2 w3 hS6 he7 a4 hE5; clear hS0 hE
  refine c_nil ?_
  have hE8 := hE5.sub (L' := [(0, .pointer (some ⟨srcB, 0, none⟩)), (1, .int .i64 atoms), (4, .pointer (some ⟨b2, 0, none⟩))]) ⟨rfl, rfl, rfl, trivial⟩; clear hE5
  refine p_tn ?_
  refine c_seq ?_
  refine c_reg ?_
  refine q_step (v := .pointer (some ⟨srcB, 0, none⟩)) hE8 (y_move rfl) rfl rfl rfl ?_; intro a9 hE10; clear hE8
  refine q_step (v := .int .i64 atoms) hE10 (y_move rfl) rfl rfl rfl ?_; intro a11 hE12; clear hE10
  have hS19 := (St.pickT (Γ := [.blk b2 #[.int .i64 0, .slice none 0 0] 79, .blk srcB #[.slice srcA src.length srcC, .int .i64 ((srcg.1 : Nat) : Int), .int .u64 srcg.2] 156]) (Γ' := [.blk srcB #[.slice srcA src.length srcC, .int .i64 ((srcg.1 : Nat) : Int), .int .u64 srcg.2] 156, .blk b2 #[.int .i64 0, .slice none 0 0] 79]) (Γ0 := Γ0) hS6 [1, 0] (by decide) rfl rfl); clear hS6
  refine l_step hE12 rfl (l_call (f := 210) (argv := [.pointer (some ⟨srcB, 0, none⟩), .int .i64 atoms]) hE12 (fun _ => cf_l05Some _ _) rfl rfl (c_l05Some srcB srcA src.length srcC src srcg atoms w3 w0v (.blk b2 #[.int .i64 0, .slice none 0 0] 79 :: Γ0) hS19 srcR (by omega) (by omega)) ?_)
  rintro _ w14 ⟨b20, c21, rfl, hS17⟩ a15 hE16; clear hE12 hS19
  have hf22 := l05Some_w srcR srcg atoms (by omega) (by omega)
  have hw5 := l05Some_w srcR srcg atoms h0 (by omega)
  refine l_step hE16 rfl (l_alloc (z := .agg #[.int .i64 0, .slice none 0 0]) (cs := #[.int .i64 0, .slice none 0 0]) hS17 hE16 (fun _ => by kernel_rfl) rfl rfl ?_)
  intro b23 w24 hS27 he28 a25 hE26; clear hS17 hE16
  refine l_step hE26 rfl (l_storeS (k := 0) (cs' := #[.int .i64 (((F_l05Some src srcg atoms).1).1), .slice b20 ((((F_l05Some src srcg atoms).1).2).length) c21]) hS27 hE26 (by kernel_rfl) rfl rfl (by kernel_rfl) rfl rfl ?_)
  intro w30 hS33 a31 hE32; clear hS27 hE26
  refine c_nil ?_
  have hE35 := hE32.sub (L' := [(1, .int .i64 atoms), (4, .pointer (some ⟨b2, 0, none⟩)), (5, .pointer (some ⟨b23, 0, none⟩))]) ⟨rfl, rfl, rfl, trivial⟩; clear hE32
  refine p_tn ?_
  refine c_seq ?_
  refine c_seq ?_
  refine c_reg ?_
  refine q_step (v := .pointer (some ⟨b23, 0, none⟩)) hE35 (y_field rfl (fun _ => by kernel_rfl)) rfl rfl rfl ?_; intro a36 hE37; clear hE35
  refine q_step (v := .int .i64 (((F_l05Some src srcg atoms).1).1)) hE37 (y_load (fun _ => by kernel_rfl) rfl (St.cell (i := 0) hS33 rfl rfl)) rfl rfl rfl ?_; intro a38 hE39; clear hE37
  refine q_step (v := .int .i64 atoms) hE39 (y_move rfl) rfl rfl rfl ?_; intro a40 hE41; clear hE39
  refine q_step (v := .bool (decide (atoms < (((F_l05Some src srcg atoms).1).1)))) hE41 (y_gtr rfl rfl) rfl rfl rfl ?_; intro a42 hE43; clear hE41
  refine c_nil ?_
  have hE44 := hE43.sub (L' := [(4, .pointer (some ⟨b2, 0, none⟩)), (5, .pointer (some ⟨b23, 0, none⟩)), (12, .bool (decide (atoms < (((F_l05Some src srcg atoms).1).1))))]) ⟨rfl, rfl, rfl, trivial⟩; clear hE43
  refine p_tn ?_
  have hE45 := hE44; rw [hz1] at hE45; clear hE44
  refine c_false hE45 rfl ?_
  refine wp_skip ?_
  refine p_tn ?_
  refine c_seq ?_
  refine c_reg ?_
  refine q_step (v := .agg #[.int .i64 (((F_l05Some src srcg atoms).1).1), .slice b20 ((((F_l05Some src srcg atoms).1).2).length) c21]) hE45 (y_loadS Try.underlying30 rfl (by kernel_rfl) rfl (St.row (i := 0) hS33 rfl)) rfl rfl rfl ?_; intro a46 hE47; clear hE45
  refine l_step hE47 rfl (l_call (f := 136) (argv := [.agg #[.int .i64 (((F_l05Some src srcg atoms).1).1), .slice b20 ((((F_l05Some src srcg atoms).1).2).length) c21]]) hE47 (fun _ => cf_l15Of _ _) rfl rfl (c_l15Of (((F_l05Some src srcg atoms).1).1) b20 ((((F_l05Some src srcg atoms).1).2).length) c21 (((F_l05Some src srcg atoms).1).2) w30 (St.rdO (i := 1) hS33 rfl) (by omega) (by omega) (by omega)) ?_)
  rintro _ w49 ⟨b54, c55, rfl, ho56, he53⟩ a50 hE51; clear hE47
  have hS52 := St.own hS33 he53 ho56; clear hS33
  refine l_step hE51 rfl (l_storeS (k := 4) (cs' := #[.int .i64 ((F_l15Of (((F_l05Some src srcg atoms).1).1) (((F_l05Some src srcg atoms).1).2)).1), .slice b54 (((F_l15Of (((F_l05Some src srcg atoms).1).1) (((F_l05Some src srcg atoms).1).2)).2).length) c55]) hS52 hE51 (by kernel_rfl) rfl rfl (by kernel_rfl) rfl rfl ?_)
  intro w58 hS61 a59 hE60; clear hS52 hE51
  refine c_nil ?_
  have hE63 := hE60.sub (L' := [(4, .pointer (some ⟨b2, 0, none⟩))]) ⟨rfl, trivial⟩; clear hE60
  refine p_tn ?_
  refine wp_ret ?_
  have hF : F_l15Some src srcg atoms = (((F_l15Of (((F_l05Some src srcg atoms).1).1) (((F_l05Some src srcg atoms).1).2)).1, (F_l15Of (((F_l05Some src srcg atoms).1).1) (((F_l05Some src srcg atoms).1).2)).2), (F_l05Some src srcg atoms).2) := by unfold F_l15Some; rfl
  refine c_retC hE63 rfl rfl Try.underlying79 rfl (by kernel_rfl) (St.row (i := 4) hS61 rfl _ (Ext.refl _)) ?_
  have hS9 := (St.pickT (Γ := [.own 2 1 b54 (((F_l15Of (((F_l05Some src srcg atoms).1).1) (((F_l05Some src srcg atoms).1).2)).2).length) c55 ((F_l15Of (((F_l05Some src srcg atoms).1).1) (((F_l05Some src srcg atoms).1).2)).2), .blk b23 #[.int .i64 (((F_l05Some src srcg atoms).1).1), .slice b20 ((((F_l05Some src srcg atoms).1).2).length) c21] 30, .own 2 1 b20 ((((F_l05Some src srcg atoms).1).2).length) c21 (((F_l05Some src srcg atoms).1).2), .blk srcB #[.slice srcA src.length srcC, .int .i64 ((((F_l05Some src srcg atoms).2).1 : Nat) : Int), .int .u64 (((F_l05Some src srcg atoms).2).2)] 156, .blk b2 #[.int .i64 ((F_l15Of (((F_l05Some src srcg atoms).1).1) (((F_l05Some src srcg atoms).1).2)).1), .slice b54 (((F_l15Of (((F_l05Some src srcg atoms).1).1) (((F_l05Some src srcg atoms).1).2)).2).length) c55] 79]) (Γ' := [.own 2 1 b54 (((F_l15Of (((F_l05Some src srcg atoms).1).1) (((F_l05Some src srcg atoms).1).2)).2).length) c55 ((F_l15Of (((F_l05Some src srcg atoms).1).1) (((F_l05Some src srcg atoms).1).2)).2), .blk srcB #[.slice srcA src.length srcC, .int .i64 ((((F_l05Some src srcg atoms).2).1 : Nat) : Int), .int .u64 (((F_l05Some src srcg atoms).2).2)] 156]) (Γ0 := Γ0) hS61 [0, 3] (by decide) rfl rfl)
  exact ⟨b54, c55, (by rw [hF]), (by rw [hF]; (try dsimp only); exact hS9)⟩
theorem l15Of_len {n : Nat} (hn : n ≤ 5) (f1 : List Int) : (F_l15Of (n : Int) f1).2.length = (fullI (n : Int)).toNat + 1 := by
  have hf := fullI5 (n := (n : Int)) (by omega) (by omega)
  have key : ∀ (r : Nat) (x : Int) (xs : List Int), 0 ≤ x → x ≤ fullI (n : Int) + 1 → (fullI (n : Int) + 1 - x).toNat < r → ((F_l15Of_L1 (n : Int) f1 r x xs).2.length : Int) = (xs.length : Int) + (fullI (n : Int) + 1 - x) := by
    intro r
    induction r with
    | zero => intro x xs _ _ h; omega
    | succ r ih =>
      intro x xs h0 h1 h
      show ((F_l15Of_L1b (n : Int) f1 (F_l15Of_L1 (n : Int) f1 r) x xs).2.length : Int) = _
      unfold F_l15Of_L1b
      by_cases hx : x ≤ fullI (n : Int)
      · rw [decide_eq_true hx, cond_true, ih _ _ (by omega) (by omega) (by omega), List.length_append]
        simp only [List.length_cons, List.length_nil]; omega
      · rw [decide_eq_false hx, cond_false]
        show (xs.length : Int) = _
        omega
  unfold F_l15Of
  have := key (Int.toNat (fullI (n : Int) + 1 - 0) + 1) 0 [] (by omega) (by omega) (by omega)
  simp only [List.length_nil] at this
  show (F_l15Of_L1 (n : Int) f1 (Int.toNat (fullI (n : Int) + 1 - 0) + 1) 0 []).2.length = _
  omega
theorem l15Some_len {w : World} {a : Option Addr} {n c : Nat} {src : List Int} (hR : RdB w a n c src) (srcg : Nat × Int) (atoms : Int) (h0 : 0 ≤ atoms) (h1 : atoms ≤ 5) : 1 ≤ (F_l15Some src srcg atoms).1.2.length ∧ (F_l15Some src srcg atoms).1.2.length ≤ 32 := by
  have hw := l05Some_w hR srcg atoms h0 (by omega)
  unfold F_l15Some
  generalize F_l05Some src srcg atoms = X at *
  obtain ⟨k, hk⟩ : ∃ k : Nat, X.1.1 = (k : Int) := ⟨X.1.1.toNat, by omega⟩
  dsimp only
  rw [hk]
  have hf := fullI5 (n := (k : Int)) (by omega) (by omega)
  have := l15Of_len (n := k) (by omega) X.1.2
  omega
def F_l15Draw (src : List Int) (srcg : Nat × Int) (atoms : Int) : (Int × List Int) × (Nat × Int) :=
  bif (decide (((F_l01Next src ((F_l15Some src srcg atoms).2) 20).1) = 0)) then ((((F_l15Some src srcg atoms).1).1, sI (((F_l15Some src srcg atoms).1).2) ((F_l01Next src ((F_l01Next src ((F_l15Some src srcg atoms).2) 20).2) ((((F_l15Some src srcg atoms).1).2).length : Int)).1) ((F_l01Next src ((F_l01Next src ((F_l01Next src ((F_l15Some src srcg atoms).2) 20).2) ((((F_l15Some src srcg atoms).1).2).length : Int)).2) 4).1)), (F_l01Next src ((F_l01Next src ((F_l01Next src ((F_l15Some src srcg atoms).2) 20).2) ((((F_l15Some src srcg atoms).1).2).length : Int)).2) 4).2) else (bif (decide (((F_l01Next src ((F_l15Some src srcg atoms).2) 20).1) = 1)) then (((F_l01Pick src ((F_l01Next src ((F_l15Some src srcg atoms).2) 20).2) ([-1, 6, 2])).1, ((F_l15Some src srcg atoms).1).2), (F_l01Pick src ((F_l01Next src ((F_l15Some src srcg atoms).2) 20).2) ([-1, 6, 2])).2) else ((((F_l15Some src srcg atoms).1).1, ((F_l15Some src srcg atoms).1).2), (F_l01Next src ((F_l15Some src srcg atoms).2) 20).2))
theorem cf_l15Draw (args : Array Value) (w : World) : (callFunc 127 args).run Try.prog w = .ok (.enter 127 args) w := by kernel_rfl
set_option maxRecDepth 100000 in
theorem c_l15Draw (srcB : Nat) (srcA : Option Addr) (srcN srcC : Nat) (src : List Int) (srcg : Nat × Int) (atoms : Int) (w : World) (w0v : World) (Γ0 : List Ent) (hS0 : St w0v w (.blk srcB #[.slice srcA srcN srcC, .int .i64 ((srcg.1 : Nat) : Int), .int .u64 (srcg.2)] 156 :: Γ0)) (srcR : RdB w0v srcA srcN srcC src) (h0 : 0 ≤ atoms) (h1 : atoms ≤ 5) :
    Calls Try.prog 127 #[.pointer (some ⟨srcB, 0, none⟩), .int .i64 atoms] w (Ret fun v w' => ∃ b1 : Option Addr, ∃ c1 : Nat, v = .agg #[.int .i64 (((F_l15Draw src srcg atoms).1).1), .slice b1 ((((F_l15Draw src srcg atoms).1).2).length) c1] ∧ St w0v w' (.own 2 1 b1 ((((F_l15Draw src srcg atoms).1).2).length) c1 (((F_l15Draw src srcg atoms).1).2) :: .blk srcB #[.slice srcA srcN srcC, .int .i64 ((((F_l15Draw src srcg atoms).2).1 : Nat) : Int), .int .u64 (((F_l15Draw src srcg atoms).2).2)] 156 :: Γ0)) := by
  obtain rfl : srcN = src.length := srcR.len
  have srcLe := srcR.le
  refine enter (args := [.pointer (some ⟨srcB, 0, none⟩), .int .i64 atoms]) Try.func127 rfl rfl ?_
  rw [Try.ntmps127]; intro a hE
  have hE := hE.sub (L' := [(0, .pointer (some ⟨srcB, 0, none⟩)), (1, .int .i64 atoms)]) ⟨rfl, rfl, trivial⟩
  refine c_seq ?_
  refine c_reg ?_
  refine l_step hE rfl (l_alloc (z := .agg #[.int .i64 0, .slice none 0 0]) (cs := #[.int .i64 0, .slice none 0 0]) hS0 hE (fun _ => by kernel_rfl) rfl rfl ?_)
  intro b1 w2 hS5 he6 a3 hE4; clear hS0 hE
  refine c_nil ?_
  have hE7 := hE4.sub (L' := [(0, .pointer (some ⟨srcB, 0, none⟩)), (1, .int .i64 atoms), (4, .pointer (some ⟨b1, 0, none⟩))]) ⟨rfl, rfl, rfl, trivial⟩; clear hE4
  refine p_tn ?_
  refine c_seq ?_
  refine c_reg ?_
  refine q_step (v := .pointer (some ⟨srcB, 0, none⟩)) hE7 (y_move rfl) rfl rfl rfl ?_; intro a8 hE9; clear hE7
  refine q_step (v := .int .i64 atoms) hE9 (y_move rfl) rfl rfl rfl ?_; intro a10 hE11; clear hE9
  have hS18 := (St.pickT (Γ := [.blk b1 #[.int .i64 0, .slice none 0 0] 79, .blk srcB #[.slice srcA src.length srcC, .int .i64 ((srcg.1 : Nat) : Int), .int .u64 srcg.2] 156]) (Γ' := [.blk srcB #[.slice srcA src.length srcC, .int .i64 ((srcg.1 : Nat) : Int), .int .u64 srcg.2] 156, .blk b1 #[.int .i64 0, .slice none 0 0] 79]) (Γ0 := Γ0) hS5 [1, 0] (by decide) rfl rfl); clear hS5
  refine l_step hE11 rfl (l_call (f := 205) (argv := [.pointer (some ⟨srcB, 0, none⟩), .int .i64 atoms]) hE11 (fun _ => cf_l15Some _ _) rfl rfl (c_l15Some srcB srcA src.length srcC src srcg atoms w2 w0v (.blk b1 #[.int .i64 0, .slice none 0 0] 79 :: Γ0) hS18 srcR (by omega) (by omega)) ?_)
  rintro _ w13 ⟨b19, c20, rfl, hS16⟩ a14 hE15; clear hE11 hS18
  have hf21 := l15Some_len srcR srcg atoms (by omega) (by omega)
  refine l_step hE15 rfl (l_alloc (z := .agg #[.int .i64 0, .slice none 0 0]) (cs := #[.int .i64 0, .slice none 0 0]) hS16 hE15 (fun _ => by kernel_rfl) rfl rfl ?_)
  intro b22 w23 hS26 he27 a24 hE25; clear hS16 hE15
  refine l_step hE25 rfl (l_storeS (k := 0) (cs' := #[.int .i64 (((F_l15Some src srcg atoms).1).1), .slice b19 ((((F_l15Some src srcg atoms).1).2).length) c20]) hS26 hE25 (by kernel_rfl) rfl rfl (by kernel_rfl) rfl rfl ?_)
  intro w29 hS32 a30 hE31; clear hS26 hE25
  refine c_nil ?_
  have hE34 := hE31.sub (L' := [(0, .pointer (some ⟨srcB, 0, none⟩)), (4, .pointer (some ⟨b1, 0, none⟩)), (5, .pointer (some ⟨b22, 0, none⟩))]) ⟨rfl, rfl, rfl, trivial⟩; clear hE31
  refine p_tn ?_
  refine c_seq ?_
  refine c_seq ?_
  refine c_reg ?_
  refine q_step (v := .pointer (some ⟨srcB, 0, none⟩)) hE34 (y_move rfl) rfl rfl rfl ?_; intro a35 hE36; clear hE34
  have hS43 := (St.pickT (Γ := [.blk b22 #[.int .i64 (((F_l15Some src srcg atoms).1).1), .slice b19 ((((F_l15Some src srcg atoms).1).2).length) c20] 79, .own 2 1 b19 ((((F_l15Some src srcg atoms).1).2).length) c20 (((F_l15Some src srcg atoms).1).2), .blk srcB #[.slice srcA src.length srcC, .int .i64 ((((F_l15Some src srcg atoms).2).1 : Nat) : Int), .int .u64 (((F_l15Some src srcg atoms).2).2)] 156, .blk b1 #[.int .i64 0, .slice none 0 0] 79]) (Γ' := [.blk srcB #[.slice srcA src.length srcC, .int .i64 ((((F_l15Some src srcg atoms).2).1 : Nat) : Int), .int .u64 (((F_l15Some src srcg atoms).2).2)] 156, .blk b22 #[.int .i64 (((F_l15Some src srcg atoms).1).1), .slice b19 ((((F_l15Some src srcg atoms).1).2).length) c20] 79, .own 2 1 b19 ((((F_l15Some src srcg atoms).1).2).length) c20 (((F_l15Some src srcg atoms).1).2), .blk b1 #[.int .i64 0, .slice none 0 0] 79]) (Γ0 := Γ0) hS32 [2, 0, 1, 3] (by decide) rfl rfl); clear hS32
  refine l_step hE36 rfl (l_call (f := 135) (argv := [.pointer (some ⟨srcB, 0, none⟩), .int .i64 20]) hE36 (fun _ => cf_l01Next0 _ _) rfl rfl (c_l01Next srcB srcA src.length srcC src ((F_l15Some src srcg atoms).2) 20 w29 w0v (.blk b22 #[.int .i64 (((F_l15Some src srcg atoms).1).1), .slice b19 ((((F_l15Some src srcg atoms).1).2).length) c20] 79 :: .own 2 1 b19 ((((F_l15Some src srcg atoms).1).2).length) c20 (((F_l15Some src srcg atoms).1).2) :: .blk b1 #[.int .i64 0, .slice none 0 0] 79 :: Γ0) hS43 srcR) ?_)
  rintro _ w38 ⟨rfl, hS41⟩ a39 hE40; clear hE36 hS43
  have hf44 := l01Next_bd srcR ((F_l15Some src srcg atoms).2) 20
  refine c_nil ?_
  have hE45 := hE40.sub (L' := [(0, .pointer (some ⟨srcB, 0, none⟩)), (4, .pointer (some ⟨b1, 0, none⟩)), (5, .pointer (some ⟨b22, 0, none⟩)), (10, .int .i64 ((F_l01Next src ((F_l15Some src srcg atoms).2) 20).1))]) ⟨rfl, rfl, rfl, rfl, trivial⟩; clear hE40
  refine p_tn ?_
  refine wp_block ?_
  refine c_seq ?_
  refine c_reg ?_
  refine q_step (v := .bool (decide (((F_l01Next src ((F_l15Some src srcg atoms).2) 20).1) = 0))) hE45 (y_eql rfl rfl) rfl rfl rfl ?_; intro a46 hE47; clear hE45
  refine q_step (v := .bool (decide (((F_l01Next src ((F_l15Some src srcg atoms).2) 20).1) = 0))) hE47 (y_assign rfl) rfl rfl rfl ?_; intro a48 hE49; clear hE47
  refine c_nil ?_
  have hE50 := hE49.sub (L' := [(0, .pointer (some ⟨srcB, 0, none⟩)), (4, .pointer (some ⟨b1, 0, none⟩)), (5, .pointer (some ⟨b22, 0, none⟩)), (10, .int .i64 ((F_l01Next src ((F_l15Some src srcg atoms).2) 20).1)), (11, .bool (decide (((F_l01Next src ((F_l15Some src srcg atoms).2) 20).1) = 0)))]) ⟨rfl, rfl, rfl, rfl, rfl, trivial⟩; clear hE49
  refine p_tn ?_
  refine c_cond hE50 rfl (fun ht51 => ?_) (fun ht51 => ?_)
  ·
   have hp52 := of_decide_eq_true ht51
   have hE53 := hE50; rw [ht51] at hE53; clear hE50
   refine d_start (fun w w' => (fun w' => w'.cell? ⟨b22, 1, none⟩ = some (.slice b19 ((((F_l15Some src srcg atoms).1).2).length) c20) ∧ w'.cell? ⟨b22, 1, none⟩ = some (.slice b19 ((((F_l15Some src srcg atoms).1).2).length) c20) ∧ True) w → (fun w' => w'.cell? ⟨b22, 1, none⟩ = some (.slice b19 ((((F_l15Some src srcg atoms).1).2).length) c20) ∧ w'.cell? ⟨b22, 1, none⟩ = some (.slice b19 ((((F_l15Some src srcg atoms).1).2).length) c20) ∧ True) w') [1, 4] 11 (by kernel_rfl) rfl ?_
   intro w54 he55; have hS56 := St.go hS41 he55; clear hS41
   refine d_pure (fun _ h => h) (v := .pointer (some ⟨b22, 1, none⟩)) 0 rfl hE53 (y_field rfl (fun _ => by kernel_rfl)) rfl (by kernel_rfl) (by kernel_rfl) (by kernel_rfl) rfl rfl (fun _ _ _ h => h) ?_; intro a57 hE58; clear hE53
   refine d_take (fun _ h => h) (fun _ _ h k => h k) (v := .slice b19 ((((F_l15Some src srcg atoms).1).2).length) c20) 1 rfl hE58 (S := fun w' => w'.cell? ⟨b22, 1, none⟩ = some (.slice b19 ((((F_l15Some src srcg atoms).1).2).length) c20) ∧ w'.cell? ⟨b22, 1, none⟩ = some (.slice b19 ((((F_l15Some src srcg atoms).1).2).length) c20) ∧ True) ⟨(St.cell (i := 1) hS56 rfl rfl _ (Ext.refl _)), (St.cell (i := 1) hS56 rfl rfl _ (Ext.refl _)), trivial⟩ (y_load (fun _ => by kernel_rfl) rfl (fun _ h => h.1)) rfl rfl (by kernel_rfl) (by kernel_rfl) (by kernel_rfl) (by kernel_rfl) rfl rfl (fun _ _ _ h => h) ?_; intro a59 hE60; clear hE58
   refine d_pure (fun _ h => h) (v := .pointer (some ⟨srcB, 0, none⟩)) 2 rfl hE60 (y_move rfl) rfl (by kernel_rfl) (by kernel_rfl) (by kernel_rfl) rfl rfl (fun _ _ _ h => h) ?_; intro a61 hE62; clear hE60
   refine d_pure (fun _ h => h) (v := .pointer (some ⟨b22, 1, none⟩)) 3 rfl hE62 (y_field rfl (fun _ => by kernel_rfl)) rfl (by kernel_rfl) (by kernel_rfl) (by kernel_rfl) rfl rfl (fun _ _ _ h => h) ?_; intro a63 hE64; clear hE62
   refine d_take (fun _ h => h) (fun _ _ h k => h k) (v := .slice b19 ((((F_l15Some src srcg atoms).1).2).length) c20) 4 rfl hE64 (S := fun w' => w'.cell? ⟨b22, 1, none⟩ = some (.slice b19 ((((F_l15Some src srcg atoms).1).2).length) c20) ∧ w'.cell? ⟨b22, 1, none⟩ = some (.slice b19 ((((F_l15Some src srcg atoms).1).2).length) c20) ∧ True) ⟨(St.cell (i := 1) hS56 rfl rfl _ (Ext.refl _)), (St.cell (i := 1) hS56 rfl rfl _ (Ext.refl _)), trivial⟩ (y_load (fun _ => by kernel_rfl) rfl (fun _ h => h.2.1)) rfl rfl (by kernel_rfl) (by kernel_rfl) (by kernel_rfl) (by kernel_rfl) rfl rfl (fun _ _ _ h => h) ?_; intro a65 hE66; clear hE64
   refine d_pure (fun _ h => h) (v := .int .i64 ((((F_l15Some src srcg atoms).1).2).length : Int)) 5 rfl hE66 (y_len (e := 2) (by kernel_rfl) rfl) rfl (by kernel_rfl) (by kernel_rfl) (by kernel_rfl) rfl rfl (fun _ _ _ h => h) ?_; intro a67 hE68; clear hE66
   refine d_pure (fun _ h => h) (v := .pointer (some ⟨srcB, 0, none⟩)) 7 rfl hE68 (y_move rfl) rfl (by kernel_rfl) (by kernel_rfl) (by kernel_rfl) rfl rfl (fun _ _ _ h => h) ?_; intro a69 hE70; clear hE68
   have hS77 := (St.pickT (Γ := [.blk srcB #[.slice srcA src.length srcC, .int .i64 ((((F_l01Next src ((F_l15Some src srcg atoms).2) 20).2).1 : Nat) : Int), .int .u64 (((F_l01Next src ((F_l15Some src srcg atoms).2) 20).2).2)] 156, .blk b22 #[.int .i64 (((F_l15Some src srcg atoms).1).1), .slice b19 ((((F_l15Some src srcg atoms).1).2).length) c20] 79, .own 2 1 b19 ((((F_l15Some src srcg atoms).1).2).length) c20 (((F_l15Some src srcg atoms).1).2), .blk b1 #[.int .i64 0, .slice none 0 0] 79]) (Γ' := [.blk srcB #[.slice srcA src.length srcC, .int .i64 ((((F_l01Next src ((F_l15Some src srcg atoms).2) 20).2).1 : Nat) : Int), .int .u64 (((F_l01Next src ((F_l15Some src srcg atoms).2) 20).2).2)] 156, .blk b22 #[.int .i64 (((F_l15Some src srcg atoms).1).1), .slice b19 ((((F_l15Some src srcg atoms).1).2).length) c20] 79, .own 2 1 b19 ((((F_l15Some src srcg atoms).1).2).length) c20 (((F_l15Some src srcg atoms).1).2), .blk b1 #[.int .i64 0, .slice none 0 0] 79]) (Γ0 := Γ0) hS56 [0, 1, 2, 3] (by decide) rfl rfl); clear hS56
   refine d_only 6 (by kernel_rfl) rfl hE70 rfl (l_call (f := 135) (argv := [.pointer (some ⟨srcB, 0, none⟩), .int .i64 ((((F_l15Some src srcg atoms).1).2).length : Int)]) hE70 (fun _ => cf_l01Next0 _ _) rfl rfl (c_l01Next srcB srcA src.length srcC src ((F_l01Next src ((F_l15Some src srcg atoms).2) 20).2) ((((F_l15Some src srcg atoms).1).2).length : Int) w54 w0v (.blk b22 #[.int .i64 (((F_l15Some src srcg atoms).1).1), .slice b19 ((((F_l15Some src srcg atoms).1).2).length) c20] 79 :: .own 2 1 b19 ((((F_l15Some src srcg atoms).1).2).length) c20 (((F_l15Some src srcg atoms).1).2) :: .blk b1 #[.int .i64 0, .slice none 0 0] 79 :: Γ0) hS77 srcR) ?_)
   rintro _ w72 ⟨rfl, hS75⟩ a73 hE74; clear hE70 hS77
   have hf78 := l01Next_bd srcR ((F_l01Next src ((F_l15Some src srcg atoms).2) 20).2) ((((F_l15Some src srcg atoms).1).2).length : Int)
   refine ⟨fun _ _ => ⟨(St.cell (i := 1) hS75 rfl rfl _ (Ext.refl _)), (St.cell (i := 1) hS75 rfl rfl _ (Ext.refl _)), trivial⟩, ?_⟩
   have hS85 := (St.pickT (Γ := [.blk srcB #[.slice srcA src.length srcC, .int .i64 ((((F_l01Next src ((F_l01Next src ((F_l15Some src srcg atoms).2) 20).2) ((((F_l15Some src srcg atoms).1).2).length : Int)).2).1 : Nat) : Int), .int .u64 (((F_l01Next src ((F_l01Next src ((F_l15Some src srcg atoms).2) 20).2) ((((F_l15Some src srcg atoms).1).2).length : Int)).2).2)] 156, .blk b22 #[.int .i64 (((F_l15Some src srcg atoms).1).1), .slice b19 ((((F_l15Some src srcg atoms).1).2).length) c20] 79, .own 2 1 b19 ((((F_l15Some src srcg atoms).1).2).length) c20 (((F_l15Some src srcg atoms).1).2), .blk b1 #[.int .i64 0, .slice none 0 0] 79]) (Γ' := [.blk srcB #[.slice srcA src.length srcC, .int .i64 ((((F_l01Next src ((F_l01Next src ((F_l15Some src srcg atoms).2) 20).2) ((((F_l15Some src srcg atoms).1).2).length : Int)).2).1 : Nat) : Int), .int .u64 (((F_l01Next src ((F_l01Next src ((F_l15Some src srcg atoms).2) 20).2) ((((F_l15Some src srcg atoms).1).2).length : Int)).2).2)] 156, .blk b22 #[.int .i64 (((F_l15Some src srcg atoms).1).1), .slice b19 ((((F_l15Some src srcg atoms).1).2).length) c20] 79, .own 2 1 b19 ((((F_l15Some src srcg atoms).1).2).length) c20 (((F_l15Some src srcg atoms).1).2), .blk b1 #[.int .i64 0, .slice none 0 0] 79]) (Γ0 := Γ0) hS75 [0, 1, 2, 3] (by decide) rfl rfl); clear hS75
   refine d_only 8 (by kernel_rfl) rfl hE74 rfl (l_call (f := 135) (argv := [.pointer (some ⟨srcB, 0, none⟩), .int .i64 4]) hE74 (fun _ => cf_l01Next0 _ _) rfl rfl (c_l01Next srcB srcA src.length srcC src ((F_l01Next src ((F_l01Next src ((F_l15Some src srcg atoms).2) 20).2) ((((F_l15Some src srcg atoms).1).2).length : Int)).2) 4 w72 w0v (.blk b22 #[.int .i64 (((F_l15Some src srcg atoms).1).1), .slice b19 ((((F_l15Some src srcg atoms).1).2).length) c20] 79 :: .own 2 1 b19 ((((F_l15Some src srcg atoms).1).2).length) c20 (((F_l15Some src srcg atoms).1).2) :: .blk b1 #[.int .i64 0, .slice none 0 0] 79 :: Γ0) hS85 srcR) ?_)
   rintro _ w80 ⟨rfl, hS83⟩ a81 hE82; clear hE74 hS85
   have hf86 := l01Next_bd srcR ((F_l01Next src ((F_l01Next src ((F_l15Some src srcg atoms).2) 20).2) ((((F_l15Some src srcg atoms).1).2).length : Int)).2) 4
   refine ⟨fun _ _ => ⟨(St.cell (i := 1) hS83 rfl rfl _ (Ext.refl _)), (St.cell (i := 1) hS83 rfl rfl _ (Ext.refl _)), trivial⟩, ?_⟩
   refine d_pure (fun _ h => h) (v := .pointer (some (adr b19 (Int.toNat ((F_l01Next src ((F_l01Next src ((F_l15Some src srcg atoms).2) 20).2) ((((F_l15Some src srcg atoms).1).2).length : Int)).1))))) 9 rfl hE82 (y_idx (by kernel_rfl) (fun _ => by kernel_rfl) rfl rfl (RdS.isS (m := (F_l01Next src ((F_l01Next src ((F_l15Some src srcg atoms).2) 20).2) ((((F_l15Some src srcg atoms).1).2).length : Int)).1) (St.rdO (i := 2) hS83 rfl) (by omega) (by omega)) (by omega) (by omega) (Nat.mul_one _).symm) rfl (by kernel_rfl) (by kernel_rfl) (by kernel_rfl) rfl rfl (fun _ _ _ h => h) ?_; intro a87 hE88; clear hE82
   refine d_only 10 (by kernel_rfl) rfl hE88 rfl (l_store (k := 2) hS83 hE88 (fun _ => by kernel_rfl) rfl rfl rfl (by omega) (by omega) ?_)
   intro w90 hS93 a91 hE92; clear hS83 hE88
   refine ⟨fun h => Bool.noConfusion (h.symm.trans (show exm _ _ _ = true by kernel_rfl)), ?_⟩
   refine d_done (by kernel_rfl) ?_
   have hE95 := hE92.sub (L' := [(4, .pointer (some ⟨b1, 0, none⟩)), (5, .pointer (some ⟨b22, 0, none⟩))]) ⟨rfl, rfl, trivial⟩; clear hE92
   refine p_bn ?_
   refine p_tn ?_
   refine c_seq ?_
   refine c_reg ?_
   refine q_step (v := .agg #[.int .i64 (((F_l15Some src srcg atoms).1).1), .slice b19 ((((F_l15Some src srcg atoms).1).2).length) c20]) hE95 (y_loadS Try.underlying79 rfl (by kernel_rfl) rfl (St.row (i := 1) hS93 rfl)) rfl rfl rfl ?_; intro a96 hE97; clear hE95
   refine l_step hE97 rfl (l_storeS (k := 3) (cs' := #[.int .i64 (((F_l15Some src srcg atoms).1).1), .slice b19 ((((F_l15Some src srcg atoms).1).2).length) c20]) hS93 hE97 (by kernel_rfl) rfl rfl (by kernel_rfl) rfl rfl ?_)
   intro w99 hS102 a100 hE101; clear hS93 hE97
   refine c_nil ?_
   have hE104 := hE101.sub (L' := [(4, .pointer (some ⟨b1, 0, none⟩))]) ⟨rfl, trivial⟩; clear hE101
   refine p_tn ?_
   refine wp_ret ?_
   have hF : F_l15Draw src srcg atoms = ((((F_l15Some src srcg atoms).1).1, sI (((F_l15Some src srcg atoms).1).2) ((F_l01Next src ((F_l01Next src ((F_l15Some src srcg atoms).2) 20).2) ((((F_l15Some src srcg atoms).1).2).length : Int)).1) ((F_l01Next src ((F_l01Next src ((F_l01Next src ((F_l15Some src srcg atoms).2) 20).2) ((((F_l15Some src srcg atoms).1).2).length : Int)).2) 4).1)), (F_l01Next src ((F_l01Next src ((F_l01Next src ((F_l15Some src srcg atoms).2) 20).2) ((((F_l15Some src srcg atoms).1).2).length : Int)).2) 4).2) := by unfold F_l15Draw; rw [ht51]; first | done | rfl
   refine c_retC hE104 rfl rfl Try.underlying79 rfl (by kernel_rfl) (St.row (i := 3) hS102 rfl _ (Ext.refl _)) ?_
   have hS9 := (St.pickT (Γ := [.blk srcB #[.slice srcA src.length srcC, .int .i64 ((((F_l01Next src ((F_l01Next src ((F_l01Next src ((F_l15Some src srcg atoms).2) 20).2) ((((F_l15Some src srcg atoms).1).2).length : Int)).2) 4).2).1 : Nat) : Int), .int .u64 (((F_l01Next src ((F_l01Next src ((F_l01Next src ((F_l15Some src srcg atoms).2) 20).2) ((((F_l15Some src srcg atoms).1).2).length : Int)).2) 4).2).2)] 156, .blk b22 #[.int .i64 (((F_l15Some src srcg atoms).1).1), .slice b19 ((((F_l15Some src srcg atoms).1).2).length) c20] 79, .own 2 1 b19 ((((F_l15Some src srcg atoms).1).2).length) c20 (sI (((F_l15Some src srcg atoms).1).2) ((F_l01Next src ((F_l01Next src ((F_l15Some src srcg atoms).2) 20).2) ((((F_l15Some src srcg atoms).1).2).length : Int)).1) ((F_l01Next src ((F_l01Next src ((F_l01Next src ((F_l15Some src srcg atoms).2) 20).2) ((((F_l15Some src srcg atoms).1).2).length : Int)).2) 4).1)), .blk b1 #[.int .i64 (((F_l15Some src srcg atoms).1).1), .slice b19 ((((F_l15Some src srcg atoms).1).2).length) c20] 79]) (Γ' := [.own 2 1 b19 ((((F_l15Some src srcg atoms).1).2).length) c20 (sI (((F_l15Some src srcg atoms).1).2) ((F_l01Next src ((F_l01Next src ((F_l15Some src srcg atoms).2) 20).2) ((((F_l15Some src srcg atoms).1).2).length : Int)).1) ((F_l01Next src ((F_l01Next src ((F_l01Next src ((F_l15Some src srcg atoms).2) 20).2) ((((F_l15Some src srcg atoms).1).2).length : Int)).2) 4).1)), .blk srcB #[.slice srcA src.length srcC, .int .i64 ((((F_l01Next src ((F_l01Next src ((F_l01Next src ((F_l15Some src srcg atoms).2) 20).2) ((((F_l15Some src srcg atoms).1).2).length : Int)).2) 4).2).1 : Nat) : Int), .int .u64 (((F_l01Next src ((F_l01Next src ((F_l01Next src ((F_l15Some src srcg atoms).2) 20).2) ((((F_l15Some src srcg atoms).1).2).length : Int)).2) 4).2).2)] 156]) (Γ0 := Γ0) hS102 [2, 0] (by decide) rfl rfl)
   exact ⟨b19, c20, (by rw [hF]; (try dsimp only); rw [(St.rdO (i := 2) hS102 rfl).len1]), (by rw [hF]; (try dsimp only); rw [(St.rdO (i := 2) hS102 rfl).len1]; exact hS9)⟩
  ·
   have hp105 := of_decide_eq_false ht51
   have hE106 := hE50; rw [ht51] at hE106; clear hE50
   refine c_seq ?_
   refine c_reg ?_
   refine q_step (v := .bool (decide (((F_l01Next src ((F_l15Some src srcg atoms).2) 20).1) = 1))) hE106 (y_eql rfl rfl) rfl rfl rfl ?_; intro a107 hE108; clear hE106
   refine q_step (v := .bool (decide (((F_l01Next src ((F_l15Some src srcg atoms).2) 20).1) = 1))) hE108 (y_assign rfl) rfl rfl rfl ?_; intro a109 hE110; clear hE108
   refine c_nil ?_
   have hE111 := hE110.sub (L' := [(0, .pointer (some ⟨srcB, 0, none⟩)), (4, .pointer (some ⟨b1, 0, none⟩)), (5, .pointer (some ⟨b22, 0, none⟩)), (23, .bool (decide (((F_l01Next src ((F_l15Some src srcg atoms).2) 20).1) = 1)))]) ⟨rfl, rfl, rfl, rfl, trivial⟩; clear hE110
   refine p_tn ?_
   refine c_cond hE111 rfl (fun ht112 => ?_) (fun ht112 => ?_)
   ·
    have hp113 := of_decide_eq_true ht112
    have hE114 := hE111; rw [ht112] at hE114; clear hE111
    refine c_reg ?_
    refine q_step (v := .pointer (some ⟨srcB, 0, none⟩)) hE114 (y_move rfl) rfl rfl rfl ?_; intro a115 hE116; clear hE114
    refine l_step hE116 rfl (l_lit (e := 2) (s := 1) (xs := [-1, 6, 2]) (vs := [.int .i64 (-1), .int .i64 6, .int .i64 2]) hS41 hE116 rfl (fun _ => by kernel_rfl) rfl rfl rfl ?_)
    intro b117 w118 hS121 he122 a119 hE120; clear hS41 hE116
    have hS129 := (St.pickT (Γ := [.own 2 1 (some ⟨b117, 0, none⟩) 3 3 ([-1, 6, 2]), .blk srcB #[.slice srcA src.length srcC, .int .i64 ((((F_l01Next src ((F_l15Some src srcg atoms).2) 20).2).1 : Nat) : Int), .int .u64 (((F_l01Next src ((F_l15Some src srcg atoms).2) 20).2).2)] 156, .blk b22 #[.int .i64 (((F_l15Some src srcg atoms).1).1), .slice b19 ((((F_l15Some src srcg atoms).1).2).length) c20] 79, .own 2 1 b19 ((((F_l15Some src srcg atoms).1).2).length) c20 (((F_l15Some src srcg atoms).1).2), .blk b1 #[.int .i64 0, .slice none 0 0] 79]) (Γ' := [.own 2 1 (some ⟨b117, 0, none⟩) 3 3 ([-1, 6, 2]), .blk srcB #[.slice srcA src.length srcC, .int .i64 ((((F_l01Next src ((F_l15Some src srcg atoms).2) 20).2).1 : Nat) : Int), .int .u64 (((F_l01Next src ((F_l15Some src srcg atoms).2) 20).2).2)] 156, .blk b22 #[.int .i64 (((F_l15Some src srcg atoms).1).1), .slice b19 ((((F_l15Some src srcg atoms).1).2).length) c20] 79, .own 2 1 b19 ((((F_l15Some src srcg atoms).1).2).length) c20 (((F_l15Some src srcg atoms).1).2), .blk b1 #[.int .i64 0, .slice none 0 0] 79]) (Γ0 := Γ0) hS121 [0, 1, 2, 3, 4] (by decide) rfl rfl); clear hS121
    refine l_step hE120 rfl (l_call (f := 137) (argv := [.pointer (some ⟨srcB, 0, none⟩), .slice (some ⟨b117, 0, none⟩) 3 3]) hE120 (fun _ => cf_l01Pick _ _) rfl rfl (c_l01Pick srcB srcA src.length srcC src ((F_l01Next src ((F_l15Some src srcg atoms).2) 20).2) (some ⟨b117, 0, none⟩) 3 3 ([-1, 6, 2]) w118 w0v (.blk b22 #[.int .i64 (((F_l15Some src srcg atoms).1).1), .slice b19 ((((F_l15Some src srcg atoms).1).2).length) c20] 79 :: .own 2 1 b19 ((((F_l15Some src srcg atoms).1).2).length) c20 (((F_l15Some src srcg atoms).1).2) :: .blk b1 #[.int .i64 0, .slice none 0 0] 79 :: Γ0) hS129 srcR (by simp)) ?_)
    rintro _ w124 ⟨rfl, hS127⟩ a125 hE126; clear hE120 hS129
    refine q_step (v := .pointer (some ⟨b22, 0, none⟩)) hE126 (y_field rfl (fun _ => by kernel_rfl)) rfl rfl rfl ?_; intro a130 hE131; clear hE126
    refine l_step hE131 rfl (l_storeB (k := 2) (cs' := #[.int .i64 ((F_l01Pick src ((F_l01Next src ((F_l15Some src srcg atoms).2) 20).2) ([-1, 6, 2])).1), .slice b19 ((((F_l15Some src srcg atoms).1).2).length) c20]) hS127 hE131 (fun _ => by kernel_rfl) rfl rfl rfl rfl rfl rfl rfl ?_)
    intro w133 hS136 a134 hE135; clear hS127 hE131
    refine c_nil ?_
    have hE138 := hE135.sub (L' := [(4, .pointer (some ⟨b1, 0, none⟩)), (5, .pointer (some ⟨b22, 0, none⟩))]) ⟨rfl, rfl, trivial⟩; clear hE135
    refine p_bn ?_
    refine p_tn ?_
    refine c_seq ?_
    refine c_reg ?_
    refine q_step (v := .agg #[.int .i64 ((F_l01Pick src ((F_l01Next src ((F_l15Some src srcg atoms).2) 20).2) ([-1, 6, 2])).1), .slice b19 ((((F_l15Some src srcg atoms).1).2).length) c20]) hE138 (y_loadS Try.underlying79 rfl (by kernel_rfl) rfl (St.row (i := 2) hS136 rfl)) rfl rfl rfl ?_; intro a139 hE140; clear hE138
    refine l_step hE140 rfl (l_storeS (k := 4) (cs' := #[.int .i64 ((F_l01Pick src ((F_l01Next src ((F_l15Some src srcg atoms).2) 20).2) ([-1, 6, 2])).1), .slice b19 ((((F_l15Some src srcg atoms).1).2).length) c20]) hS136 hE140 (by kernel_rfl) rfl rfl (by kernel_rfl) rfl rfl ?_)
    intro w142 hS145 a143 hE144; clear hS136 hE140
    refine c_nil ?_
    have hE147 := hE144.sub (L' := [(4, .pointer (some ⟨b1, 0, none⟩))]) ⟨rfl, trivial⟩; clear hE144
    refine p_tn ?_
    refine wp_ret ?_
    have hF : F_l15Draw src srcg atoms = (((F_l01Pick src ((F_l01Next src ((F_l15Some src srcg atoms).2) 20).2) ([-1, 6, 2])).1, ((F_l15Some src srcg atoms).1).2), (F_l01Pick src ((F_l01Next src ((F_l15Some src srcg atoms).2) 20).2) ([-1, 6, 2])).2) := by unfold F_l15Draw; rw [ht112, ht51]; first | done | rfl
    refine c_retC hE147 rfl rfl Try.underlying79 rfl (by kernel_rfl) (St.row (i := 4) hS145 rfl _ (Ext.refl _)) ?_
    have hS9 := (St.pickT (Γ := [.own 2 1 (some ⟨b117, 0, none⟩) 3 3 ([-1, 6, 2]), .blk srcB #[.slice srcA src.length srcC, .int .i64 ((((F_l01Pick src ((F_l01Next src ((F_l15Some src srcg atoms).2) 20).2) ([-1, 6, 2])).2).1 : Nat) : Int), .int .u64 (((F_l01Pick src ((F_l01Next src ((F_l15Some src srcg atoms).2) 20).2) ([-1, 6, 2])).2).2)] 156, .blk b22 #[.int .i64 ((F_l01Pick src ((F_l01Next src ((F_l15Some src srcg atoms).2) 20).2) ([-1, 6, 2])).1), .slice b19 ((((F_l15Some src srcg atoms).1).2).length) c20] 79, .own 2 1 b19 ((((F_l15Some src srcg atoms).1).2).length) c20 (((F_l15Some src srcg atoms).1).2), .blk b1 #[.int .i64 ((F_l01Pick src ((F_l01Next src ((F_l15Some src srcg atoms).2) 20).2) ([-1, 6, 2])).1), .slice b19 ((((F_l15Some src srcg atoms).1).2).length) c20] 79]) (Γ' := [.own 2 1 b19 ((((F_l15Some src srcg atoms).1).2).length) c20 (((F_l15Some src srcg atoms).1).2), .blk srcB #[.slice srcA src.length srcC, .int .i64 ((((F_l01Pick src ((F_l01Next src ((F_l15Some src srcg atoms).2) 20).2) ([-1, 6, 2])).2).1 : Nat) : Int), .int .u64 (((F_l01Pick src ((F_l01Next src ((F_l15Some src srcg atoms).2) 20).2) ([-1, 6, 2])).2).2)] 156]) (Γ0 := Γ0) hS145 [3, 1] (by decide) rfl rfl)
    exact ⟨b19, c20, (by rw [hF]), (by rw [hF]; (try dsimp only); exact hS9)⟩
   ·
    have hp148 := of_decide_eq_false ht112
    have hE149 := hE111; rw [ht112] at hE149; clear hE111
    refine wp_skip ?_
    refine p_bn ?_
    refine p_tn ?_
    refine c_seq ?_
    refine c_reg ?_
    refine q_step (v := .agg #[.int .i64 (((F_l15Some src srcg atoms).1).1), .slice b19 ((((F_l15Some src srcg atoms).1).2).length) c20]) hE149 (y_loadS Try.underlying79 rfl (by kernel_rfl) rfl (St.row (i := 1) hS41 rfl)) rfl rfl rfl ?_; intro a150 hE151; clear hE149
    refine l_step hE151 rfl (l_storeS (k := 3) (cs' := #[.int .i64 (((F_l15Some src srcg atoms).1).1), .slice b19 ((((F_l15Some src srcg atoms).1).2).length) c20]) hS41 hE151 (by kernel_rfl) rfl rfl (by kernel_rfl) rfl rfl ?_)
    intro w153 hS156 a154 hE155; clear hS41 hE151
    refine c_nil ?_
    have hE158 := hE155.sub (L' := [(4, .pointer (some ⟨b1, 0, none⟩))]) ⟨rfl, trivial⟩; clear hE155
    refine p_tn ?_
    refine wp_ret ?_
    have hF : F_l15Draw src srcg atoms = ((((F_l15Some src srcg atoms).1).1, ((F_l15Some src srcg atoms).1).2), (F_l01Next src ((F_l15Some src srcg atoms).2) 20).2) := by unfold F_l15Draw; rw [ht112, ht51]; first | done | rfl
    refine c_retC hE158 rfl rfl Try.underlying79 rfl (by kernel_rfl) (St.row (i := 3) hS156 rfl _ (Ext.refl _)) ?_
    have hS9 := (St.pickT (Γ := [.blk srcB #[.slice srcA src.length srcC, .int .i64 ((((F_l01Next src ((F_l15Some src srcg atoms).2) 20).2).1 : Nat) : Int), .int .u64 (((F_l01Next src ((F_l15Some src srcg atoms).2) 20).2).2)] 156, .blk b22 #[.int .i64 (((F_l15Some src srcg atoms).1).1), .slice b19 ((((F_l15Some src srcg atoms).1).2).length) c20] 79, .own 2 1 b19 ((((F_l15Some src srcg atoms).1).2).length) c20 (((F_l15Some src srcg atoms).1).2), .blk b1 #[.int .i64 (((F_l15Some src srcg atoms).1).1), .slice b19 ((((F_l15Some src srcg atoms).1).2).length) c20] 79]) (Γ' := [.own 2 1 b19 ((((F_l15Some src srcg atoms).1).2).length) c20 (((F_l15Some src srcg atoms).1).2), .blk srcB #[.slice srcA src.length srcC, .int .i64 ((((F_l01Next src ((F_l15Some src srcg atoms).2) 20).2).1 : Nat) : Int), .int .u64 (((F_l01Next src ((F_l15Some src srcg atoms).2) 20).2).2)] 156]) (Γ0 := Γ0) hS156 [2, 0] (by decide) rfl rfl)
    exact ⟨b19, c20, (by rw [hF]), (by rw [hF]; (try dsimp only); exact hS9)⟩
theorem l15Draw_len {w : World} {a : Option Addr} {n c : Nat} {src : List Int} (hR : RdB w a n c src) (srcg : Nat × Int) (atoms : Int) (h0 : 0 ≤ atoms) (h1 : atoms ≤ 5) : 1 ≤ (F_l15Draw src srcg atoms).1.2.length ∧ (F_l15Draw src srcg atoms).1.2.length ≤ 32 := by
  have hw := l15Some_len hR srcg atoms h0 h1
  unfold F_l15Draw
  generalize F_l15Some src srcg atoms = X at *
  cases decide ((F_l01Next src X.2 20).1 = 0) <;> cases decide ((F_l01Next src X.2 20).1 = 1) <;> simp only [cond_true, cond_false, sI_len] <;> omega
def F_s_DrawFrameOfAlgebra (code : List Int) : Int × List Int :=
  (((F_l15Draw code (F_l01From code) 5).1).1, ((F_l15Draw code (F_l01From code) 5).1).2)
theorem cf_s_DrawFrameOfAlgebra (args : Array Value) (w : World) : (callFunc 67 args).run Try.prog w = .ok (.enter 67 args) w := by kernel_rfl
set_option maxRecDepth 100000 in
theorem c_s_DrawFrameOfAlgebra (codeA : Option Addr) (codeN codeC : Nat) (code : List Int) (w : World) (codeR : RdB w codeA codeN codeC code) :
    Calls Try.prog 67 #[.slice codeA code.length codeC] w (Ret fun v w' => ∃ b1 : Option Addr, ∃ c1 : Nat, v = .agg #[.int .i64 ((F_s_DrawFrameOfAlgebra code).1), .slice b1 ((F_s_DrawFrameOfAlgebra code).2).length c1] ∧ OwnS w' w.heap.size 2 1 b1 ((F_s_DrawFrameOfAlgebra code).2).length c1 ((F_s_DrawFrameOfAlgebra code).2) ∧ Ext w w') := by
  obtain rfl : codeN = code.length := codeR.len
  have codeLe := codeR.le
  have hS := St.nil w
  refine enter (args := [.slice codeA code.length codeC]) Try.func67 rfl rfl ?_
  rw [Try.ntmps67]; intro a hE
  have hE := hE.sub (L' := [(0, .slice codeA code.length codeC)]) ⟨rfl, trivial⟩
  refine c_seq ?_
  refine c_reg ?_
  refine l_step hE rfl (l_alloc (z := .agg #[.int .i64 0, .slice none 0 0]) (cs := #[.int .i64 0, .slice none 0 0]) hS hE (fun _ => by kernel_rfl) rfl rfl ?_)
  intro b1 w2 hS5 he6 a3 hE4; clear hS hE
  refine c_nil ?_
  have hE7 := hE4.sub (L' := [(0, .slice codeA code.length codeC), (2, .pointer (some ⟨b1, 0, none⟩))]) ⟨rfl, rfl, trivial⟩; clear hE4
  refine p_tn ?_
  refine c_seq ?_
  refine c_reg ?_
  refine q_step (v := .slice codeA code.length codeC) hE7 (y_move rfl) rfl rfl rfl ?_; intro a8 hE9; clear hE7
  refine l_step hE9 rfl (l_call (f := 128) (argv := [.slice codeA code.length codeC]) hE9 (fun _ => cf_l01From _ _) rfl rfl (c_l01From codeA code.length codeC code w2 (codeR.ext hS5.ext)) ?_)
  rintro _ w11 ⟨b16, rfl, ho17⟩ a12 hE13; clear hE9
  have he15 := ho17.ext
  have hS14 := St.comp hS5 ho17 rfl; clear hS5
  simp only [List.cons_append, List.nil_append] at hS14
  have hS24 := (St.pick (Γ' := [.blk b16 #[.slice codeA code.length codeC, .int .i64 (((F_l01From code).1 : Nat) : Int), .int .u64 ((F_l01From code).2)] 156, .blk b1 #[.int .i64 0, .slice none 0 0] 79]) hS14 [0, 1] (by decide) rfl); clear hS14
  refine l_step hE13 rfl (l_call (f := 127) (argv := [.pointer (some ⟨b16, 0, none⟩), .int .i64 5]) hE13 (fun _ => cf_l15Draw _ _) rfl rfl (c_l15Draw b16 codeA code.length codeC code (F_l01From code) 5 w11 w [.blk b1 #[.int .i64 0, .slice none 0 0] 79] hS24 codeR (by omega) (by omega)) ?_)
  rintro _ w19 ⟨b25, c26, rfl, hS22⟩ a20 hE21; clear hE13 hS24
  have hf27 := l15Draw_len codeR (F_l01From code) 5 (by omega) (by omega)
  refine l_step hE21 rfl (l_storeS (k := 2) (cs' := #[.int .i64 (((F_l15Draw code (F_l01From code) 5).1).1), .slice b25 ((((F_l15Draw code (F_l01From code) 5).1).2).length) c26]) hS22 hE21 (by kernel_rfl) rfl rfl (by kernel_rfl) rfl rfl ?_)
  intro w29 hS32 a30 hE31; clear hS22 hE21
  refine c_nil ?_
  have hE34 := hE31.sub (L' := [(2, .pointer (some ⟨b1, 0, none⟩))]) ⟨rfl, trivial⟩; clear hE31
  refine p_tn ?_
  refine wp_ret ?_
  have hF : F_s_DrawFrameOfAlgebra code = (((F_l15Draw code (F_l01From code) 5).1).1, ((F_l15Draw code (F_l01From code) 5).1).2) := by unfold F_s_DrawFrameOfAlgebra; rfl
  refine c_retC hE34 rfl rfl Try.underlying79 rfl (by kernel_rfl) (St.row (i := 2) hS32 rfl _ (Ext.refl _)) ?_
  exact ⟨b25, c26, (by rw [hF]; first | done | (dsimp only; done) | rfl), (by rw [hF]; (try dsimp only); exact hS32.ok 0 _ rfl), hS32.ext⟩
def F_s_DrawAlgebraOfFrame (code : List Int) : Int × List Int :=
  (((F_l05Draw code ((F_l01Next code (F_l01From code) 5).2) (2 + ((F_l01Next code (F_l01From code) 5).1))).1).1, ((F_l05Draw code ((F_l01Next code (F_l01From code) 5).2) (2 + ((F_l01Next code (F_l01From code) 5).1))).1).2)
theorem cf_s_DrawAlgebraOfFrame (args : Array Value) (w : World) : (callFunc 73 args).run Try.prog w = .ok (.enter 73 args) w := by kernel_rfl
set_option maxRecDepth 100000 in
theorem c_s_DrawAlgebraOfFrame (codeA : Option Addr) (codeN codeC : Nat) (code : List Int) (w : World) (codeR : RdB w codeA codeN codeC code) :
    Calls Try.prog 73 #[.slice codeA code.length codeC] w (Ret fun v w' => ∃ b1 : Option Addr, ∃ c1 : Nat, v = .agg #[.int .i64 ((F_s_DrawAlgebraOfFrame code).1), .slice b1 ((F_s_DrawAlgebraOfFrame code).2).length c1] ∧ OwnS w' w.heap.size 2 1 b1 ((F_s_DrawAlgebraOfFrame code).2).length c1 ((F_s_DrawAlgebraOfFrame code).2) ∧ Ext w w') := by
  obtain rfl : codeN = code.length := codeR.len
  have codeLe := codeR.le
  have hS := St.nil w
  refine enter (args := [.slice codeA code.length codeC]) Try.func73 rfl rfl ?_
  rw [Try.ntmps73]; intro a hE
  have hE := hE.sub (L' := [(0, .slice codeA code.length codeC)]) ⟨rfl, trivial⟩
  refine c_seq ?_
  refine c_reg ?_
  refine l_step hE rfl (l_alloc (z := .agg #[.int .i64 0, .slice none 0 0]) (cs := #[.int .i64 0, .slice none 0 0]) hS hE (fun _ => by kernel_rfl) rfl rfl ?_)
  intro b1 w2 hS5 he6 a3 hE4; clear hS hE
  refine c_nil ?_
  have hE7 := hE4.sub (L' := [(0, .slice codeA code.length codeC), (2, .pointer (some ⟨b1, 0, none⟩))]) ⟨rfl, rfl, trivial⟩; clear hE4
  refine p_tn ?_
  refine c_seq ?_
  refine c_reg ?_
  refine q_step (v := .slice codeA code.length codeC) hE7 (y_move rfl) rfl rfl rfl ?_; intro a8 hE9; clear hE7
  refine l_step hE9 rfl (l_call (f := 128) (argv := [.slice codeA code.length codeC]) hE9 (fun _ => cf_l01From _ _) rfl rfl (c_l01From codeA code.length codeC code w2 (codeR.ext hS5.ext)) ?_)
  rintro _ w11 ⟨b16, rfl, ho17⟩ a12 hE13; clear hE9
  have he15 := ho17.ext
  have hS14 := St.comp hS5 ho17 rfl; clear hS5
  simp only [List.cons_append, List.nil_append] at hS14
  refine q_step (v := .pointer (some ⟨b16, 0, none⟩)) hE13 (y_assign rfl) rfl rfl rfl ?_; intro a18 hE19; clear hE13
  refine c_nil ?_
  have hE20 := hE19.sub (L' := [(2, .pointer (some ⟨b1, 0, none⟩)), (3, .pointer (some ⟨b16, 0, none⟩))]) ⟨rfl, rfl, trivial⟩; clear hE19
  refine p_tn ?_
  refine c_seq ?_
  refine c_reg ?_
  refine q_step (v := .pointer (some ⟨b16, 0, none⟩)) hE20 (y_move rfl) rfl rfl rfl ?_; intro a21 hE22; clear hE20
  refine q_step (v := .pointer (some ⟨b16, 0, none⟩)) hE22 (y_move rfl) rfl rfl rfl ?_; intro a23 hE24; clear hE22
  have hS31 := (St.pick (Γ' := [.blk b16 #[.slice codeA code.length codeC, .int .i64 (((F_l01From code).1 : Nat) : Int), .int .u64 ((F_l01From code).2)] 156, .blk b1 #[.int .i64 0, .slice none 0 0] 30]) hS14 [0, 1] (by decide) rfl); clear hS14
  refine l_step hE24 rfl (l_call (f := 135) (argv := [.pointer (some ⟨b16, 0, none⟩), .int .i64 5]) hE24 (fun _ => cf_l01Next0 _ _) rfl rfl (c_l01Next b16 codeA code.length codeC code (F_l01From code) 5 w11 w [.blk b1 #[.int .i64 0, .slice none 0 0] 30] hS31 codeR) ?_)
  rintro _ w26 ⟨rfl, hS29⟩ a27 hE28; clear hE24 hS31
  have hf32 := l01Next_bd codeR (F_l01From code) 5
  refine q_step (v := .int .i64 (2 + ((F_l01Next code (F_l01From code) 5).1))) hE28 (y_add rfl rfl ⟨(by omega), (by omega)⟩) rfl rfl rfl ?_; intro a33 hE34; clear hE28
  have hS41 := (St.pick (Γ' := [.blk b16 #[.slice codeA code.length codeC, .int .i64 ((((F_l01Next code (F_l01From code) 5).2).1 : Nat) : Int), .int .u64 (((F_l01Next code (F_l01From code) 5).2).2)] 156, .blk b1 #[.int .i64 0, .slice none 0 0] 30]) hS29 [0, 1] (by decide) rfl); clear hS29
  refine l_step hE34 rfl (l_call (f := 134) (argv := [.pointer (some ⟨b16, 0, none⟩), .int .i64 (2 + ((F_l01Next code (F_l01From code) 5).1))]) hE34 (fun _ => cf_l05Draw _ _) rfl rfl (c_l05Draw b16 codeA code.length codeC code ((F_l01Next code (F_l01From code) 5).2) (2 + ((F_l01Next code (F_l01From code) 5).1)) w26 w [.blk b1 #[.int .i64 0, .slice none 0 0] 30] hS41 codeR (by omega) (by omega)) ?_)
  rintro _ w36 ⟨b42, c43, rfl, hS39⟩ a37 hE38; clear hE34 hS41
  have hf44 := l05Draw_len codeR ((F_l01Next code (F_l01From code) 5).2) (2 + ((F_l01Next code (F_l01From code) 5).1)) (by omega) (by omega)
  refine l_step hE38 rfl (l_storeS (k := 2) (cs' := #[.int .i64 (((F_l05Draw code ((F_l01Next code (F_l01From code) 5).2) (2 + ((F_l01Next code (F_l01From code) 5).1))).1).1), .slice b42 ((((F_l05Draw code ((F_l01Next code (F_l01From code) 5).2) (2 + ((F_l01Next code (F_l01From code) 5).1))).1).2).length) c43]) hS39 hE38 (by kernel_rfl) rfl rfl (by kernel_rfl) rfl rfl ?_)
  intro w46 hS49 a47 hE48; clear hS39 hE38
  refine c_nil ?_
  have hE51 := hE48.sub (L' := [(2, .pointer (some ⟨b1, 0, none⟩))]) ⟨rfl, trivial⟩; clear hE48
  refine p_tn ?_
  refine wp_ret ?_
  have hF : F_s_DrawAlgebraOfFrame code = (((F_l05Draw code ((F_l01Next code (F_l01From code) 5).2) (2 + ((F_l01Next code (F_l01From code) 5).1))).1).1, ((F_l05Draw code ((F_l01Next code (F_l01From code) 5).2) (2 + ((F_l01Next code (F_l01From code) 5).1))).1).2) := by unfold F_s_DrawAlgebraOfFrame; rfl
  refine c_retC hE51 rfl rfl Try.underlying30 rfl (by kernel_rfl) (St.row (i := 2) hS49 rfl _ (Ext.refl _)) ?_
  exact ⟨b42, c43, (by rw [hF]; first | done | (dsimp only; done) | rfl), (by rw [hF]; (try dsimp only); exact hS49.ok 0 _ rfl), hS49.ext⟩
end Go.Proofs.Ytlbonhloeefnmaa
