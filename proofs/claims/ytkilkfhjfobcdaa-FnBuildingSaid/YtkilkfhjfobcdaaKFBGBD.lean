/- GBD: models and contracts, printed by wip/gen/gen.py -/
import Derived.Test.YtkilkfhjfobcdaaKFBGRA
import Derived.Test.YtkilkfhjfobcdaaKFBGDR
import Derived.Test.YtkilkfhjfobcdaaKFBDel
set_option linter.unusedVariables false
set_option linter.unusedSimpArgs false
namespace Go.Proofs.Ytkilkfhjfobcdaa
open Go.RowKit
def F_l02Var (vp : Int) : List Int :=
  [0, vp]
theorem cf_l02Var (args : Array Value) (w : World) : (callFunc 202 args).run Try.prog w = .ok (.enter 202 args) w := by kernel_rfl
set_option maxRecDepth 100000 in
theorem c_l02Var (vp : Int) (w : World) :
    Calls Try.prog 202 #[.int .i64 vp] w (Ret fun v w' => ∃ b1 : Option Addr, ∃ c1 : Nat, v = .slice b1 ((F_l02Var vp).length / 2 : Nat) c1 ∧ OwnS w' w.heap.size 94 2 b1 ((F_l02Var vp).length / 2 : Nat) c1 (F_l02Var vp) ∧ Ext w w') := by
  have hS := St.nil w
  refine enter (args := [.int .i64 vp]) Try.func202 rfl rfl ?_
  rw [Try.ntmps202]; intro a hE
  have hE := hE.sub (L' := [(0, .int .i64 vp)]) ⟨rfl, trivial⟩
  refine c_seq ?_
  refine c_reg ?_
  refine q_step (v := .slice none 0 0) hE (y_assign rfl) rfl rfl rfl ?_; intro a1 hE2; clear hE
  refine c_nil ?_
  have hE3 := hE2.sub (L' := [(0, .int .i64 vp)]) ⟨rfl, trivial⟩; clear hE2
  refine p_tn ?_
  refine c_seq ?_
  refine c_reg ?_
  refine q_step (v := .int .i64 vp) hE3 (y_move rfl) rfl rfl rfl ?_; intro a4 hE5; clear hE3
  refine q_step (v := .agg #[.int .i64 0, .int .i64 vp]) hE5 (y_build (vs := #[(0, .int .i64 0), (1, .int .i64 vp)]) (fun a n hE => by simp only [hE.eval (x := .const (.int .i64 0)) (v := .int .i64 0) rfl, hE.eval (x := .tmp 3) (v := .int .i64 vp) rfl, List.map_toArray, List.map_cons, List.map_nil]) (fun _ => by kernel_rfl)) rfl rfl rfl ?_; intro a6 hE7; clear hE5
  refine l_step hE7 rfl (l_lit (e := 94) (s := 2) (xs := [0, vp]) (vs := [.agg #[.int .i64 0, .int .i64 vp]]) hS hE7 rfl (fun _ => by kernel_rfl) rfl rfl rfl ?_)
  intro b8 w9 hS12 he13 a10 hE11; clear hS hE7
  refine q_step (v := .slice (some ⟨b8, 0, none⟩) 1 1) hE11 (y_assign rfl) rfl rfl rfl ?_; intro a14 hE15; clear hE11
  refine c_nil ?_
  have hE16 := hE15.sub (L' := [(2, .slice (some ⟨b8, 0, none⟩) 1 1)]) ⟨rfl, trivial⟩; clear hE15
  refine p_tn ?_
  refine wp_ret ?_
  have hF : F_l02Var vp = [0, vp] := by unfold F_l02Var; rfl
  refine c_ret1 hE16 rfl rfl ?_
  exact ⟨some ⟨b8, 0, none⟩, 1, (by rw [hF]; first | rfl | (rw [((St.rdO (i := 0) hS12 rfl).lenD (by decide))])), (by rw [hF, ((St.rdO (i := 0) hS12 rfl).lenD (by decide))]; (try dsimp only); exact hS12.ok 0 _ rfl), hS12.ext⟩
theorem l02Var_len (v : Int) : (F_l02Var v).length = 2 := rfl
def F_l02Draw_b (self : List Int → Nat × Int → Int → Int → Bool → (List Int × (Nat × Int))) (src : List Int) (srcg : Nat × Int) (size : Int) (vars : Int) (modal : Bool) : List Int × (Nat × Int) :=
  bif (decide (size ≤ 2)) then (bif (decide (((F_l01Next src srcg 8).1) = 0)) then (F_l02False, (F_l01Next src srcg 8).2) else (F_l02Var ((F_l01Next src ((F_l01Next src srcg 8).2) vars).1), (F_l01Next src ((F_l01Next src srcg 8).2) vars).2)) else (bif (decide (((F_l01Next src srcg 9).1) = 0)) then (bif (decide (((F_l01Next src ((F_l01Next src srcg 9).2) 8).1) = 0)) then (F_l02False, (F_l01Next src ((F_l01Next src srcg 9).2) 8).2) else (F_l02Var ((F_l01Next src ((F_l01Next src ((F_l01Next src srcg 9).2) 8).2) vars).1), (F_l01Next src ((F_l01Next src ((F_l01Next src srcg 9).2) 8).2) vars).2)) else (bif modal then (bif (decide (((F_l01Next src ((F_l01Next src srcg 9).2) 3).1) = 0)) then (F_l02Pre (5 + ((F_l01Next src ((F_l01Next src ((F_l01Next src srcg 9).2) 3).2) 2).1)) ((self src ((F_l01Next src ((F_l01Next src ((F_l01Next src srcg 9).2) 3).2) 2).2) (size - 1) vars true).1), (self src ((F_l01Next src ((F_l01Next src ((F_l01Next src srcg 9).2) 3).2) 2).2) (size - 1) vars true).2) else (bif (decide (((F_l01Next src ((F_l01Next src ((F_l01Next src srcg 9).2) 3).2) 6).1) = 0)) then (F_l02Not ((self src ((F_l01Next src ((F_l01Next src ((F_l01Next src srcg 9).2) 3).2) 6).2) (size - 2) vars true).1), (self src ((F_l01Next src ((F_l01Next src ((F_l01Next src srcg 9).2) 3).2) 6).2) (size - 2) vars true).2) else (F_l02Pair (2 + ((F_l01Next src ((self src ((F_l01Next src ((F_l01Next src ((F_l01Next src ((F_l01Next src srcg 9).2) 3).2) 6).2) (size - 2)).2) (1 + ((F_l01Next src ((F_l01Next src ((F_l01Next src ((F_l01Next src srcg 9).2) 3).2) 6).2) (size - 2)).1)) vars true).2) 3).1)) ((self src ((F_l01Next src ((F_l01Next src ((F_l01Next src ((F_l01Next src srcg 9).2) 3).2) 6).2) (size - 2)).2) (1 + ((F_l01Next src ((F_l01Next src ((F_l01Next src ((F_l01Next src srcg 9).2) 3).2) 6).2) (size - 2)).1)) vars true).1) ((self src ((F_l01Next src ((self src ((F_l01Next src ((F_l01Next src ((F_l01Next src ((F_l01Next src srcg 9).2) 3).2) 6).2) (size - 2)).2) (1 + ((F_l01Next src ((F_l01Next src ((F_l01Next src ((F_l01Next src srcg 9).2) 3).2) 6).2) (size - 2)).1)) vars true).2) 3).2) ((size - 1) - (1 + ((F_l01Next src ((F_l01Next src ((F_l01Next src ((F_l01Next src srcg 9).2) 3).2) 6).2) (size - 2)).1))) vars true).1), (self src ((F_l01Next src ((self src ((F_l01Next src ((F_l01Next src ((F_l01Next src ((F_l01Next src srcg 9).2) 3).2) 6).2) (size - 2)).2) (1 + ((F_l01Next src ((F_l01Next src ((F_l01Next src ((F_l01Next src srcg 9).2) 3).2) 6).2) (size - 2)).1)) vars true).2) 3).2) ((size - 1) - (1 + ((F_l01Next src ((F_l01Next src ((F_l01Next src ((F_l01Next src srcg 9).2) 3).2) 6).2) (size - 2)).1))) vars true).2))) else (bif (decide (((F_l01Next src ((F_l01Next src srcg 9).2) 6).1) = 0)) then (F_l02Not ((self src ((F_l01Next src ((F_l01Next src srcg 9).2) 6).2) (size - 2) vars false).1), (self src ((F_l01Next src ((F_l01Next src srcg 9).2) 6).2) (size - 2) vars false).2) else (F_l02Pair (2 + ((F_l01Next src ((self src ((F_l01Next src ((F_l01Next src ((F_l01Next src srcg 9).2) 6).2) (size - 2)).2) (1 + ((F_l01Next src ((F_l01Next src ((F_l01Next src srcg 9).2) 6).2) (size - 2)).1)) vars false).2) 3).1)) ((self src ((F_l01Next src ((F_l01Next src ((F_l01Next src srcg 9).2) 6).2) (size - 2)).2) (1 + ((F_l01Next src ((F_l01Next src ((F_l01Next src srcg 9).2) 6).2) (size - 2)).1)) vars false).1) ((self src ((F_l01Next src ((self src ((F_l01Next src ((F_l01Next src ((F_l01Next src srcg 9).2) 6).2) (size - 2)).2) (1 + ((F_l01Next src ((F_l01Next src ((F_l01Next src srcg 9).2) 6).2) (size - 2)).1)) vars false).2) 3).2) ((size - 1) - (1 + ((F_l01Next src ((F_l01Next src ((F_l01Next src srcg 9).2) 6).2) (size - 2)).1))) vars false).1), (self src ((F_l01Next src ((self src ((F_l01Next src ((F_l01Next src ((F_l01Next src srcg 9).2) 6).2) (size - 2)).2) (1 + ((F_l01Next src ((F_l01Next src ((F_l01Next src srcg 9).2) 6).2) (size - 2)).1)) vars false).2) 3).2) ((size - 1) - (1 + ((F_l01Next src ((F_l01Next src ((F_l01Next src srcg 9).2) 6).2) (size - 2)).1))) vars false).2))))
def F_l02Draw_r : Nat → List Int → Nat × Int → Int → Int → Bool → (List Int × (Nat × Int))
  | 0 => fun _ _ _ _ _ => default
  | r + 1 => F_l02Draw_b (F_l02Draw_r r)
def F_l02Draw (src : List Int) (srcg : Nat × Int) (size : Int) (vars : Int) (modal : Bool) : List Int × (Nat × Int) := F_l02Draw_r (size.toNat + 1) src srcg size vars modal
/-- A drawn formula: at least one node, at most `size` of them. -/
def DrP (size : Int) (x : List Int) : Prop := 2 ≤ x.length ∧ (x.length : Int) ≤ 2 * size ∧ x.length % 2 = 0
theorem DrP_c {c : Bool} {size : Int} {x y : List Int × (Nat × Int)} (h1 : DrP size x.1) (h2 : DrP size y.1) : DrP size (bif c then x else y).1 := by cases c <;> assumption
theorem DrP_d {p : Prop} [Decidable p] {size : Int} {x y : List Int × (Nat × Int)} (h1 : p → DrP size x.1) (h2 : ¬ p → DrP size y.1) : DrP size (bif decide p then x else y).1 := by
  by_cases h : p
  · rw [decide_eq_true h]; exact h1 h
  · rw [decide_eq_false h]; exact h2 h
theorem DrP_false {size : Int} (h : 1 ≤ size) : DrP size F_l02False := by
  refine ⟨?_, ?_, ?_⟩ <;> rw [l02False_len] <;> omega
theorem DrP_var {size v : Int} (h : 1 ≤ size) : DrP size (F_l02Var v) := by
  refine ⟨?_, ?_, ?_⟩ <;> rw [l02Var_len] <;> omega
theorem DrP_pre {size k : Int} {y : List Int} (h : DrP (size - 1) y) : DrP size (F_l02Pre k y) := by
  obtain ⟨h1, h2, h3⟩ := h
  refine ⟨?_, ?_, ?_⟩ <;> rw [l02Pre_len] <;> omega
theorem DrP_not {size : Int} {y : List Int} (h : DrP (size - 2) y) : DrP size (F_l02Not y) := by
  obtain ⟨h1, h2, h3⟩ := h
  refine ⟨?_, ?_, ?_⟩ <;> rw [l02Not_len] <;> omega
theorem DrP_pair {size a k : Int} {y z : List Int} (h : DrP a y) (h' : DrP (size - 1 - a) z) : DrP size (F_l02Pair k y z) := by
  obtain ⟨h1, h2, h3⟩ := h
  obtain ⟨h4, h5, h6⟩ := h'
  refine ⟨?_, ?_, ?_⟩ <;> rw [l02Pair_len] <;> omega
theorem l02Next_bd {src : List Int} (hg : ∀ m : Int, 0 ≤ gI src m) (g : Nat × Int) (np : Int) : 0 ≤ (F_l01Next src g np).1 ∧ (np < 1 ∨ (F_l01Next src g np).1 < np) := l01Next0_bd src _ _ np hg
theorem l02Draw_b_len (self : List Int → Nat × Int → Int → Int → Bool → (List Int × (Nat × Int))) (src : List Int) (g : Nat × Int) (size vars : Int) (modal : Bool) (h1 : 1 ≤ size) (h2 : size ≤ 100) (hv : 1 ≤ vars) (hg : ∀ m : Int, 0 ≤ gI src m)
    (hp : ∀ (g : Nat × Int) (z : Int) (modal : Bool), 1 ≤ z → z < size → DrP z (self src g z vars modal).1) : DrP size (F_l02Draw_b self src g size vars modal).1 := by
  unfold F_l02Draw_b
  refine DrP_d (fun hs => DrP_c (DrP_false h1) (DrP_var h1)) (fun hs => ?_)
  have hq : ∀ (g : Nat × Int), 1 ≤ 1 + (F_l01Next src g (size - 2)).1 ∧ 1 + (F_l01Next src g (size - 2)).1 < size ∧ 1 ≤ size - 1 - (1 + (F_l01Next src g (size - 2)).1) ∧ size - 1 - (1 + (F_l01Next src g (size - 2)).1) < size := fun g => by
    have := l02Next_bd hg g (size - 2)
    omega
  have hpair : ∀ (g g1 g2 : Nat × Int) (k : Int) (m m' : Bool), DrP size (F_l02Pair k (self src g1 (1 + (F_l01Next src g (size - 2)).1) vars m).1 (self src g2 (size - 1 - (1 + (F_l01Next src g (size - 2)).1)) vars m').1) := fun g g1 g2 k m m' =>
    DrP_pair (hp _ _ _ (hq g).1 (hq g).2.1) (hp _ _ _ (hq g).2.2.1 (hq g).2.2.2)
  repeat' first
    | exact DrP_false h1
    | exact DrP_var h1
    | exact DrP_pre (hp _ _ _ (by omega) (by omega))
    | exact DrP_not (hp _ _ _ (by omega) (by omega))
    | exact hpair _ _ _ _ _ _
    | refine DrP_c ?_ ?_
theorem l02DrawLen : ∀ (r : Nat) (src : List Int) (srcg : Nat × Int) (size : Int) (vars : Int) (modal : Bool) (h1 : 1 ≤ size) (h2 : size ≤ 100) (hv : 1 ≤ vars) (hg : ∀ m : Int, 0 ≤ gI src m) (hm : size.toNat < r), 2 ≤ (F_l02Draw_r r src srcg size vars modal).1.length ∧ ((F_l02Draw_r r src srcg size vars modal).1.length : Int) ≤ 2 * size ∧ (F_l02Draw_r r src srcg size vars modal).1.length % 2 = 0 := by
  intro r
  induction r with
  | zero => intros; omega
  | succ r ih =>
    intro src g size vars modal h1 h2 hv hg hm
    exact l02Draw_b_len (F_l02Draw_r r) src g size vars modal h1 h2 hv hg (fun g z m hz hz2 => ih src g z vars m hz (by omega) hv hg (by omega))
theorem cf_l02Draw (args : Array Value) (w : World) : (callFunc 190 args).run Try.prog w = .ok (.enter 190 args) w := by kernel_rfl
set_option maxRecDepth 100000 in
theorem cb_l02Draw (self : List Int → Nat × Int → Int → Int → Bool → (List Int × (Nat × Int))) (mu : Nat) (hpost : ∀ (src : List Int) (srcg : Nat × Int) (size : Int) (vars : Int) (modal : Bool) (h1 : 1 ≤ size) (h2 : size ≤ 100) (hv : 1 ≤ vars) (hg : ∀ m : Int, 0 ≤ gI src m) (hm : size.toNat < mu), 2 ≤ (self src srcg size vars modal).1.length ∧ ((self src srcg size vars modal).1.length : Int) ≤ 2 * size ∧ (self src srcg size vars modal).1.length % 2 = 0) (srcB : Nat) (srcA : Option Addr) (srcN srcC : Nat) (src : List Int) (srcg : Nat × Int) (size : Int) (vars : Int) (modal : Bool) (w : World) (w0v : World) (Γ0 : List Ent) (hS0 : St w0v w (.blk srcB #[.slice srcA srcN srcC, .int .i64 ((srcg.1 : Nat) : Int), .int .u64 (srcg.2)] 163 :: Γ0)) (srcR : RdB w0v srcA srcN srcC src) (h1 : 1 ≤ size) (h2 : size ≤ 100) (hv : 1 ≤ vars) (hg : ∀ m : Int, 0 ≤ gI src m) (hmu : mu = size.toNat) (ih : ∀ (srcB : Nat) (srcA : Option Addr) (srcN srcC : Nat) (src : List Int) (srcg : Nat × Int) (size : Int) (vars : Int) (modal : Bool) (w : World) (w0v : World) (Γ0 : List Ent) (hS0 : St w0v w (.blk srcB #[.slice srcA srcN srcC, .int .i64 ((srcg.1 : Nat) : Int), .int .u64 (srcg.2)] 163 :: Γ0)) (srcR : RdB w0v srcA srcN srcC src) (h1 : 1 ≤ size) (h2 : size ≤ 100) (hv : 1 ≤ vars) (hg : ∀ m : Int, 0 ≤ gI src m) (hdec : size.toNat < mu), Calls Try.prog 190 #[.pointer (some ⟨srcB, 0, none⟩), .int .i64 size, .int .i64 vars, .bool modal] w (Ret fun v w' => ∃ b1 : Option Addr, ∃ c1 : Nat, v = .slice b1 (((self src srcg size vars modal).1).length / 2 : Nat) c1 ∧ St w0v w' (.own 94 2 b1 (((self src srcg size vars modal).1).length / 2 : Nat) c1 ((self src srcg size vars modal).1) :: .blk srcB #[.slice srcA srcN srcC, .int .i64 ((((self src srcg size vars modal).2).1 : Nat) : Int), .int .u64 (((self src srcg size vars modal).2).2)] 163 :: Γ0))) :
    Calls Try.prog 190 #[.pointer (some ⟨srcB, 0, none⟩), .int .i64 size, .int .i64 vars, .bool modal] w (Ret fun v w' => ∃ b1 : Option Addr, ∃ c1 : Nat, v = .slice b1 (((F_l02Draw_b self src srcg size vars modal).1).length / 2 : Nat) c1 ∧ St w0v w' (.own 94 2 b1 (((F_l02Draw_b self src srcg size vars modal).1).length / 2 : Nat) c1 ((F_l02Draw_b self src srcg size vars modal).1) :: .blk srcB #[.slice srcA srcN srcC, .int .i64 ((((F_l02Draw_b self src srcg size vars modal).2).1 : Nat) : Int), .int .u64 (((F_l02Draw_b self src srcg size vars modal).2).2)] 163 :: Γ0)) := by
  obtain rfl : srcN = src.length := srcR.len
  have srcLe := srcR.le
  refine enter (args := [.pointer (some ⟨srcB, 0, none⟩), .int .i64 size, .int .i64 vars, .bool modal]) Try.func190 rfl rfl ?_
  rw [Try.ntmps190]; intro a hE
  have hE := hE.sub (L' := [(0, .pointer (some ⟨srcB, 0, none⟩)), (1, .int .i64 size), (2, .int .i64 vars), (3, .bool modal)]) ⟨rfl, rfl, rfl, rfl, trivial⟩
  refine c_seq ?_
  refine c_reg ?_
  refine q_step (v := .slice none 0 0) hE (y_assign rfl) rfl rfl rfl ?_; intro a1 hE2; clear hE
  refine c_nil ?_
  have hE3 := hE2.sub (L' := [(0, .pointer (some ⟨srcB, 0, none⟩)), (1, .int .i64 size), (2, .int .i64 vars), (3, .bool modal)]) ⟨rfl, rfl, rfl, rfl, trivial⟩; clear hE2
  refine p_tn ?_
  refine c_seq ?_
  refine c_seq ?_
  refine c_reg ?_
  refine q_step (v := .int .i64 size) hE3 (y_move rfl) rfl rfl rfl ?_; intro a4 hE5; clear hE3
  refine q_step (v := .bool (decide (size ≤ 2))) hE5 (y_leq rfl rfl) rfl rfl rfl ?_; intro a6 hE7; clear hE5
  refine q_step (v := .bool (decide (size ≤ 2))) hE7 (y_move rfl) rfl rfl rfl ?_; intro a8 hE9; clear hE7
  rcases Bool.eq_false_or_eq_true (decide (size ≤ 2)) with hb10 | hb10
  ·
   have hE11 := hE9; (try rw [hb10] at hE11); clear hE9
   have hp12 := of_decide_eq_true hb10
   refine q_skip hE11 rfl rfl rfl ?_; intro a13 hE14; clear hE11
   refine q_skip hE14 rfl rfl rfl ?_; intro a15 hE16; clear hE14
   refine q_skip hE16 rfl rfl rfl ?_; intro a17 hE18; clear hE16
   refine q_step (v := .bool true) hE18 (y_pick (b := true) rfl rfl) rfl rfl rfl ?_; intro a19 hE20; clear hE18
   refine c_nil ?_
   have hE21 := hE20.sub (L' := [(0, .pointer (some ⟨srcB, 0, none⟩)), (1, .int .i64 size), (2, .int .i64 vars), (3, .bool modal), (17, .bool true)]) ⟨rfl, rfl, rfl, rfl, rfl, trivial⟩; clear hE20
   refine p_tn ?_
   refine c_true hE21 rfl ?_
   refine c_seq ?_
   refine c_seq ?_
   refine c_reg ?_
   refine q_step (v := .pointer (some ⟨srcB, 0, none⟩)) hE21 (y_move rfl) rfl rfl rfl ?_; intro a22 hE23; clear hE21
   have hS30 := (St.pickT (Γ := [.blk srcB #[.slice srcA src.length srcC, .int .i64 ((srcg.1 : Nat) : Int), .int .u64 srcg.2] 163]) (Γ' := [.blk srcB #[.slice srcA src.length srcC, .int .i64 ((srcg.1 : Nat) : Int), .int .u64 srcg.2] 163]) (Γ0 := Γ0) hS0 [0] (by decide) rfl rfl); clear hS0
   refine l_step hE23 rfl (l_call (f := 123) (argv := [.pointer (some ⟨srcB, 0, none⟩), .int .i64 8]) hE23 (fun _ => cf_l01Next0 _ _) rfl rfl (c_l01Next srcB srcA src.length srcC src srcg 8 w w0v (Γ0) hS30 srcR) ?_)
   rintro _ w25 ⟨rfl, hS28⟩ a26 hE27; clear hE23 hS30
   have hf31 := l01Next_bd srcR srcg 8
   refine q_step (v := .bool (decide (((F_l01Next src srcg 8).1) = 0))) hE27 (y_eql rfl rfl) rfl rfl rfl ?_; intro a32 hE33; clear hE27
   refine c_nil ?_
   have hE34 := hE33.sub (L' := [(0, .pointer (some ⟨srcB, 0, none⟩)), (2, .int .i64 vars), (20, .bool (decide (((F_l01Next src srcg 8).1) = 0)))]) ⟨rfl, rfl, rfl, trivial⟩; clear hE33
   refine p_tn ?_
   refine c_cond hE34 rfl (fun ht35 => ?_) (fun ht35 => ?_)
   ·
    have hp36 := of_decide_eq_true ht35
    have hE37 := hE34; rw [ht35] at hE37; clear hE34
    refine c_seq ?_
    refine c_reg ?_
    refine l_step hE37 rfl (l_call (f := 143) (argv := []) hE37 (fun _ => cf_l02False _ _) rfl rfl (c_l02False w25) ?_)
    rintro _ w39 ⟨b44, c45, rfl, ho46, he43⟩ a40 hE41; clear hE37
    have hf47 := l02False_len
    have hS42 := St.own hS28 he43 ho46; clear hS28
    refine q_step (v := .slice b44 ((F_l02False).length / 2 : Nat) c45) hE41 (y_assign rfl) rfl rfl rfl ?_; intro a48 hE49; clear hE41
    refine c_nil ?_
    have hE50 := hE49.sub (L' := [(8, .slice b44 ((F_l02False).length / 2 : Nat) c45)]) ⟨rfl, trivial⟩; clear hE49
    refine p_tn ?_
    refine wp_ret ?_
    refine p_tr ?_
    refine p_tr ?_
    have hF : F_l02Draw_b self src srcg size vars modal = (F_l02False, (F_l01Next src srcg 8).2) := by unfold F_l02Draw_b; rw [ht35, hb10]; first | done | rfl
    refine c_ret1 hE50 rfl rfl ?_
    have hS9 := (St.pickT (Γ := [.own 94 2 b44 ((F_l02False).length / 2 : Nat) c45 F_l02False, .blk srcB #[.slice srcA src.length srcC, .int .i64 ((((F_l01Next src srcg 8).2).1 : Nat) : Int), .int .u64 (((F_l01Next src srcg 8).2).2)] 163]) (Γ' := [.own 94 2 b44 ((F_l02False).length / 2 : Nat) c45 F_l02False, .blk srcB #[.slice srcA src.length srcC, .int .i64 ((((F_l01Next src srcg 8).2).1 : Nat) : Int), .int .u64 (((F_l01Next src srcg 8).2).2)] 163]) (Γ0 := Γ0) hS42 [0, 1] (by decide) rfl rfl)
    exact ⟨b44, c45, (by rw [hF]), (by rw [hF]; (try dsimp only); exact hS9)⟩
   ·
    have hp51 := of_decide_eq_false ht35
    have hE52 := hE34; rw [ht35] at hE52; clear hE34
    refine wp_skip ?_
    refine p_tn ?_
    refine c_seq ?_
    refine c_reg ?_
    refine q_step (v := .pointer (some ⟨srcB, 0, none⟩)) hE52 (y_move rfl) rfl rfl rfl ?_; intro a53 hE54; clear hE52
    refine q_step (v := .int .i64 vars) hE54 (y_move rfl) rfl rfl rfl ?_; intro a55 hE56; clear hE54
    have hS63 := (St.pickT (Γ := [.blk srcB #[.slice srcA src.length srcC, .int .i64 ((((F_l01Next src srcg 8).2).1 : Nat) : Int), .int .u64 (((F_l01Next src srcg 8).2).2)] 163]) (Γ' := [.blk srcB #[.slice srcA src.length srcC, .int .i64 ((((F_l01Next src srcg 8).2).1 : Nat) : Int), .int .u64 (((F_l01Next src srcg 8).2).2)] 163]) (Γ0 := Γ0) hS28 [0] (by decide) rfl rfl); clear hS28
    refine l_step hE56 rfl (l_call (f := 123) (argv := [.pointer (some ⟨srcB, 0, none⟩), .int .i64 vars]) hE56 (fun _ => cf_l01Next0 _ _) rfl rfl (c_l01Next srcB srcA src.length srcC src ((F_l01Next src srcg 8).2) vars w25 w0v (Γ0) hS63 srcR) ?_)
    rintro _ w58 ⟨rfl, hS61⟩ a59 hE60; clear hE56 hS63
    have hf64 := l01Next_bd srcR ((F_l01Next src srcg 8).2) vars
    refine l_step hE60 rfl (l_call (f := 202) (argv := [.int .i64 ((F_l01Next src ((F_l01Next src srcg 8).2) vars).1)]) hE60 (fun _ => cf_l02Var _ _) rfl rfl (c_l02Var ((F_l01Next src ((F_l01Next src srcg 8).2) vars).1) w58) ?_)
    rintro _ w66 ⟨b71, c72, rfl, ho73, he70⟩ a67 hE68; clear hE60
    have hf74 := l02Var_len ((F_l01Next src ((F_l01Next src srcg 8).2) vars).1)
    have hS69 := St.own hS61 he70 ho73; clear hS61
    refine q_step (v := .slice b71 ((F_l02Var ((F_l01Next src ((F_l01Next src srcg 8).2) vars).1)).length / 2 : Nat) c72) hE68 (y_assign rfl) rfl rfl rfl ?_; intro a75 hE76; clear hE68
    refine c_nil ?_
    have hE77 := hE76.sub (L' := [(8, .slice b71 ((F_l02Var ((F_l01Next src ((F_l01Next src srcg 8).2) vars).1)).length / 2 : Nat) c72)]) ⟨rfl, trivial⟩; clear hE76
    refine p_tn ?_
    refine wp_ret ?_
    refine p_tr ?_
    have hF : F_l02Draw_b self src srcg size vars modal = (F_l02Var ((F_l01Next src ((F_l01Next src srcg 8).2) vars).1), (F_l01Next src ((F_l01Next src srcg 8).2) vars).2) := by unfold F_l02Draw_b; rw [ht35, hb10]; first | done | rfl
    refine c_ret1 hE77 rfl rfl ?_
    have hS9 := (St.pickT (Γ := [.own 94 2 b71 ((F_l02Var ((F_l01Next src ((F_l01Next src srcg 8).2) vars).1)).length / 2 : Nat) c72 (F_l02Var ((F_l01Next src ((F_l01Next src srcg 8).2) vars).1)), .blk srcB #[.slice srcA src.length srcC, .int .i64 ((((F_l01Next src ((F_l01Next src srcg 8).2) vars).2).1 : Nat) : Int), .int .u64 (((F_l01Next src ((F_l01Next src srcg 8).2) vars).2).2)] 163]) (Γ' := [.own 94 2 b71 ((F_l02Var ((F_l01Next src ((F_l01Next src srcg 8).2) vars).1)).length / 2 : Nat) c72 (F_l02Var ((F_l01Next src ((F_l01Next src srcg 8).2) vars).1)), .blk srcB #[.slice srcA src.length srcC, .int .i64 ((((F_l01Next src ((F_l01Next src srcg 8).2) vars).2).1 : Nat) : Int), .int .u64 (((F_l01Next src ((F_l01Next src srcg 8).2) vars).2).2)] 163]) (Γ0 := Γ0) hS69 [0, 1] (by decide) rfl rfl)
    exact ⟨b71, c72, (by rw [hF]), (by rw [hF]; (try dsimp only); exact hS9)⟩
  ·
   have hE78 := hE9; (try rw [hb10] at hE78); clear hE9
   have hp79 := of_decide_eq_false hb10
   refine q_step (v := .pointer (some ⟨srcB, 0, none⟩)) hE78 (y_move rfl) rfl rfl rfl ?_; intro a80 hE81; clear hE78
   have hS88 := (St.pickT (Γ := [.blk srcB #[.slice srcA src.length srcC, .int .i64 ((srcg.1 : Nat) : Int), .int .u64 srcg.2] 163]) (Γ' := [.blk srcB #[.slice srcA src.length srcC, .int .i64 ((srcg.1 : Nat) : Int), .int .u64 srcg.2] 163]) (Γ0 := Γ0) hS0 [0] (by decide) rfl rfl); clear hS0
   refine l_step hE81 rfl (l_call (f := 123) (argv := [.pointer (some ⟨srcB, 0, none⟩), .int .i64 9]) hE81 (fun _ => cf_l01Next0 _ _) rfl rfl (c_l01Next srcB srcA src.length srcC src srcg 9 w w0v (Γ0) hS88 srcR) ?_)
   rintro _ w83 ⟨rfl, hS86⟩ a84 hE85; clear hE81 hS88
   have hf89 := l01Next_bd srcR srcg 9
   refine q_step (v := .bool (decide (((F_l01Next src srcg 9).1) = 0))) hE85 (y_eql rfl rfl) rfl rfl rfl ?_; intro a90 hE91; clear hE85
   refine q_step (v := .bool (decide (((F_l01Next src srcg 9).1) = 0))) hE91 (y_pick (b := false) rfl rfl) rfl rfl rfl ?_; intro a92 hE93; clear hE91
   refine c_nil ?_
   have hE94 := hE93.sub (L' := [(0, .pointer (some ⟨srcB, 0, none⟩)), (1, .int .i64 size), (2, .int .i64 vars), (3, .bool modal), (17, .bool (decide (((F_l01Next src srcg 9).1) = 0)))]) ⟨rfl, rfl, rfl, rfl, rfl, trivial⟩; clear hE93
   refine p_tn ?_
   refine c_cond hE94 rfl (fun ht95 => ?_) (fun ht95 => ?_)
   ·
    have hp96 := of_decide_eq_true ht95
    have hE97 := hE94; rw [ht95] at hE97; clear hE94
    refine c_seq ?_
    refine c_seq ?_
    refine c_reg ?_
    refine q_step (v := .pointer (some ⟨srcB, 0, none⟩)) hE97 (y_move rfl) rfl rfl rfl ?_; intro a98 hE99; clear hE97
    have hS106 := (St.pickT (Γ := [.blk srcB #[.slice srcA src.length srcC, .int .i64 ((((F_l01Next src srcg 9).2).1 : Nat) : Int), .int .u64 (((F_l01Next src srcg 9).2).2)] 163]) (Γ' := [.blk srcB #[.slice srcA src.length srcC, .int .i64 ((((F_l01Next src srcg 9).2).1 : Nat) : Int), .int .u64 (((F_l01Next src srcg 9).2).2)] 163]) (Γ0 := Γ0) hS86 [0] (by decide) rfl rfl); clear hS86
    refine l_step hE99 rfl (l_call (f := 123) (argv := [.pointer (some ⟨srcB, 0, none⟩), .int .i64 8]) hE99 (fun _ => cf_l01Next0 _ _) rfl rfl (c_l01Next srcB srcA src.length srcC src ((F_l01Next src srcg 9).2) 8 w83 w0v (Γ0) hS106 srcR) ?_)
    rintro _ w101 ⟨rfl, hS104⟩ a102 hE103; clear hE99 hS106
    have hf107 := l01Next_bd srcR ((F_l01Next src srcg 9).2) 8
    refine q_step (v := .bool (decide (((F_l01Next src ((F_l01Next src srcg 9).2) 8).1) = 0))) hE103 (y_eql rfl rfl) rfl rfl rfl ?_; intro a108 hE109; clear hE103
    refine c_nil ?_
    have hE110 := hE109.sub (L' := [(0, .pointer (some ⟨srcB, 0, none⟩)), (2, .int .i64 vars), (20, .bool (decide (((F_l01Next src ((F_l01Next src srcg 9).2) 8).1) = 0)))]) ⟨rfl, rfl, rfl, trivial⟩; clear hE109
    refine p_tn ?_
    refine c_cond hE110 rfl (fun ht111 => ?_) (fun ht111 => ?_)
    ·
     have hp112 := of_decide_eq_true ht111
     have hE113 := hE110; rw [ht111] at hE113; clear hE110
     refine c_seq ?_
     refine c_reg ?_
     refine l_step hE113 rfl (l_call (f := 143) (argv := []) hE113 (fun _ => cf_l02False _ _) rfl rfl (c_l02False w101) ?_)
     rintro _ w115 ⟨b120, c121, rfl, ho122, he119⟩ a116 hE117; clear hE113
     have hf123 := l02False_len
     have hS118 := St.own hS104 he119 ho122; clear hS104
     refine q_step (v := .slice b120 ((F_l02False).length / 2 : Nat) c121) hE117 (y_assign rfl) rfl rfl rfl ?_; intro a124 hE125; clear hE117
     refine c_nil ?_
     have hE126 := hE125.sub (L' := [(8, .slice b120 ((F_l02False).length / 2 : Nat) c121)]) ⟨rfl, trivial⟩; clear hE125
     refine p_tn ?_
     refine wp_ret ?_
     refine p_tr ?_
     refine p_tr ?_
     have hF : F_l02Draw_b self src srcg size vars modal = (F_l02False, (F_l01Next src ((F_l01Next src srcg 9).2) 8).2) := by unfold F_l02Draw_b; rw [ht111, ht95, hb10]; first | done | rfl
     refine c_ret1 hE126 rfl rfl ?_
     have hS9 := (St.pickT (Γ := [.own 94 2 b120 ((F_l02False).length / 2 : Nat) c121 F_l02False, .blk srcB #[.slice srcA src.length srcC, .int .i64 ((((F_l01Next src ((F_l01Next src srcg 9).2) 8).2).1 : Nat) : Int), .int .u64 (((F_l01Next src ((F_l01Next src srcg 9).2) 8).2).2)] 163]) (Γ' := [.own 94 2 b120 ((F_l02False).length / 2 : Nat) c121 F_l02False, .blk srcB #[.slice srcA src.length srcC, .int .i64 ((((F_l01Next src ((F_l01Next src srcg 9).2) 8).2).1 : Nat) : Int), .int .u64 (((F_l01Next src ((F_l01Next src srcg 9).2) 8).2).2)] 163]) (Γ0 := Γ0) hS118 [0, 1] (by decide) rfl rfl)
     exact ⟨b120, c121, (by rw [hF]), (by rw [hF]; (try dsimp only); exact hS9)⟩
    ·
     have hp127 := of_decide_eq_false ht111
     have hE128 := hE110; rw [ht111] at hE128; clear hE110
     refine wp_skip ?_
     refine p_tn ?_
     refine c_seq ?_
     refine c_reg ?_
     refine q_step (v := .pointer (some ⟨srcB, 0, none⟩)) hE128 (y_move rfl) rfl rfl rfl ?_; intro a129 hE130; clear hE128
     refine q_step (v := .int .i64 vars) hE130 (y_move rfl) rfl rfl rfl ?_; intro a131 hE132; clear hE130
     have hS139 := (St.pickT (Γ := [.blk srcB #[.slice srcA src.length srcC, .int .i64 ((((F_l01Next src ((F_l01Next src srcg 9).2) 8).2).1 : Nat) : Int), .int .u64 (((F_l01Next src ((F_l01Next src srcg 9).2) 8).2).2)] 163]) (Γ' := [.blk srcB #[.slice srcA src.length srcC, .int .i64 ((((F_l01Next src ((F_l01Next src srcg 9).2) 8).2).1 : Nat) : Int), .int .u64 (((F_l01Next src ((F_l01Next src srcg 9).2) 8).2).2)] 163]) (Γ0 := Γ0) hS104 [0] (by decide) rfl rfl); clear hS104
     refine l_step hE132 rfl (l_call (f := 123) (argv := [.pointer (some ⟨srcB, 0, none⟩), .int .i64 vars]) hE132 (fun _ => cf_l01Next0 _ _) rfl rfl (c_l01Next srcB srcA src.length srcC src ((F_l01Next src ((F_l01Next src srcg 9).2) 8).2) vars w101 w0v (Γ0) hS139 srcR) ?_)
     rintro _ w134 ⟨rfl, hS137⟩ a135 hE136; clear hE132 hS139
     have hf140 := l01Next_bd srcR ((F_l01Next src ((F_l01Next src srcg 9).2) 8).2) vars
     refine l_step hE136 rfl (l_call (f := 202) (argv := [.int .i64 ((F_l01Next src ((F_l01Next src ((F_l01Next src srcg 9).2) 8).2) vars).1)]) hE136 (fun _ => cf_l02Var _ _) rfl rfl (c_l02Var ((F_l01Next src ((F_l01Next src ((F_l01Next src srcg 9).2) 8).2) vars).1) w134) ?_)
     rintro _ w142 ⟨b147, c148, rfl, ho149, he146⟩ a143 hE144; clear hE136
     have hf150 := l02Var_len ((F_l01Next src ((F_l01Next src ((F_l01Next src srcg 9).2) 8).2) vars).1)
     have hS145 := St.own hS137 he146 ho149; clear hS137
     refine q_step (v := .slice b147 ((F_l02Var ((F_l01Next src ((F_l01Next src ((F_l01Next src srcg 9).2) 8).2) vars).1)).length / 2 : Nat) c148) hE144 (y_assign rfl) rfl rfl rfl ?_; intro a151 hE152; clear hE144
     refine c_nil ?_
     have hE153 := hE152.sub (L' := [(8, .slice b147 ((F_l02Var ((F_l01Next src ((F_l01Next src ((F_l01Next src srcg 9).2) 8).2) vars).1)).length / 2 : Nat) c148)]) ⟨rfl, trivial⟩; clear hE152
     refine p_tn ?_
     refine wp_ret ?_
     refine p_tr ?_
     have hF : F_l02Draw_b self src srcg size vars modal = (F_l02Var ((F_l01Next src ((F_l01Next src ((F_l01Next src srcg 9).2) 8).2) vars).1), (F_l01Next src ((F_l01Next src ((F_l01Next src srcg 9).2) 8).2) vars).2) := by unfold F_l02Draw_b; rw [ht111, ht95, hb10]; first | done | rfl
     refine c_ret1 hE153 rfl rfl ?_
     have hS9 := (St.pickT (Γ := [.own 94 2 b147 ((F_l02Var ((F_l01Next src ((F_l01Next src ((F_l01Next src srcg 9).2) 8).2) vars).1)).length / 2 : Nat) c148 (F_l02Var ((F_l01Next src ((F_l01Next src ((F_l01Next src srcg 9).2) 8).2) vars).1)), .blk srcB #[.slice srcA src.length srcC, .int .i64 ((((F_l01Next src ((F_l01Next src ((F_l01Next src srcg 9).2) 8).2) vars).2).1 : Nat) : Int), .int .u64 (((F_l01Next src ((F_l01Next src ((F_l01Next src srcg 9).2) 8).2) vars).2).2)] 163]) (Γ' := [.own 94 2 b147 ((F_l02Var ((F_l01Next src ((F_l01Next src ((F_l01Next src srcg 9).2) 8).2) vars).1)).length / 2 : Nat) c148 (F_l02Var ((F_l01Next src ((F_l01Next src ((F_l01Next src srcg 9).2) 8).2) vars).1)), .blk srcB #[.slice srcA src.length srcC, .int .i64 ((((F_l01Next src ((F_l01Next src ((F_l01Next src srcg 9).2) 8).2) vars).2).1 : Nat) : Int), .int .u64 (((F_l01Next src ((F_l01Next src ((F_l01Next src srcg 9).2) 8).2) vars).2).2)] 163]) (Γ0 := Γ0) hS145 [0, 1] (by decide) rfl rfl)
     exact ⟨b147, c148, (by rw [hF]), (by rw [hF]; (try dsimp only); exact hS9)⟩
   ·
    have hp154 := of_decide_eq_false ht95
    have hE155 := hE94; rw [ht95] at hE155; clear hE94
    refine wp_skip ?_
    refine p_tn ?_
    refine c_seq ?_
    refine c_seq ?_
    refine c_reg ?_
    refine q_step (v := .bool modal) hE155 (y_move rfl) rfl rfl rfl ?_; intro a156 hE157; clear hE155
    refine q_step (v := .bool modal) hE157 (y_move rfl) rfl rfl rfl ?_; intro a158 hE159; clear hE157
    rcases Bool.eq_false_or_eq_true modal with hb160 | hb160
    ·
     have hE161 := hE159; (try rw [hb160] at hE161); clear hE159
     refine q_step (v := .pointer (some ⟨srcB, 0, none⟩)) hE161 (y_move rfl) rfl rfl rfl ?_; intro a162 hE163; clear hE161
     have hS170 := (St.pickT (Γ := [.blk srcB #[.slice srcA src.length srcC, .int .i64 ((((F_l01Next src srcg 9).2).1 : Nat) : Int), .int .u64 (((F_l01Next src srcg 9).2).2)] 163]) (Γ' := [.blk srcB #[.slice srcA src.length srcC, .int .i64 ((((F_l01Next src srcg 9).2).1 : Nat) : Int), .int .u64 (((F_l01Next src srcg 9).2).2)] 163]) (Γ0 := Γ0) hS86 [0] (by decide) rfl rfl); clear hS86
     refine l_step hE163 rfl (l_call (f := 123) (argv := [.pointer (some ⟨srcB, 0, none⟩), .int .i64 3]) hE163 (fun _ => cf_l01Next0 _ _) rfl rfl (c_l01Next srcB srcA src.length srcC src ((F_l01Next src srcg 9).2) 3 w83 w0v (Γ0) hS170 srcR) ?_)
     rintro _ w165 ⟨rfl, hS168⟩ a166 hE167; clear hE163 hS170
     have hf171 := l01Next_bd srcR ((F_l01Next src srcg 9).2) 3
     refine q_step (v := .bool (decide (((F_l01Next src ((F_l01Next src srcg 9).2) 3).1) = 0))) hE167 (y_eql rfl rfl) rfl rfl rfl ?_; intro a172 hE173; clear hE167
     refine q_step (v := .bool (decide (((F_l01Next src ((F_l01Next src srcg 9).2) 3).1) = 0))) hE173 (y_pick (b := true) rfl rfl) rfl rfl rfl ?_; intro a174 hE175; clear hE173
     refine c_nil ?_
     have hE176 := hE175.sub (L' := [(0, .pointer (some ⟨srcB, 0, none⟩)), (1, .int .i64 size), (2, .int .i64 vars), (3, .bool true), (31, .bool (decide (((F_l01Next src ((F_l01Next src srcg 9).2) 3).1) = 0)))]) ⟨rfl, rfl, rfl, rfl, rfl, trivial⟩; clear hE175
     refine p_tn ?_
     refine c_cond hE176 rfl (fun ht177 => ?_) (fun ht177 => ?_)
     ·
      have hp178 := of_decide_eq_true ht177
      have hE179 := hE176; rw [ht177] at hE179; clear hE176
      refine c_seq ?_
      refine c_reg ?_
      refine q_step (v := .pointer (some ⟨srcB, 0, none⟩)) hE179 (y_move rfl) rfl rfl rfl ?_; intro a180 hE181; clear hE179
      have hS188 := (St.pickT (Γ := [.blk srcB #[.slice srcA src.length srcC, .int .i64 ((((F_l01Next src ((F_l01Next src srcg 9).2) 3).2).1 : Nat) : Int), .int .u64 (((F_l01Next src ((F_l01Next src srcg 9).2) 3).2).2)] 163]) (Γ' := [.blk srcB #[.slice srcA src.length srcC, .int .i64 ((((F_l01Next src ((F_l01Next src srcg 9).2) 3).2).1 : Nat) : Int), .int .u64 (((F_l01Next src ((F_l01Next src srcg 9).2) 3).2).2)] 163]) (Γ0 := Γ0) hS168 [0] (by decide) rfl rfl); clear hS168
      refine l_step hE181 rfl (l_call (f := 123) (argv := [.pointer (some ⟨srcB, 0, none⟩), .int .i64 2]) hE181 (fun _ => cf_l01Next0 _ _) rfl rfl (c_l01Next srcB srcA src.length srcC src ((F_l01Next src ((F_l01Next src srcg 9).2) 3).2) 2 w165 w0v (Γ0) hS188 srcR) ?_)
      rintro _ w183 ⟨rfl, hS186⟩ a184 hE185; clear hE181 hS188
      have hf189 := l01Next_bd srcR ((F_l01Next src ((F_l01Next src srcg 9).2) 3).2) 2
      refine q_step (v := .int .i64 (5 + ((F_l01Next src ((F_l01Next src ((F_l01Next src srcg 9).2) 3).2) 2).1))) hE185 (y_add rfl rfl ⟨(by omega), (by omega)⟩) rfl rfl rfl ?_; intro a190 hE191; clear hE185
      refine q_step (v := .pointer (some ⟨srcB, 0, none⟩)) hE191 (y_move rfl) rfl rfl rfl ?_; intro a192 hE193; clear hE191
      refine q_step (v := .int .i64 size) hE193 (y_move rfl) rfl rfl rfl ?_; intro a194 hE195; clear hE193
      refine q_step (v := .int .i64 (size - 1)) hE195 (y_sub rfl rfl ⟨(by omega), (by omega)⟩) rfl rfl rfl ?_; intro a196 hE197; clear hE195
      refine q_step (v := .int .i64 vars) hE197 (y_move rfl) rfl rfl rfl ?_; intro a198 hE199; clear hE197
      refine q_step (v := .bool true) hE199 (y_move rfl) rfl rfl rfl ?_; intro a200 hE201; clear hE199
      have hS208 := (St.pickT (Γ := [.blk srcB #[.slice srcA src.length srcC, .int .i64 ((((F_l01Next src ((F_l01Next src ((F_l01Next src srcg 9).2) 3).2) 2).2).1 : Nat) : Int), .int .u64 (((F_l01Next src ((F_l01Next src ((F_l01Next src srcg 9).2) 3).2) 2).2).2)] 163]) (Γ' := [.blk srcB #[.slice srcA src.length srcC, .int .i64 ((((F_l01Next src ((F_l01Next src ((F_l01Next src srcg 9).2) 3).2) 2).2).1 : Nat) : Int), .int .u64 (((F_l01Next src ((F_l01Next src ((F_l01Next src srcg 9).2) 3).2) 2).2).2)] 163]) (Γ0 := Γ0) hS186 [0] (by decide) rfl rfl); clear hS186
      refine l_step hE201 rfl (l_call (f := 190) (argv := [.pointer (some ⟨srcB, 0, none⟩), .int .i64 (size - 1), .int .i64 vars, .bool true]) hE201 (fun _ => cf_l02Draw _ _) rfl rfl (ih srcB srcA src.length srcC src ((F_l01Next src ((F_l01Next src ((F_l01Next src srcg 9).2) 3).2) 2).2) (size - 1) vars true w183 w0v (Γ0) hS208 srcR (by omega) (by omega) (by omega) hg (by omega)) ?_)
      rintro _ w203 ⟨b209, c210, rfl, hS206⟩ a204 hE205; clear hE201 hS208
      have hf211 := hpost src ((F_l01Next src ((F_l01Next src ((F_l01Next src srcg 9).2) 3).2) 2).2) (size - 1) vars true (by omega) (by omega) hv hg (by omega)
      refine l_step hE205 rfl (l_call (f := 150) (argv := [.int .i64 (5 + ((F_l01Next src ((F_l01Next src ((F_l01Next src srcg 9).2) 3).2) 2).1)), .slice b209 (((self src ((F_l01Next src ((F_l01Next src ((F_l01Next src srcg 9).2) 3).2) 2).2) (size - 1) vars true).1).length / 2 : Nat) c210]) hE205 (fun _ => cf_l02Pre _ _) rfl rfl (c_l02Pre (5 + ((F_l01Next src ((F_l01Next src ((F_l01Next src srcg 9).2) 3).2) 2).1)) b209 (((self src ((F_l01Next src ((F_l01Next src ((F_l01Next src srcg 9).2) 3).2) 2).2) (size - 1) vars true).1).length / 2 : Nat) c210 ((self src ((F_l01Next src ((F_l01Next src ((F_l01Next src srcg 9).2) 3).2) 2).2) (size - 1) vars true).1) w203 (St.rdO (i := 0) hS206 rfl) (by omega)) ?_)
      rintro _ w213 ⟨b218, c219, rfl, ho220, he217⟩ a214 hE215; clear hE205
      have hf221 := l02Pre_len (5 + ((F_l01Next src ((F_l01Next src ((F_l01Next src srcg 9).2) 3).2) 2).1)) ((self src ((F_l01Next src ((F_l01Next src ((F_l01Next src srcg 9).2) 3).2) 2).2) (size - 1) vars true).1)
      have hS216 := St.own hS206 he217 ho220; clear hS206
      refine q_step (v := .slice b218 ((F_l02Pre (5 + ((F_l01Next src ((F_l01Next src ((F_l01Next src srcg 9).2) 3).2) 2).1)) ((self src ((F_l01Next src ((F_l01Next src ((F_l01Next src srcg 9).2) 3).2) 2).2) (size - 1) vars true).1)).length / 2 : Nat) c219) hE215 (y_assign rfl) rfl rfl rfl ?_; intro a222 hE223; clear hE215
      refine c_nil ?_
      have hE224 := hE223.sub (L' := [(8, .slice b218 ((F_l02Pre (5 + ((F_l01Next src ((F_l01Next src ((F_l01Next src srcg 9).2) 3).2) 2).1)) ((self src ((F_l01Next src ((F_l01Next src ((F_l01Next src srcg 9).2) 3).2) 2).2) (size - 1) vars true).1)).length / 2 : Nat) c219)]) ⟨rfl, trivial⟩; clear hE223
      refine p_tn ?_
      refine wp_ret ?_
      refine p_tr ?_
      have hF : F_l02Draw_b self src srcg size vars modal = (F_l02Pre (5 + ((F_l01Next src ((F_l01Next src ((F_l01Next src srcg 9).2) 3).2) 2).1)) ((self src ((F_l01Next src ((F_l01Next src ((F_l01Next src srcg 9).2) 3).2) 2).2) (size - 1) vars true).1), (self src ((F_l01Next src ((F_l01Next src ((F_l01Next src srcg 9).2) 3).2) 2).2) (size - 1) vars true).2) := by unfold F_l02Draw_b; rw [ht177, hb160, ht95, hb10]; first | done | rfl
      refine c_ret1 hE224 rfl rfl ?_
      have hS9 := (St.pickT (Γ := [.own 94 2 b218 ((F_l02Pre (5 + ((F_l01Next src ((F_l01Next src ((F_l01Next src srcg 9).2) 3).2) 2).1)) ((self src ((F_l01Next src ((F_l01Next src ((F_l01Next src srcg 9).2) 3).2) 2).2) (size - 1) vars true).1)).length / 2 : Nat) c219 (F_l02Pre (5 + ((F_l01Next src ((F_l01Next src ((F_l01Next src srcg 9).2) 3).2) 2).1)) ((self src ((F_l01Next src ((F_l01Next src ((F_l01Next src srcg 9).2) 3).2) 2).2) (size - 1) vars true).1)), .own 94 2 b209 (((self src ((F_l01Next src ((F_l01Next src ((F_l01Next src srcg 9).2) 3).2) 2).2) (size - 1) vars true).1).length / 2 : Nat) c210 ((self src ((F_l01Next src ((F_l01Next src ((F_l01Next src srcg 9).2) 3).2) 2).2) (size - 1) vars true).1), .blk srcB #[.slice srcA src.length srcC, .int .i64 ((((self src ((F_l01Next src ((F_l01Next src ((F_l01Next src srcg 9).2) 3).2) 2).2) (size - 1) vars true).2).1 : Nat) : Int), .int .u64 (((self src ((F_l01Next src ((F_l01Next src ((F_l01Next src srcg 9).2) 3).2) 2).2) (size - 1) vars true).2).2)] 163]) (Γ' := [.own 94 2 b218 ((F_l02Pre (5 + ((F_l01Next src ((F_l01Next src ((F_l01Next src srcg 9).2) 3).2) 2).1)) ((self src ((F_l01Next src ((F_l01Next src ((F_l01Next src srcg 9).2) 3).2) 2).2) (size - 1) vars true).1)).length / 2 : Nat) c219 (F_l02Pre (5 + ((F_l01Next src ((F_l01Next src ((F_l01Next src srcg 9).2) 3).2) 2).1)) ((self src ((F_l01Next src ((F_l01Next src ((F_l01Next src srcg 9).2) 3).2) 2).2) (size - 1) vars true).1)), .blk srcB #[.slice srcA src.length srcC, .int .i64 ((((self src ((F_l01Next src ((F_l01Next src ((F_l01Next src srcg 9).2) 3).2) 2).2) (size - 1) vars true).2).1 : Nat) : Int), .int .u64 (((self src ((F_l01Next src ((F_l01Next src ((F_l01Next src srcg 9).2) 3).2) 2).2) (size - 1) vars true).2).2)] 163]) (Γ0 := Γ0) hS216 [0, 2] (by decide) rfl rfl)
      exact ⟨b218, c219, (by rw [hF]), (by rw [hF]; (try dsimp only); exact hS9)⟩
     ·
      have hp225 := of_decide_eq_false ht177
      have hE226 := hE176; rw [ht177] at hE226; clear hE176
      refine wp_skip ?_
      refine p_tn ?_
      refine c_seq ?_
      refine c_seq ?_
      refine c_reg ?_
      refine q_step (v := .pointer (some ⟨srcB, 0, none⟩)) hE226 (y_move rfl) rfl rfl rfl ?_; intro a227 hE228; clear hE226
      have hS235 := (St.pickT (Γ := [.blk srcB #[.slice srcA src.length srcC, .int .i64 ((((F_l01Next src ((F_l01Next src srcg 9).2) 3).2).1 : Nat) : Int), .int .u64 (((F_l01Next src ((F_l01Next src srcg 9).2) 3).2).2)] 163]) (Γ' := [.blk srcB #[.slice srcA src.length srcC, .int .i64 ((((F_l01Next src ((F_l01Next src srcg 9).2) 3).2).1 : Nat) : Int), .int .u64 (((F_l01Next src ((F_l01Next src srcg 9).2) 3).2).2)] 163]) (Γ0 := Γ0) hS168 [0] (by decide) rfl rfl); clear hS168
      refine l_step hE228 rfl (l_call (f := 123) (argv := [.pointer (some ⟨srcB, 0, none⟩), .int .i64 6]) hE228 (fun _ => cf_l01Next0 _ _) rfl rfl (c_l01Next srcB srcA src.length srcC src ((F_l01Next src ((F_l01Next src srcg 9).2) 3).2) 6 w165 w0v (Γ0) hS235 srcR) ?_)
      rintro _ w230 ⟨rfl, hS233⟩ a231 hE232; clear hE228 hS235
      have hf236 := l01Next_bd srcR ((F_l01Next src ((F_l01Next src srcg 9).2) 3).2) 6
      refine q_step (v := .bool (decide (((F_l01Next src ((F_l01Next src ((F_l01Next src srcg 9).2) 3).2) 6).1) = 0))) hE232 (y_eql rfl rfl) rfl rfl rfl ?_; intro a237 hE238; clear hE232
      refine c_nil ?_
      have hE239 := hE238.sub (L' := [(0, .pointer (some ⟨srcB, 0, none⟩)), (1, .int .i64 size), (2, .int .i64 vars), (3, .bool true), (44, .bool (decide (((F_l01Next src ((F_l01Next src ((F_l01Next src srcg 9).2) 3).2) 6).1) = 0)))]) ⟨rfl, rfl, rfl, rfl, rfl, trivial⟩; clear hE238
      refine p_tn ?_
      refine c_cond hE239 rfl (fun ht240 => ?_) (fun ht240 => ?_)
      ·
       have hp241 := of_decide_eq_true ht240
       have hE242 := hE239; rw [ht240] at hE242; clear hE239
       refine c_seq ?_
       refine c_reg ?_
       refine q_step (v := .pointer (some ⟨srcB, 0, none⟩)) hE242 (y_move rfl) rfl rfl rfl ?_; intro a243 hE244; clear hE242
       refine q_step (v := .int .i64 size) hE244 (y_move rfl) rfl rfl rfl ?_; intro a245 hE246; clear hE244
       refine q_step (v := .int .i64 (size - 2)) hE246 (y_sub rfl rfl ⟨(by omega), (by omega)⟩) rfl rfl rfl ?_; intro a247 hE248; clear hE246
       refine q_step (v := .int .i64 vars) hE248 (y_move rfl) rfl rfl rfl ?_; intro a249 hE250; clear hE248
       refine q_step (v := .bool true) hE250 (y_move rfl) rfl rfl rfl ?_; intro a251 hE252; clear hE250
       have hS259 := (St.pickT (Γ := [.blk srcB #[.slice srcA src.length srcC, .int .i64 ((((F_l01Next src ((F_l01Next src ((F_l01Next src srcg 9).2) 3).2) 6).2).1 : Nat) : Int), .int .u64 (((F_l01Next src ((F_l01Next src ((F_l01Next src srcg 9).2) 3).2) 6).2).2)] 163]) (Γ' := [.blk srcB #[.slice srcA src.length srcC, .int .i64 ((((F_l01Next src ((F_l01Next src ((F_l01Next src srcg 9).2) 3).2) 6).2).1 : Nat) : Int), .int .u64 (((F_l01Next src ((F_l01Next src ((F_l01Next src srcg 9).2) 3).2) 6).2).2)] 163]) (Γ0 := Γ0) hS233 [0] (by decide) rfl rfl); clear hS233
       refine l_step hE252 rfl (l_call (f := 190) (argv := [.pointer (some ⟨srcB, 0, none⟩), .int .i64 (size - 2), .int .i64 vars, .bool true]) hE252 (fun _ => cf_l02Draw _ _) rfl rfl (ih srcB srcA src.length srcC src ((F_l01Next src ((F_l01Next src ((F_l01Next src srcg 9).2) 3).2) 6).2) (size - 2) vars true w230 w0v (Γ0) hS259 srcR (by omega) (by omega) (by omega) hg (by omega)) ?_)
       rintro _ w254 ⟨b260, c261, rfl, hS257⟩ a255 hE256; clear hE252 hS259
       have hf262 := hpost src ((F_l01Next src ((F_l01Next src ((F_l01Next src srcg 9).2) 3).2) 6).2) (size - 2) vars true (by omega) (by omega) hv hg (by omega)
       refine l_step hE256 rfl (l_call (f := 82) (argv := [.slice b260 (((self src ((F_l01Next src ((F_l01Next src ((F_l01Next src srcg 9).2) 3).2) 6).2) (size - 2) vars true).1).length / 2 : Nat) c261]) hE256 (fun _ => cf_l02Not _ _) rfl rfl (c_l02Not b260 (((self src ((F_l01Next src ((F_l01Next src ((F_l01Next src srcg 9).2) 3).2) 6).2) (size - 2) vars true).1).length / 2 : Nat) c261 ((self src ((F_l01Next src ((F_l01Next src ((F_l01Next src srcg 9).2) 3).2) 6).2) (size - 2) vars true).1) w254 (St.rdO (i := 0) hS257 rfl) (by omega)) ?_)
       rintro _ w264 ⟨b269, c270, rfl, ho271, he268⟩ a265 hE266; clear hE256
       have hf272 := l02Not_len ((self src ((F_l01Next src ((F_l01Next src ((F_l01Next src srcg 9).2) 3).2) 6).2) (size - 2) vars true).1)
       have hS267 := St.own hS257 he268 ho271; clear hS257
       refine q_step (v := .slice b269 ((F_l02Not ((self src ((F_l01Next src ((F_l01Next src ((F_l01Next src srcg 9).2) 3).2) 6).2) (size - 2) vars true).1)).length / 2 : Nat) c270) hE266 (y_assign rfl) rfl rfl rfl ?_; intro a273 hE274; clear hE266
       refine c_nil ?_
       have hE275 := hE274.sub (L' := [(8, .slice b269 ((F_l02Not ((self src ((F_l01Next src ((F_l01Next src ((F_l01Next src srcg 9).2) 3).2) 6).2) (size - 2) vars true).1)).length / 2 : Nat) c270)]) ⟨rfl, trivial⟩; clear hE274
       refine p_tn ?_
       refine wp_ret ?_
       refine p_tr ?_
       have hF : F_l02Draw_b self src srcg size vars modal = (F_l02Not ((self src ((F_l01Next src ((F_l01Next src ((F_l01Next src srcg 9).2) 3).2) 6).2) (size - 2) vars true).1), (self src ((F_l01Next src ((F_l01Next src ((F_l01Next src srcg 9).2) 3).2) 6).2) (size - 2) vars true).2) := by unfold F_l02Draw_b; rw [ht240, ht177, hb160, ht95, hb10]; first | done | rfl
       refine c_ret1 hE275 rfl rfl ?_
       have hS9 := (St.pickT (Γ := [.own 94 2 b269 ((F_l02Not ((self src ((F_l01Next src ((F_l01Next src ((F_l01Next src srcg 9).2) 3).2) 6).2) (size - 2) vars true).1)).length / 2 : Nat) c270 (F_l02Not ((self src ((F_l01Next src ((F_l01Next src ((F_l01Next src srcg 9).2) 3).2) 6).2) (size - 2) vars true).1)), .own 94 2 b260 (((self src ((F_l01Next src ((F_l01Next src ((F_l01Next src srcg 9).2) 3).2) 6).2) (size - 2) vars true).1).length / 2 : Nat) c261 ((self src ((F_l01Next src ((F_l01Next src ((F_l01Next src srcg 9).2) 3).2) 6).2) (size - 2) vars true).1), .blk srcB #[.slice srcA src.length srcC, .int .i64 ((((self src ((F_l01Next src ((F_l01Next src ((F_l01Next src srcg 9).2) 3).2) 6).2) (size - 2) vars true).2).1 : Nat) : Int), .int .u64 (((self src ((F_l01Next src ((F_l01Next src ((F_l01Next src srcg 9).2) 3).2) 6).2) (size - 2) vars true).2).2)] 163]) (Γ' := [.own 94 2 b269 ((F_l02Not ((self src ((F_l01Next src ((F_l01Next src ((F_l01Next src srcg 9).2) 3).2) 6).2) (size - 2) vars true).1)).length / 2 : Nat) c270 (F_l02Not ((self src ((F_l01Next src ((F_l01Next src ((F_l01Next src srcg 9).2) 3).2) 6).2) (size - 2) vars true).1)), .blk srcB #[.slice srcA src.length srcC, .int .i64 ((((self src ((F_l01Next src ((F_l01Next src ((F_l01Next src srcg 9).2) 3).2) 6).2) (size - 2) vars true).2).1 : Nat) : Int), .int .u64 (((self src ((F_l01Next src ((F_l01Next src ((F_l01Next src srcg 9).2) 3).2) 6).2) (size - 2) vars true).2).2)] 163]) (Γ0 := Γ0) hS267 [0, 2] (by decide) rfl rfl)
       exact ⟨b269, c270, (by rw [hF]), (by rw [hF]; (try dsimp only); exact hS9)⟩
      ·
       have hp276 := of_decide_eq_false ht240
       have hE277 := hE239; rw [ht240] at hE277; clear hE239
       refine wp_skip ?_
       refine p_tn ?_
       refine c_seq ?_
       refine c_reg ?_
       refine q_step (v := .pointer (some ⟨srcB, 0, none⟩)) hE277 (y_move rfl) rfl rfl rfl ?_; intro a278 hE279; clear hE277
       refine q_step (v := .int .i64 size) hE279 (y_move rfl) rfl rfl rfl ?_; intro a280 hE281; clear hE279
       refine q_step (v := .int .i64 (size - 2)) hE281 (y_sub rfl rfl ⟨(by omega), (by omega)⟩) rfl rfl rfl ?_; intro a282 hE283; clear hE281
       have hS290 := (St.pickT (Γ := [.blk srcB #[.slice srcA src.length srcC, .int .i64 ((((F_l01Next src ((F_l01Next src ((F_l01Next src srcg 9).2) 3).2) 6).2).1 : Nat) : Int), .int .u64 (((F_l01Next src ((F_l01Next src ((F_l01Next src srcg 9).2) 3).2) 6).2).2)] 163]) (Γ' := [.blk srcB #[.slice srcA src.length srcC, .int .i64 ((((F_l01Next src ((F_l01Next src ((F_l01Next src srcg 9).2) 3).2) 6).2).1 : Nat) : Int), .int .u64 (((F_l01Next src ((F_l01Next src ((F_l01Next src srcg 9).2) 3).2) 6).2).2)] 163]) (Γ0 := Γ0) hS233 [0] (by decide) rfl rfl); clear hS233
       refine l_step hE283 rfl (l_call (f := 123) (argv := [.pointer (some ⟨srcB, 0, none⟩), .int .i64 (size - 2)]) hE283 (fun _ => cf_l01Next0 _ _) rfl rfl (c_l01Next srcB srcA src.length srcC src ((F_l01Next src ((F_l01Next src ((F_l01Next src srcg 9).2) 3).2) 6).2) (size - 2) w230 w0v (Γ0) hS290 srcR) ?_)
       rintro _ w285 ⟨rfl, hS288⟩ a286 hE287; clear hE283 hS290
       have hf291 := l01Next_bd srcR ((F_l01Next src ((F_l01Next src ((F_l01Next src srcg 9).2) 3).2) 6).2) (size - 2)
       refine q_step (v := .int .i64 (1 + ((F_l01Next src ((F_l01Next src ((F_l01Next src ((F_l01Next src srcg 9).2) 3).2) 6).2) (size - 2)).1))) hE287 (y_add rfl rfl ⟨(by omega), (by omega)⟩) rfl rfl rfl ?_; intro a292 hE293; clear hE287
       refine q_step (v := .int .i64 (1 + ((F_l01Next src ((F_l01Next src ((F_l01Next src ((F_l01Next src srcg 9).2) 3).2) 6).2) (size - 2)).1))) hE293 (y_assign rfl) rfl rfl rfl ?_; intro a294 hE295; clear hE293
       refine c_nil ?_
       have hE296 := hE295.sub (L' := [(0, .pointer (some ⟨srcB, 0, none⟩)), (1, .int .i64 size), (2, .int .i64 vars), (3, .bool true), (9, .int .i64 (1 + ((F_l01Next src ((F_l01Next src ((F_l01Next src ((F_l01Next src srcg 9).2) 3).2) 6).2) (size - 2)).1)))]) ⟨rfl, rfl, rfl, rfl, rfl, trivial⟩; clear hE295
       refine p_tn ?_
       refine c_seq ?_
       refine c_reg ?_
       refine q_step (v := .pointer (some ⟨srcB, 0, none⟩)) hE296 (y_move rfl) rfl rfl rfl ?_; intro a297 hE298; clear hE296
       refine q_step (v := .int .i64 (1 + ((F_l01Next src ((F_l01Next src ((F_l01Next src ((F_l01Next src srcg 9).2) 3).2) 6).2) (size - 2)).1))) hE298 (y_move rfl) rfl rfl rfl ?_; intro a299 hE300; clear hE298
       refine q_step (v := .int .i64 vars) hE300 (y_move rfl) rfl rfl rfl ?_; intro a301 hE302; clear hE300
       refine q_step (v := .bool true) hE302 (y_move rfl) rfl rfl rfl ?_; intro a303 hE304; clear hE302
       have hS311 := (St.pickT (Γ := [.blk srcB #[.slice srcA src.length srcC, .int .i64 ((((F_l01Next src ((F_l01Next src ((F_l01Next src ((F_l01Next src srcg 9).2) 3).2) 6).2) (size - 2)).2).1 : Nat) : Int), .int .u64 (((F_l01Next src ((F_l01Next src ((F_l01Next src ((F_l01Next src srcg 9).2) 3).2) 6).2) (size - 2)).2).2)] 163]) (Γ' := [.blk srcB #[.slice srcA src.length srcC, .int .i64 ((((F_l01Next src ((F_l01Next src ((F_l01Next src ((F_l01Next src srcg 9).2) 3).2) 6).2) (size - 2)).2).1 : Nat) : Int), .int .u64 (((F_l01Next src ((F_l01Next src ((F_l01Next src ((F_l01Next src srcg 9).2) 3).2) 6).2) (size - 2)).2).2)] 163]) (Γ0 := Γ0) hS288 [0] (by decide) rfl rfl); clear hS288
       refine l_step hE304 rfl (l_call (f := 190) (argv := [.pointer (some ⟨srcB, 0, none⟩), .int .i64 (1 + ((F_l01Next src ((F_l01Next src ((F_l01Next src ((F_l01Next src srcg 9).2) 3).2) 6).2) (size - 2)).1)), .int .i64 vars, .bool true]) hE304 (fun _ => cf_l02Draw _ _) rfl rfl (ih srcB srcA src.length srcC src ((F_l01Next src ((F_l01Next src ((F_l01Next src ((F_l01Next src srcg 9).2) 3).2) 6).2) (size - 2)).2) (1 + ((F_l01Next src ((F_l01Next src ((F_l01Next src ((F_l01Next src srcg 9).2) 3).2) 6).2) (size - 2)).1)) vars true w285 w0v (Γ0) hS311 srcR (by omega) (by omega) (by omega) hg (by omega)) ?_)
       rintro _ w306 ⟨b312, c313, rfl, hS309⟩ a307 hE308; clear hE304 hS311
       have hf314 := hpost src ((F_l01Next src ((F_l01Next src ((F_l01Next src ((F_l01Next src srcg 9).2) 3).2) 6).2) (size - 2)).2) (1 + ((F_l01Next src ((F_l01Next src ((F_l01Next src ((F_l01Next src srcg 9).2) 3).2) 6).2) (size - 2)).1)) vars true (by omega) (by omega) hv hg (by omega)
       refine q_step (v := .slice b312 (((self src ((F_l01Next src ((F_l01Next src ((F_l01Next src ((F_l01Next src srcg 9).2) 3).2) 6).2) (size - 2)).2) (1 + ((F_l01Next src ((F_l01Next src ((F_l01Next src ((F_l01Next src srcg 9).2) 3).2) 6).2) (size - 2)).1)) vars true).1).length / 2 : Nat) c313) hE308 (y_assign rfl) rfl rfl rfl ?_; intro a315 hE316; clear hE308
       refine c_nil ?_
       have hE317 := hE316.sub (L' := [(0, .pointer (some ⟨srcB, 0, none⟩)), (1, .int .i64 size), (2, .int .i64 vars), (3, .bool true), (9, .int .i64 (1 + ((F_l01Next src ((F_l01Next src ((F_l01Next src ((F_l01Next src srcg 9).2) 3).2) 6).2) (size - 2)).1))), (10, .slice b312 (((self src ((F_l01Next src ((F_l01Next src ((F_l01Next src ((F_l01Next src srcg 9).2) 3).2) 6).2) (size - 2)).2) (1 + ((F_l01Next src ((F_l01Next src ((F_l01Next src ((F_l01Next src srcg 9).2) 3).2) 6).2) (size - 2)).1)) vars true).1).length / 2 : Nat) c313)]) ⟨rfl, rfl, rfl, rfl, rfl, rfl, trivial⟩; clear hE316
       refine p_tn ?_
       refine c_seq ?_
       refine c_reg ?_
       refine q_step (v := .pointer (some ⟨srcB, 0, none⟩)) hE317 (y_move rfl) rfl rfl rfl ?_; intro a318 hE319; clear hE317
       have hS326 := (St.pickT (Γ := [.own 94 2 b312 (((self src ((F_l01Next src ((F_l01Next src ((F_l01Next src ((F_l01Next src srcg 9).2) 3).2) 6).2) (size - 2)).2) (1 + ((F_l01Next src ((F_l01Next src ((F_l01Next src ((F_l01Next src srcg 9).2) 3).2) 6).2) (size - 2)).1)) vars true).1).length / 2 : Nat) c313 ((self src ((F_l01Next src ((F_l01Next src ((F_l01Next src ((F_l01Next src srcg 9).2) 3).2) 6).2) (size - 2)).2) (1 + ((F_l01Next src ((F_l01Next src ((F_l01Next src ((F_l01Next src srcg 9).2) 3).2) 6).2) (size - 2)).1)) vars true).1), .blk srcB #[.slice srcA src.length srcC, .int .i64 ((((self src ((F_l01Next src ((F_l01Next src ((F_l01Next src ((F_l01Next src srcg 9).2) 3).2) 6).2) (size - 2)).2) (1 + ((F_l01Next src ((F_l01Next src ((F_l01Next src ((F_l01Next src srcg 9).2) 3).2) 6).2) (size - 2)).1)) vars true).2).1 : Nat) : Int), .int .u64 (((self src ((F_l01Next src ((F_l01Next src ((F_l01Next src ((F_l01Next src srcg 9).2) 3).2) 6).2) (size - 2)).2) (1 + ((F_l01Next src ((F_l01Next src ((F_l01Next src ((F_l01Next src srcg 9).2) 3).2) 6).2) (size - 2)).1)) vars true).2).2)] 163]) (Γ' := [.blk srcB #[.slice srcA src.length srcC, .int .i64 ((((self src ((F_l01Next src ((F_l01Next src ((F_l01Next src ((F_l01Next src srcg 9).2) 3).2) 6).2) (size - 2)).2) (1 + ((F_l01Next src ((F_l01Next src ((F_l01Next src ((F_l01Next src srcg 9).2) 3).2) 6).2) (size - 2)).1)) vars true).2).1 : Nat) : Int), .int .u64 (((self src ((F_l01Next src ((F_l01Next src ((F_l01Next src ((F_l01Next src srcg 9).2) 3).2) 6).2) (size - 2)).2) (1 + ((F_l01Next src ((F_l01Next src ((F_l01Next src ((F_l01Next src srcg 9).2) 3).2) 6).2) (size - 2)).1)) vars true).2).2)] 163, .own 94 2 b312 (((self src ((F_l01Next src ((F_l01Next src ((F_l01Next src ((F_l01Next src srcg 9).2) 3).2) 6).2) (size - 2)).2) (1 + ((F_l01Next src ((F_l01Next src ((F_l01Next src ((F_l01Next src srcg 9).2) 3).2) 6).2) (size - 2)).1)) vars true).1).length / 2 : Nat) c313 ((self src ((F_l01Next src ((F_l01Next src ((F_l01Next src ((F_l01Next src srcg 9).2) 3).2) 6).2) (size - 2)).2) (1 + ((F_l01Next src ((F_l01Next src ((F_l01Next src ((F_l01Next src srcg 9).2) 3).2) 6).2) (size - 2)).1)) vars true).1)]) (Γ0 := Γ0) hS309 [1, 0] (by decide) rfl rfl); clear hS309
       refine l_step hE319 rfl (l_call (f := 123) (argv := [.pointer (some ⟨srcB, 0, none⟩), .int .i64 3]) hE319 (fun _ => cf_l01Next0 _ _) rfl rfl (c_l01Next srcB srcA src.length srcC src ((self src ((F_l01Next src ((F_l01Next src ((F_l01Next src ((F_l01Next src srcg 9).2) 3).2) 6).2) (size - 2)).2) (1 + ((F_l01Next src ((F_l01Next src ((F_l01Next src ((F_l01Next src srcg 9).2) 3).2) 6).2) (size - 2)).1)) vars true).2) 3 w306 w0v (.own 94 2 b312 (((self src ((F_l01Next src ((F_l01Next src ((F_l01Next src ((F_l01Next src srcg 9).2) 3).2) 6).2) (size - 2)).2) (1 + ((F_l01Next src ((F_l01Next src ((F_l01Next src ((F_l01Next src srcg 9).2) 3).2) 6).2) (size - 2)).1)) vars true).1).length / 2 : Nat) c313 ((self src ((F_l01Next src ((F_l01Next src ((F_l01Next src ((F_l01Next src srcg 9).2) 3).2) 6).2) (size - 2)).2) (1 + ((F_l01Next src ((F_l01Next src ((F_l01Next src ((F_l01Next src srcg 9).2) 3).2) 6).2) (size - 2)).1)) vars true).1) :: Γ0) hS326 srcR) ?_)
       rintro _ w321 ⟨rfl, hS324⟩ a322 hE323; clear hE319 hS326
       have hf327 := l01Next_bd srcR ((self src ((F_l01Next src ((F_l01Next src ((F_l01Next src ((F_l01Next src srcg 9).2) 3).2) 6).2) (size - 2)).2) (1 + ((F_l01Next src ((F_l01Next src ((F_l01Next src ((F_l01Next src srcg 9).2) 3).2) 6).2) (size - 2)).1)) vars true).2) 3
       refine q_step (v := .int .i64 (2 + ((F_l01Next src ((self src ((F_l01Next src ((F_l01Next src ((F_l01Next src ((F_l01Next src srcg 9).2) 3).2) 6).2) (size - 2)).2) (1 + ((F_l01Next src ((F_l01Next src ((F_l01Next src ((F_l01Next src srcg 9).2) 3).2) 6).2) (size - 2)).1)) vars true).2) 3).1))) hE323 (y_add rfl rfl ⟨(by omega), (by omega)⟩) rfl rfl rfl ?_; intro a328 hE329; clear hE323
       refine q_step (v := .slice b312 (((self src ((F_l01Next src ((F_l01Next src ((F_l01Next src ((F_l01Next src srcg 9).2) 3).2) 6).2) (size - 2)).2) (1 + ((F_l01Next src ((F_l01Next src ((F_l01Next src ((F_l01Next src srcg 9).2) 3).2) 6).2) (size - 2)).1)) vars true).1).length / 2 : Nat) c313) hE329 (y_move rfl) rfl rfl rfl ?_; intro a330 hE331; clear hE329
       refine q_step (v := .pointer (some ⟨srcB, 0, none⟩)) hE331 (y_move rfl) rfl rfl rfl ?_; intro a332 hE333; clear hE331
       refine q_step (v := .int .i64 size) hE333 (y_move rfl) rfl rfl rfl ?_; intro a334 hE335; clear hE333
       refine q_step (v := .int .i64 (size - 1)) hE335 (y_sub rfl rfl ⟨(by omega), (by omega)⟩) rfl rfl rfl ?_; intro a336 hE337; clear hE335
       refine q_step (v := .int .i64 (1 + ((F_l01Next src ((F_l01Next src ((F_l01Next src ((F_l01Next src srcg 9).2) 3).2) 6).2) (size - 2)).1))) hE337 (y_move rfl) rfl rfl rfl ?_; intro a338 hE339; clear hE337
       refine q_step (v := .int .i64 ((size - 1) - (1 + ((F_l01Next src ((F_l01Next src ((F_l01Next src ((F_l01Next src srcg 9).2) 3).2) 6).2) (size - 2)).1)))) hE339 (y_sub rfl rfl ⟨(by omega), (by omega)⟩) rfl rfl rfl ?_; intro a340 hE341; clear hE339
       refine q_step (v := .int .i64 vars) hE341 (y_move rfl) rfl rfl rfl ?_; intro a342 hE343; clear hE341
       refine q_step (v := .bool true) hE343 (y_move rfl) rfl rfl rfl ?_; intro a344 hE345; clear hE343
       have hS352 := (St.pickT (Γ := [.blk srcB #[.slice srcA src.length srcC, .int .i64 ((((F_l01Next src ((self src ((F_l01Next src ((F_l01Next src ((F_l01Next src ((F_l01Next src srcg 9).2) 3).2) 6).2) (size - 2)).2) (1 + ((F_l01Next src ((F_l01Next src ((F_l01Next src ((F_l01Next src srcg 9).2) 3).2) 6).2) (size - 2)).1)) vars true).2) 3).2).1 : Nat) : Int), .int .u64 (((F_l01Next src ((self src ((F_l01Next src ((F_l01Next src ((F_l01Next src ((F_l01Next src srcg 9).2) 3).2) 6).2) (size - 2)).2) (1 + ((F_l01Next src ((F_l01Next src ((F_l01Next src ((F_l01Next src srcg 9).2) 3).2) 6).2) (size - 2)).1)) vars true).2) 3).2).2)] 163, .own 94 2 b312 (((self src ((F_l01Next src ((F_l01Next src ((F_l01Next src ((F_l01Next src srcg 9).2) 3).2) 6).2) (size - 2)).2) (1 + ((F_l01Next src ((F_l01Next src ((F_l01Next src ((F_l01Next src srcg 9).2) 3).2) 6).2) (size - 2)).1)) vars true).1).length / 2 : Nat) c313 ((self src ((F_l01Next src ((F_l01Next src ((F_l01Next src ((F_l01Next src srcg 9).2) 3).2) 6).2) (size - 2)).2) (1 + ((F_l01Next src ((F_l01Next src ((F_l01Next src ((F_l01Next src srcg 9).2) 3).2) 6).2) (size - 2)).1)) vars true).1)]) (Γ' := [.blk srcB #[.slice srcA src.length srcC, .int .i64 ((((F_l01Next src ((self src ((F_l01Next src ((F_l01Next src ((F_l01Next src ((F_l01Next src srcg 9).2) 3).2) 6).2) (size - 2)).2) (1 + ((F_l01Next src ((F_l01Next src ((F_l01Next src ((F_l01Next src srcg 9).2) 3).2) 6).2) (size - 2)).1)) vars true).2) 3).2).1 : Nat) : Int), .int .u64 (((F_l01Next src ((self src ((F_l01Next src ((F_l01Next src ((F_l01Next src ((F_l01Next src srcg 9).2) 3).2) 6).2) (size - 2)).2) (1 + ((F_l01Next src ((F_l01Next src ((F_l01Next src ((F_l01Next src srcg 9).2) 3).2) 6).2) (size - 2)).1)) vars true).2) 3).2).2)] 163, .own 94 2 b312 (((self src ((F_l01Next src ((F_l01Next src ((F_l01Next src ((F_l01Next src srcg 9).2) 3).2) 6).2) (size - 2)).2) (1 + ((F_l01Next src ((F_l01Next src ((F_l01Next src ((F_l01Next src srcg 9).2) 3).2) 6).2) (size - 2)).1)) vars true).1).length / 2 : Nat) c313 ((self src ((F_l01Next src ((F_l01Next src ((F_l01Next src ((F_l01Next src srcg 9).2) 3).2) 6).2) (size - 2)).2) (1 + ((F_l01Next src ((F_l01Next src ((F_l01Next src ((F_l01Next src srcg 9).2) 3).2) 6).2) (size - 2)).1)) vars true).1)]) (Γ0 := Γ0) hS324 [0, 1] (by decide) rfl rfl); clear hS324
       refine l_step hE345 rfl (l_call (f := 190) (argv := [.pointer (some ⟨srcB, 0, none⟩), .int .i64 ((size - 1) - (1 + ((F_l01Next src ((F_l01Next src ((F_l01Next src ((F_l01Next src srcg 9).2) 3).2) 6).2) (size - 2)).1))), .int .i64 vars, .bool true]) hE345 (fun _ => cf_l02Draw _ _) rfl rfl (ih srcB srcA src.length srcC src ((F_l01Next src ((self src ((F_l01Next src ((F_l01Next src ((F_l01Next src ((F_l01Next src srcg 9).2) 3).2) 6).2) (size - 2)).2) (1 + ((F_l01Next src ((F_l01Next src ((F_l01Next src ((F_l01Next src srcg 9).2) 3).2) 6).2) (size - 2)).1)) vars true).2) 3).2) ((size - 1) - (1 + ((F_l01Next src ((F_l01Next src ((F_l01Next src ((F_l01Next src srcg 9).2) 3).2) 6).2) (size - 2)).1))) vars true w321 w0v (.own 94 2 b312 (((self src ((F_l01Next src ((F_l01Next src ((F_l01Next src ((F_l01Next src srcg 9).2) 3).2) 6).2) (size - 2)).2) (1 + ((F_l01Next src ((F_l01Next src ((F_l01Next src ((F_l01Next src srcg 9).2) 3).2) 6).2) (size - 2)).1)) vars true).1).length / 2 : Nat) c313 ((self src ((F_l01Next src ((F_l01Next src ((F_l01Next src ((F_l01Next src srcg 9).2) 3).2) 6).2) (size - 2)).2) (1 + ((F_l01Next src ((F_l01Next src ((F_l01Next src ((F_l01Next src srcg 9).2) 3).2) 6).2) (size - 2)).1)) vars true).1) :: Γ0) hS352 srcR (by omega) (by omega) (by omega) hg (by omega)) ?_)
       rintro _ w347 ⟨b353, c354, rfl, hS350⟩ a348 hE349; clear hE345 hS352
       have hf355 := hpost src ((F_l01Next src ((self src ((F_l01Next src ((F_l01Next src ((F_l01Next src ((F_l01Next src srcg 9).2) 3).2) 6).2) (size - 2)).2) (1 + ((F_l01Next src ((F_l01Next src ((F_l01Next src ((F_l01Next src srcg 9).2) 3).2) 6).2) (size - 2)).1)) vars true).2) 3).2) ((size - 1) - (1 + ((F_l01Next src ((F_l01Next src ((F_l01Next src ((F_l01Next src srcg 9).2) 3).2) 6).2) (size - 2)).1))) vars true (by omega) (by omega) hv hg (by omega)
       refine l_step hE349 rfl (l_call (f := 128) (argv := [.int .i64 (2 + ((F_l01Next src ((self src ((F_l01Next src ((F_l01Next src ((F_l01Next src ((F_l01Next src srcg 9).2) 3).2) 6).2) (size - 2)).2) (1 + ((F_l01Next src ((F_l01Next src ((F_l01Next src ((F_l01Next src srcg 9).2) 3).2) 6).2) (size - 2)).1)) vars true).2) 3).1)), .slice b312 (((self src ((F_l01Next src ((F_l01Next src ((F_l01Next src ((F_l01Next src srcg 9).2) 3).2) 6).2) (size - 2)).2) (1 + ((F_l01Next src ((F_l01Next src ((F_l01Next src ((F_l01Next src srcg 9).2) 3).2) 6).2) (size - 2)).1)) vars true).1).length / 2 : Nat) c313, .slice b353 (((self src ((F_l01Next src ((self src ((F_l01Next src ((F_l01Next src ((F_l01Next src ((F_l01Next src srcg 9).2) 3).2) 6).2) (size - 2)).2) (1 + ((F_l01Next src ((F_l01Next src ((F_l01Next src ((F_l01Next src srcg 9).2) 3).2) 6).2) (size - 2)).1)) vars true).2) 3).2) ((size - 1) - (1 + ((F_l01Next src ((F_l01Next src ((F_l01Next src ((F_l01Next src srcg 9).2) 3).2) 6).2) (size - 2)).1))) vars true).1).length / 2 : Nat) c354]) hE349 (fun _ => cf_l02Pair _ _) rfl rfl (c_l02Pair (2 + ((F_l01Next src ((self src ((F_l01Next src ((F_l01Next src ((F_l01Next src ((F_l01Next src srcg 9).2) 3).2) 6).2) (size - 2)).2) (1 + ((F_l01Next src ((F_l01Next src ((F_l01Next src ((F_l01Next src srcg 9).2) 3).2) 6).2) (size - 2)).1)) vars true).2) 3).1)) b312 (((self src ((F_l01Next src ((F_l01Next src ((F_l01Next src ((F_l01Next src srcg 9).2) 3).2) 6).2) (size - 2)).2) (1 + ((F_l01Next src ((F_l01Next src ((F_l01Next src ((F_l01Next src srcg 9).2) 3).2) 6).2) (size - 2)).1)) vars true).1).length / 2 : Nat) c313 ((self src ((F_l01Next src ((F_l01Next src ((F_l01Next src ((F_l01Next src srcg 9).2) 3).2) 6).2) (size - 2)).2) (1 + ((F_l01Next src ((F_l01Next src ((F_l01Next src ((F_l01Next src srcg 9).2) 3).2) 6).2) (size - 2)).1)) vars true).1) b353 (((self src ((F_l01Next src ((self src ((F_l01Next src ((F_l01Next src ((F_l01Next src ((F_l01Next src srcg 9).2) 3).2) 6).2) (size - 2)).2) (1 + ((F_l01Next src ((F_l01Next src ((F_l01Next src ((F_l01Next src srcg 9).2) 3).2) 6).2) (size - 2)).1)) vars true).2) 3).2) ((size - 1) - (1 + ((F_l01Next src ((F_l01Next src ((F_l01Next src ((F_l01Next src srcg 9).2) 3).2) 6).2) (size - 2)).1))) vars true).1).length / 2 : Nat) c354 ((self src ((F_l01Next src ((self src ((F_l01Next src ((F_l01Next src ((F_l01Next src ((F_l01Next src srcg 9).2) 3).2) 6).2) (size - 2)).2) (1 + ((F_l01Next src ((F_l01Next src ((F_l01Next src ((F_l01Next src srcg 9).2) 3).2) 6).2) (size - 2)).1)) vars true).2) 3).2) ((size - 1) - (1 + ((F_l01Next src ((F_l01Next src ((F_l01Next src ((F_l01Next src srcg 9).2) 3).2) 6).2) (size - 2)).1))) vars true).1) w347 (St.rdO (i := 2) hS350 rfl) (St.rdO (i := 0) hS350 rfl) (by omega) (by omega)) ?_)
       rintro _ w357 ⟨b362, c363, rfl, ho364, he361⟩ a358 hE359; clear hE349
       have hf365 := l02Pair_len (2 + ((F_l01Next src ((self src ((F_l01Next src ((F_l01Next src ((F_l01Next src ((F_l01Next src srcg 9).2) 3).2) 6).2) (size - 2)).2) (1 + ((F_l01Next src ((F_l01Next src ((F_l01Next src ((F_l01Next src srcg 9).2) 3).2) 6).2) (size - 2)).1)) vars true).2) 3).1)) ((self src ((F_l01Next src ((F_l01Next src ((F_l01Next src ((F_l01Next src srcg 9).2) 3).2) 6).2) (size - 2)).2) (1 + ((F_l01Next src ((F_l01Next src ((F_l01Next src ((F_l01Next src srcg 9).2) 3).2) 6).2) (size - 2)).1)) vars true).1) ((self src ((F_l01Next src ((self src ((F_l01Next src ((F_l01Next src ((F_l01Next src ((F_l01Next src srcg 9).2) 3).2) 6).2) (size - 2)).2) (1 + ((F_l01Next src ((F_l01Next src ((F_l01Next src ((F_l01Next src srcg 9).2) 3).2) 6).2) (size - 2)).1)) vars true).2) 3).2) ((size - 1) - (1 + ((F_l01Next src ((F_l01Next src ((F_l01Next src ((F_l01Next src srcg 9).2) 3).2) 6).2) (size - 2)).1))) vars true).1)
       have hS360 := St.own hS350 he361 ho364; clear hS350
       refine q_step (v := .slice b362 ((F_l02Pair (2 + ((F_l01Next src ((self src ((F_l01Next src ((F_l01Next src ((F_l01Next src ((F_l01Next src srcg 9).2) 3).2) 6).2) (size - 2)).2) (1 + ((F_l01Next src ((F_l01Next src ((F_l01Next src ((F_l01Next src srcg 9).2) 3).2) 6).2) (size - 2)).1)) vars true).2) 3).1)) ((self src ((F_l01Next src ((F_l01Next src ((F_l01Next src ((F_l01Next src srcg 9).2) 3).2) 6).2) (size - 2)).2) (1 + ((F_l01Next src ((F_l01Next src ((F_l01Next src ((F_l01Next src srcg 9).2) 3).2) 6).2) (size - 2)).1)) vars true).1) ((self src ((F_l01Next src ((self src ((F_l01Next src ((F_l01Next src ((F_l01Next src ((F_l01Next src srcg 9).2) 3).2) 6).2) (size - 2)).2) (1 + ((F_l01Next src ((F_l01Next src ((F_l01Next src ((F_l01Next src srcg 9).2) 3).2) 6).2) (size - 2)).1)) vars true).2) 3).2) ((size - 1) - (1 + ((F_l01Next src ((F_l01Next src ((F_l01Next src ((F_l01Next src srcg 9).2) 3).2) 6).2) (size - 2)).1))) vars true).1)).length / 2 : Nat) c363) hE359 (y_assign rfl) rfl rfl rfl ?_; intro a366 hE367; clear hE359
       refine c_nil ?_
       have hE368 := hE367.sub (L' := [(8, .slice b362 ((F_l02Pair (2 + ((F_l01Next src ((self src ((F_l01Next src ((F_l01Next src ((F_l01Next src ((F_l01Next src srcg 9).2) 3).2) 6).2) (size - 2)).2) (1 + ((F_l01Next src ((F_l01Next src ((F_l01Next src ((F_l01Next src srcg 9).2) 3).2) 6).2) (size - 2)).1)) vars true).2) 3).1)) ((self src ((F_l01Next src ((F_l01Next src ((F_l01Next src ((F_l01Next src srcg 9).2) 3).2) 6).2) (size - 2)).2) (1 + ((F_l01Next src ((F_l01Next src ((F_l01Next src ((F_l01Next src srcg 9).2) 3).2) 6).2) (size - 2)).1)) vars true).1) ((self src ((F_l01Next src ((self src ((F_l01Next src ((F_l01Next src ((F_l01Next src ((F_l01Next src srcg 9).2) 3).2) 6).2) (size - 2)).2) (1 + ((F_l01Next src ((F_l01Next src ((F_l01Next src ((F_l01Next src srcg 9).2) 3).2) 6).2) (size - 2)).1)) vars true).2) 3).2) ((size - 1) - (1 + ((F_l01Next src ((F_l01Next src ((F_l01Next src ((F_l01Next src srcg 9).2) 3).2) 6).2) (size - 2)).1))) vars true).1)).length / 2 : Nat) c363)]) ⟨rfl, trivial⟩; clear hE367
       refine p_tn ?_
       refine wp_ret ?_
       have hF : F_l02Draw_b self src srcg size vars modal = (F_l02Pair (2 + ((F_l01Next src ((self src ((F_l01Next src ((F_l01Next src ((F_l01Next src ((F_l01Next src srcg 9).2) 3).2) 6).2) (size - 2)).2) (1 + ((F_l01Next src ((F_l01Next src ((F_l01Next src ((F_l01Next src srcg 9).2) 3).2) 6).2) (size - 2)).1)) vars true).2) 3).1)) ((self src ((F_l01Next src ((F_l01Next src ((F_l01Next src ((F_l01Next src srcg 9).2) 3).2) 6).2) (size - 2)).2) (1 + ((F_l01Next src ((F_l01Next src ((F_l01Next src ((F_l01Next src srcg 9).2) 3).2) 6).2) (size - 2)).1)) vars true).1) ((self src ((F_l01Next src ((self src ((F_l01Next src ((F_l01Next src ((F_l01Next src ((F_l01Next src srcg 9).2) 3).2) 6).2) (size - 2)).2) (1 + ((F_l01Next src ((F_l01Next src ((F_l01Next src ((F_l01Next src srcg 9).2) 3).2) 6).2) (size - 2)).1)) vars true).2) 3).2) ((size - 1) - (1 + ((F_l01Next src ((F_l01Next src ((F_l01Next src ((F_l01Next src srcg 9).2) 3).2) 6).2) (size - 2)).1))) vars true).1), (self src ((F_l01Next src ((self src ((F_l01Next src ((F_l01Next src ((F_l01Next src ((F_l01Next src srcg 9).2) 3).2) 6).2) (size - 2)).2) (1 + ((F_l01Next src ((F_l01Next src ((F_l01Next src ((F_l01Next src srcg 9).2) 3).2) 6).2) (size - 2)).1)) vars true).2) 3).2) ((size - 1) - (1 + ((F_l01Next src ((F_l01Next src ((F_l01Next src ((F_l01Next src srcg 9).2) 3).2) 6).2) (size - 2)).1))) vars true).2) := by unfold F_l02Draw_b; rw [ht240, ht177, hb160, ht95, hb10]; first | done | rfl
       refine c_ret1 hE368 rfl rfl ?_
       have hS9 := (St.pickT (Γ := [.own 94 2 b362 ((F_l02Pair (2 + ((F_l01Next src ((self src ((F_l01Next src ((F_l01Next src ((F_l01Next src ((F_l01Next src srcg 9).2) 3).2) 6).2) (size - 2)).2) (1 + ((F_l01Next src ((F_l01Next src ((F_l01Next src ((F_l01Next src srcg 9).2) 3).2) 6).2) (size - 2)).1)) vars true).2) 3).1)) ((self src ((F_l01Next src ((F_l01Next src ((F_l01Next src ((F_l01Next src srcg 9).2) 3).2) 6).2) (size - 2)).2) (1 + ((F_l01Next src ((F_l01Next src ((F_l01Next src ((F_l01Next src srcg 9).2) 3).2) 6).2) (size - 2)).1)) vars true).1) ((self src ((F_l01Next src ((self src ((F_l01Next src ((F_l01Next src ((F_l01Next src ((F_l01Next src srcg 9).2) 3).2) 6).2) (size - 2)).2) (1 + ((F_l01Next src ((F_l01Next src ((F_l01Next src ((F_l01Next src srcg 9).2) 3).2) 6).2) (size - 2)).1)) vars true).2) 3).2) ((size - 1) - (1 + ((F_l01Next src ((F_l01Next src ((F_l01Next src ((F_l01Next src srcg 9).2) 3).2) 6).2) (size - 2)).1))) vars true).1)).length / 2 : Nat) c363 (F_l02Pair (2 + ((F_l01Next src ((self src ((F_l01Next src ((F_l01Next src ((F_l01Next src ((F_l01Next src srcg 9).2) 3).2) 6).2) (size - 2)).2) (1 + ((F_l01Next src ((F_l01Next src ((F_l01Next src ((F_l01Next src srcg 9).2) 3).2) 6).2) (size - 2)).1)) vars true).2) 3).1)) ((self src ((F_l01Next src ((F_l01Next src ((F_l01Next src ((F_l01Next src srcg 9).2) 3).2) 6).2) (size - 2)).2) (1 + ((F_l01Next src ((F_l01Next src ((F_l01Next src ((F_l01Next src srcg 9).2) 3).2) 6).2) (size - 2)).1)) vars true).1) ((self src ((F_l01Next src ((self src ((F_l01Next src ((F_l01Next src ((F_l01Next src ((F_l01Next src srcg 9).2) 3).2) 6).2) (size - 2)).2) (1 + ((F_l01Next src ((F_l01Next src ((F_l01Next src ((F_l01Next src srcg 9).2) 3).2) 6).2) (size - 2)).1)) vars true).2) 3).2) ((size - 1) - (1 + ((F_l01Next src ((F_l01Next src ((F_l01Next src ((F_l01Next src srcg 9).2) 3).2) 6).2) (size - 2)).1))) vars true).1)), .own 94 2 b353 (((self src ((F_l01Next src ((self src ((F_l01Next src ((F_l01Next src ((F_l01Next src ((F_l01Next src srcg 9).2) 3).2) 6).2) (size - 2)).2) (1 + ((F_l01Next src ((F_l01Next src ((F_l01Next src ((F_l01Next src srcg 9).2) 3).2) 6).2) (size - 2)).1)) vars true).2) 3).2) ((size - 1) - (1 + ((F_l01Next src ((F_l01Next src ((F_l01Next src ((F_l01Next src srcg 9).2) 3).2) 6).2) (size - 2)).1))) vars true).1).length / 2 : Nat) c354 ((self src ((F_l01Next src ((self src ((F_l01Next src ((F_l01Next src ((F_l01Next src ((F_l01Next src srcg 9).2) 3).2) 6).2) (size - 2)).2) (1 + ((F_l01Next src ((F_l01Next src ((F_l01Next src ((F_l01Next src srcg 9).2) 3).2) 6).2) (size - 2)).1)) vars true).2) 3).2) ((size - 1) - (1 + ((F_l01Next src ((F_l01Next src ((F_l01Next src ((F_l01Next src srcg 9).2) 3).2) 6).2) (size - 2)).1))) vars true).1), .blk srcB #[.slice srcA src.length srcC, .int .i64 ((((self src ((F_l01Next src ((self src ((F_l01Next src ((F_l01Next src ((F_l01Next src ((F_l01Next src srcg 9).2) 3).2) 6).2) (size - 2)).2) (1 + ((F_l01Next src ((F_l01Next src ((F_l01Next src ((F_l01Next src srcg 9).2) 3).2) 6).2) (size - 2)).1)) vars true).2) 3).2) ((size - 1) - (1 + ((F_l01Next src ((F_l01Next src ((F_l01Next src ((F_l01Next src srcg 9).2) 3).2) 6).2) (size - 2)).1))) vars true).2).1 : Nat) : Int), .int .u64 (((self src ((F_l01Next src ((self src ((F_l01Next src ((F_l01Next src ((F_l01Next src ((F_l01Next src srcg 9).2) 3).2) 6).2) (size - 2)).2) (1 + ((F_l01Next src ((F_l01Next src ((F_l01Next src ((F_l01Next src srcg 9).2) 3).2) 6).2) (size - 2)).1)) vars true).2) 3).2) ((size - 1) - (1 + ((F_l01Next src ((F_l01Next src ((F_l01Next src ((F_l01Next src srcg 9).2) 3).2) 6).2) (size - 2)).1))) vars true).2).2)] 163, .own 94 2 b312 (((self src ((F_l01Next src ((F_l01Next src ((F_l01Next src ((F_l01Next src srcg 9).2) 3).2) 6).2) (size - 2)).2) (1 + ((F_l01Next src ((F_l01Next src ((F_l01Next src ((F_l01Next src srcg 9).2) 3).2) 6).2) (size - 2)).1)) vars true).1).length / 2 : Nat) c313 ((self src ((F_l01Next src ((F_l01Next src ((F_l01Next src ((F_l01Next src srcg 9).2) 3).2) 6).2) (size - 2)).2) (1 + ((F_l01Next src ((F_l01Next src ((F_l01Next src ((F_l01Next src srcg 9).2) 3).2) 6).2) (size - 2)).1)) vars true).1)]) (Γ' := [.own 94 2 b362 ((F_l02Pair (2 + ((F_l01Next src ((self src ((F_l01Next src ((F_l01Next src ((F_l01Next src ((F_l01Next src srcg 9).2) 3).2) 6).2) (size - 2)).2) (1 + ((F_l01Next src ((F_l01Next src ((F_l01Next src ((F_l01Next src srcg 9).2) 3).2) 6).2) (size - 2)).1)) vars true).2) 3).1)) ((self src ((F_l01Next src ((F_l01Next src ((F_l01Next src ((F_l01Next src srcg 9).2) 3).2) 6).2) (size - 2)).2) (1 + ((F_l01Next src ((F_l01Next src ((F_l01Next src ((F_l01Next src srcg 9).2) 3).2) 6).2) (size - 2)).1)) vars true).1) ((self src ((F_l01Next src ((self src ((F_l01Next src ((F_l01Next src ((F_l01Next src ((F_l01Next src srcg 9).2) 3).2) 6).2) (size - 2)).2) (1 + ((F_l01Next src ((F_l01Next src ((F_l01Next src ((F_l01Next src srcg 9).2) 3).2) 6).2) (size - 2)).1)) vars true).2) 3).2) ((size - 1) - (1 + ((F_l01Next src ((F_l01Next src ((F_l01Next src ((F_l01Next src srcg 9).2) 3).2) 6).2) (size - 2)).1))) vars true).1)).length / 2 : Nat) c363 (F_l02Pair (2 + ((F_l01Next src ((self src ((F_l01Next src ((F_l01Next src ((F_l01Next src ((F_l01Next src srcg 9).2) 3).2) 6).2) (size - 2)).2) (1 + ((F_l01Next src ((F_l01Next src ((F_l01Next src ((F_l01Next src srcg 9).2) 3).2) 6).2) (size - 2)).1)) vars true).2) 3).1)) ((self src ((F_l01Next src ((F_l01Next src ((F_l01Next src ((F_l01Next src srcg 9).2) 3).2) 6).2) (size - 2)).2) (1 + ((F_l01Next src ((F_l01Next src ((F_l01Next src ((F_l01Next src srcg 9).2) 3).2) 6).2) (size - 2)).1)) vars true).1) ((self src ((F_l01Next src ((self src ((F_l01Next src ((F_l01Next src ((F_l01Next src ((F_l01Next src srcg 9).2) 3).2) 6).2) (size - 2)).2) (1 + ((F_l01Next src ((F_l01Next src ((F_l01Next src ((F_l01Next src srcg 9).2) 3).2) 6).2) (size - 2)).1)) vars true).2) 3).2) ((size - 1) - (1 + ((F_l01Next src ((F_l01Next src ((F_l01Next src ((F_l01Next src srcg 9).2) 3).2) 6).2) (size - 2)).1))) vars true).1)), .blk srcB #[.slice srcA src.length srcC, .int .i64 ((((self src ((F_l01Next src ((self src ((F_l01Next src ((F_l01Next src ((F_l01Next src ((F_l01Next src srcg 9).2) 3).2) 6).2) (size - 2)).2) (1 + ((F_l01Next src ((F_l01Next src ((F_l01Next src ((F_l01Next src srcg 9).2) 3).2) 6).2) (size - 2)).1)) vars true).2) 3).2) ((size - 1) - (1 + ((F_l01Next src ((F_l01Next src ((F_l01Next src ((F_l01Next src srcg 9).2) 3).2) 6).2) (size - 2)).1))) vars true).2).1 : Nat) : Int), .int .u64 (((self src ((F_l01Next src ((self src ((F_l01Next src ((F_l01Next src ((F_l01Next src ((F_l01Next src srcg 9).2) 3).2) 6).2) (size - 2)).2) (1 + ((F_l01Next src ((F_l01Next src ((F_l01Next src ((F_l01Next src srcg 9).2) 3).2) 6).2) (size - 2)).1)) vars true).2) 3).2) ((size - 1) - (1 + ((F_l01Next src ((F_l01Next src ((F_l01Next src ((F_l01Next src srcg 9).2) 3).2) 6).2) (size - 2)).1))) vars true).2).2)] 163]) (Γ0 := Γ0) hS360 [0, 2] (by decide) rfl rfl)
       exact ⟨b362, c363, (by rw [hF]), (by rw [hF]; (try dsimp only); exact hS9)⟩
    ·
     have hE369 := hE159; (try rw [hb160] at hE369); clear hE159
     refine q_skip hE369 rfl rfl rfl ?_; intro a370 hE371; clear hE369
     refine q_skip hE371 rfl rfl rfl ?_; intro a372 hE373; clear hE371
     refine q_skip hE373 rfl rfl rfl ?_; intro a374 hE375; clear hE373
     refine q_step (v := .bool false) hE375 (y_pick (b := false) rfl rfl) rfl rfl rfl ?_; intro a376 hE377; clear hE375
     refine c_nil ?_
     have hE378 := hE377.sub (L' := [(0, .pointer (some ⟨srcB, 0, none⟩)), (1, .int .i64 size), (2, .int .i64 vars), (3, .bool false), (31, .bool false)]) ⟨rfl, rfl, rfl, rfl, rfl, trivial⟩; clear hE377
     refine p_tn ?_
     refine c_false hE378 rfl ?_
     refine wp_skip ?_
     refine p_tn ?_
     refine c_seq ?_
     refine c_seq ?_
     refine c_reg ?_
     refine q_step (v := .pointer (some ⟨srcB, 0, none⟩)) hE378 (y_move rfl) rfl rfl rfl ?_; intro a379 hE380; clear hE378
     have hS387 := (St.pickT (Γ := [.blk srcB #[.slice srcA src.length srcC, .int .i64 ((((F_l01Next src srcg 9).2).1 : Nat) : Int), .int .u64 (((F_l01Next src srcg 9).2).2)] 163]) (Γ' := [.blk srcB #[.slice srcA src.length srcC, .int .i64 ((((F_l01Next src srcg 9).2).1 : Nat) : Int), .int .u64 (((F_l01Next src srcg 9).2).2)] 163]) (Γ0 := Γ0) hS86 [0] (by decide) rfl rfl); clear hS86
     refine l_step hE380 rfl (l_call (f := 123) (argv := [.pointer (some ⟨srcB, 0, none⟩), .int .i64 6]) hE380 (fun _ => cf_l01Next0 _ _) rfl rfl (c_l01Next srcB srcA src.length srcC src ((F_l01Next src srcg 9).2) 6 w83 w0v (Γ0) hS387 srcR) ?_)
     rintro _ w382 ⟨rfl, hS385⟩ a383 hE384; clear hE380 hS387
     have hf388 := l01Next_bd srcR ((F_l01Next src srcg 9).2) 6
     refine q_step (v := .bool (decide (((F_l01Next src ((F_l01Next src srcg 9).2) 6).1) = 0))) hE384 (y_eql rfl rfl) rfl rfl rfl ?_; intro a389 hE390; clear hE384
     refine c_nil ?_
     have hE391 := hE390.sub (L' := [(0, .pointer (some ⟨srcB, 0, none⟩)), (1, .int .i64 size), (2, .int .i64 vars), (3, .bool false), (44, .bool (decide (((F_l01Next src ((F_l01Next src srcg 9).2) 6).1) = 0)))]) ⟨rfl, rfl, rfl, rfl, rfl, trivial⟩; clear hE390
     refine p_tn ?_
     refine c_cond hE391 rfl (fun ht392 => ?_) (fun ht392 => ?_)
     ·
      have hp393 := of_decide_eq_true ht392
      have hE394 := hE391; rw [ht392] at hE394; clear hE391
      refine c_seq ?_
      refine c_reg ?_
      refine q_step (v := .pointer (some ⟨srcB, 0, none⟩)) hE394 (y_move rfl) rfl rfl rfl ?_; intro a395 hE396; clear hE394
      refine q_step (v := .int .i64 size) hE396 (y_move rfl) rfl rfl rfl ?_; intro a397 hE398; clear hE396
      refine q_step (v := .int .i64 (size - 2)) hE398 (y_sub rfl rfl ⟨(by omega), (by omega)⟩) rfl rfl rfl ?_; intro a399 hE400; clear hE398
      refine q_step (v := .int .i64 vars) hE400 (y_move rfl) rfl rfl rfl ?_; intro a401 hE402; clear hE400
      refine q_step (v := .bool false) hE402 (y_move rfl) rfl rfl rfl ?_; intro a403 hE404; clear hE402
      have hS411 := (St.pickT (Γ := [.blk srcB #[.slice srcA src.length srcC, .int .i64 ((((F_l01Next src ((F_l01Next src srcg 9).2) 6).2).1 : Nat) : Int), .int .u64 (((F_l01Next src ((F_l01Next src srcg 9).2) 6).2).2)] 163]) (Γ' := [.blk srcB #[.slice srcA src.length srcC, .int .i64 ((((F_l01Next src ((F_l01Next src srcg 9).2) 6).2).1 : Nat) : Int), .int .u64 (((F_l01Next src ((F_l01Next src srcg 9).2) 6).2).2)] 163]) (Γ0 := Γ0) hS385 [0] (by decide) rfl rfl); clear hS385
      refine l_step hE404 rfl (l_call (f := 190) (argv := [.pointer (some ⟨srcB, 0, none⟩), .int .i64 (size - 2), .int .i64 vars, .bool false]) hE404 (fun _ => cf_l02Draw _ _) rfl rfl (ih srcB srcA src.length srcC src ((F_l01Next src ((F_l01Next src srcg 9).2) 6).2) (size - 2) vars false w382 w0v (Γ0) hS411 srcR (by omega) (by omega) (by omega) hg (by omega)) ?_)
      rintro _ w406 ⟨b412, c413, rfl, hS409⟩ a407 hE408; clear hE404 hS411
      have hf414 := hpost src ((F_l01Next src ((F_l01Next src srcg 9).2) 6).2) (size - 2) vars false (by omega) (by omega) hv hg (by omega)
      refine l_step hE408 rfl (l_call (f := 82) (argv := [.slice b412 (((self src ((F_l01Next src ((F_l01Next src srcg 9).2) 6).2) (size - 2) vars false).1).length / 2 : Nat) c413]) hE408 (fun _ => cf_l02Not _ _) rfl rfl (c_l02Not b412 (((self src ((F_l01Next src ((F_l01Next src srcg 9).2) 6).2) (size - 2) vars false).1).length / 2 : Nat) c413 ((self src ((F_l01Next src ((F_l01Next src srcg 9).2) 6).2) (size - 2) vars false).1) w406 (St.rdO (i := 0) hS409 rfl) (by omega)) ?_)
      rintro _ w416 ⟨b421, c422, rfl, ho423, he420⟩ a417 hE418; clear hE408
      have hf424 := l02Not_len ((self src ((F_l01Next src ((F_l01Next src srcg 9).2) 6).2) (size - 2) vars false).1)
      have hS419 := St.own hS409 he420 ho423; clear hS409
      refine q_step (v := .slice b421 ((F_l02Not ((self src ((F_l01Next src ((F_l01Next src srcg 9).2) 6).2) (size - 2) vars false).1)).length / 2 : Nat) c422) hE418 (y_assign rfl) rfl rfl rfl ?_; intro a425 hE426; clear hE418
      refine c_nil ?_
      have hE427 := hE426.sub (L' := [(8, .slice b421 ((F_l02Not ((self src ((F_l01Next src ((F_l01Next src srcg 9).2) 6).2) (size - 2) vars false).1)).length / 2 : Nat) c422)]) ⟨rfl, trivial⟩; clear hE426
      refine p_tn ?_
      refine wp_ret ?_
      refine p_tr ?_
      have hF : F_l02Draw_b self src srcg size vars modal = (F_l02Not ((self src ((F_l01Next src ((F_l01Next src srcg 9).2) 6).2) (size - 2) vars false).1), (self src ((F_l01Next src ((F_l01Next src srcg 9).2) 6).2) (size - 2) vars false).2) := by unfold F_l02Draw_b; rw [ht392, hb160, ht95, hb10]; first | done | rfl
      refine c_ret1 hE427 rfl rfl ?_
      have hS9 := (St.pickT (Γ := [.own 94 2 b421 ((F_l02Not ((self src ((F_l01Next src ((F_l01Next src srcg 9).2) 6).2) (size - 2) vars false).1)).length / 2 : Nat) c422 (F_l02Not ((self src ((F_l01Next src ((F_l01Next src srcg 9).2) 6).2) (size - 2) vars false).1)), .own 94 2 b412 (((self src ((F_l01Next src ((F_l01Next src srcg 9).2) 6).2) (size - 2) vars false).1).length / 2 : Nat) c413 ((self src ((F_l01Next src ((F_l01Next src srcg 9).2) 6).2) (size - 2) vars false).1), .blk srcB #[.slice srcA src.length srcC, .int .i64 ((((self src ((F_l01Next src ((F_l01Next src srcg 9).2) 6).2) (size - 2) vars false).2).1 : Nat) : Int), .int .u64 (((self src ((F_l01Next src ((F_l01Next src srcg 9).2) 6).2) (size - 2) vars false).2).2)] 163]) (Γ' := [.own 94 2 b421 ((F_l02Not ((self src ((F_l01Next src ((F_l01Next src srcg 9).2) 6).2) (size - 2) vars false).1)).length / 2 : Nat) c422 (F_l02Not ((self src ((F_l01Next src ((F_l01Next src srcg 9).2) 6).2) (size - 2) vars false).1)), .blk srcB #[.slice srcA src.length srcC, .int .i64 ((((self src ((F_l01Next src ((F_l01Next src srcg 9).2) 6).2) (size - 2) vars false).2).1 : Nat) : Int), .int .u64 (((self src ((F_l01Next src ((F_l01Next src srcg 9).2) 6).2) (size - 2) vars false).2).2)] 163]) (Γ0 := Γ0) hS419 [0, 2] (by decide) rfl rfl)
      exact ⟨b421, c422, (by rw [hF]), (by rw [hF]; (try dsimp only); exact hS9)⟩
     ·
      have hp428 := of_decide_eq_false ht392
      have hE429 := hE391; rw [ht392] at hE429; clear hE391
      refine wp_skip ?_
      refine p_tn ?_
      refine c_seq ?_
      refine c_reg ?_
      refine q_step (v := .pointer (some ⟨srcB, 0, none⟩)) hE429 (y_move rfl) rfl rfl rfl ?_; intro a430 hE431; clear hE429
      refine q_step (v := .int .i64 size) hE431 (y_move rfl) rfl rfl rfl ?_; intro a432 hE433; clear hE431
      refine q_step (v := .int .i64 (size - 2)) hE433 (y_sub rfl rfl ⟨(by omega), (by omega)⟩) rfl rfl rfl ?_; intro a434 hE435; clear hE433
      have hS442 := (St.pickT (Γ := [.blk srcB #[.slice srcA src.length srcC, .int .i64 ((((F_l01Next src ((F_l01Next src srcg 9).2) 6).2).1 : Nat) : Int), .int .u64 (((F_l01Next src ((F_l01Next src srcg 9).2) 6).2).2)] 163]) (Γ' := [.blk srcB #[.slice srcA src.length srcC, .int .i64 ((((F_l01Next src ((F_l01Next src srcg 9).2) 6).2).1 : Nat) : Int), .int .u64 (((F_l01Next src ((F_l01Next src srcg 9).2) 6).2).2)] 163]) (Γ0 := Γ0) hS385 [0] (by decide) rfl rfl); clear hS385
      refine l_step hE435 rfl (l_call (f := 123) (argv := [.pointer (some ⟨srcB, 0, none⟩), .int .i64 (size - 2)]) hE435 (fun _ => cf_l01Next0 _ _) rfl rfl (c_l01Next srcB srcA src.length srcC src ((F_l01Next src ((F_l01Next src srcg 9).2) 6).2) (size - 2) w382 w0v (Γ0) hS442 srcR) ?_)
      rintro _ w437 ⟨rfl, hS440⟩ a438 hE439; clear hE435 hS442
      have hf443 := l01Next_bd srcR ((F_l01Next src ((F_l01Next src srcg 9).2) 6).2) (size - 2)
      refine q_step (v := .int .i64 (1 + ((F_l01Next src ((F_l01Next src ((F_l01Next src srcg 9).2) 6).2) (size - 2)).1))) hE439 (y_add rfl rfl ⟨(by omega), (by omega)⟩) rfl rfl rfl ?_; intro a444 hE445; clear hE439
      refine q_step (v := .int .i64 (1 + ((F_l01Next src ((F_l01Next src ((F_l01Next src srcg 9).2) 6).2) (size - 2)).1))) hE445 (y_assign rfl) rfl rfl rfl ?_; intro a446 hE447; clear hE445
      refine c_nil ?_
      have hE448 := hE447.sub (L' := [(0, .pointer (some ⟨srcB, 0, none⟩)), (1, .int .i64 size), (2, .int .i64 vars), (3, .bool false), (9, .int .i64 (1 + ((F_l01Next src ((F_l01Next src ((F_l01Next src srcg 9).2) 6).2) (size - 2)).1)))]) ⟨rfl, rfl, rfl, rfl, rfl, trivial⟩; clear hE447
      refine p_tn ?_
      refine c_seq ?_
      refine c_reg ?_
      refine q_step (v := .pointer (some ⟨srcB, 0, none⟩)) hE448 (y_move rfl) rfl rfl rfl ?_; intro a449 hE450; clear hE448
      refine q_step (v := .int .i64 (1 + ((F_l01Next src ((F_l01Next src ((F_l01Next src srcg 9).2) 6).2) (size - 2)).1))) hE450 (y_move rfl) rfl rfl rfl ?_; intro a451 hE452; clear hE450
      refine q_step (v := .int .i64 vars) hE452 (y_move rfl) rfl rfl rfl ?_; intro a453 hE454; clear hE452
      refine q_step (v := .bool false) hE454 (y_move rfl) rfl rfl rfl ?_; intro a455 hE456; clear hE454
      have hS463 := (St.pickT (Γ := [.blk srcB #[.slice srcA src.length srcC, .int .i64 ((((F_l01Next src ((F_l01Next src ((F_l01Next src srcg 9).2) 6).2) (size - 2)).2).1 : Nat) : Int), .int .u64 (((F_l01Next src ((F_l01Next src ((F_l01Next src srcg 9).2) 6).2) (size - 2)).2).2)] 163]) (Γ' := [.blk srcB #[.slice srcA src.length srcC, .int .i64 ((((F_l01Next src ((F_l01Next src ((F_l01Next src srcg 9).2) 6).2) (size - 2)).2).1 : Nat) : Int), .int .u64 (((F_l01Next src ((F_l01Next src ((F_l01Next src srcg 9).2) 6).2) (size - 2)).2).2)] 163]) (Γ0 := Γ0) hS440 [0] (by decide) rfl rfl); clear hS440
      refine l_step hE456 rfl (l_call (f := 190) (argv := [.pointer (some ⟨srcB, 0, none⟩), .int .i64 (1 + ((F_l01Next src ((F_l01Next src ((F_l01Next src srcg 9).2) 6).2) (size - 2)).1)), .int .i64 vars, .bool false]) hE456 (fun _ => cf_l02Draw _ _) rfl rfl (ih srcB srcA src.length srcC src ((F_l01Next src ((F_l01Next src ((F_l01Next src srcg 9).2) 6).2) (size - 2)).2) (1 + ((F_l01Next src ((F_l01Next src ((F_l01Next src srcg 9).2) 6).2) (size - 2)).1)) vars false w437 w0v (Γ0) hS463 srcR (by omega) (by omega) (by omega) hg (by omega)) ?_)
      rintro _ w458 ⟨b464, c465, rfl, hS461⟩ a459 hE460; clear hE456 hS463
      have hf466 := hpost src ((F_l01Next src ((F_l01Next src ((F_l01Next src srcg 9).2) 6).2) (size - 2)).2) (1 + ((F_l01Next src ((F_l01Next src ((F_l01Next src srcg 9).2) 6).2) (size - 2)).1)) vars false (by omega) (by omega) hv hg (by omega)
      refine q_step (v := .slice b464 (((self src ((F_l01Next src ((F_l01Next src ((F_l01Next src srcg 9).2) 6).2) (size - 2)).2) (1 + ((F_l01Next src ((F_l01Next src ((F_l01Next src srcg 9).2) 6).2) (size - 2)).1)) vars false).1).length / 2 : Nat) c465) hE460 (y_assign rfl) rfl rfl rfl ?_; intro a467 hE468; clear hE460
      refine c_nil ?_
      have hE469 := hE468.sub (L' := [(0, .pointer (some ⟨srcB, 0, none⟩)), (1, .int .i64 size), (2, .int .i64 vars), (3, .bool false), (9, .int .i64 (1 + ((F_l01Next src ((F_l01Next src ((F_l01Next src srcg 9).2) 6).2) (size - 2)).1))), (10, .slice b464 (((self src ((F_l01Next src ((F_l01Next src ((F_l01Next src srcg 9).2) 6).2) (size - 2)).2) (1 + ((F_l01Next src ((F_l01Next src ((F_l01Next src srcg 9).2) 6).2) (size - 2)).1)) vars false).1).length / 2 : Nat) c465)]) ⟨rfl, rfl, rfl, rfl, rfl, rfl, trivial⟩; clear hE468
      refine p_tn ?_
      refine c_seq ?_
      refine c_reg ?_
      refine q_step (v := .pointer (some ⟨srcB, 0, none⟩)) hE469 (y_move rfl) rfl rfl rfl ?_; intro a470 hE471; clear hE469
      have hS478 := (St.pickT (Γ := [.own 94 2 b464 (((self src ((F_l01Next src ((F_l01Next src ((F_l01Next src srcg 9).2) 6).2) (size - 2)).2) (1 + ((F_l01Next src ((F_l01Next src ((F_l01Next src srcg 9).2) 6).2) (size - 2)).1)) vars false).1).length / 2 : Nat) c465 ((self src ((F_l01Next src ((F_l01Next src ((F_l01Next src srcg 9).2) 6).2) (size - 2)).2) (1 + ((F_l01Next src ((F_l01Next src ((F_l01Next src srcg 9).2) 6).2) (size - 2)).1)) vars false).1), .blk srcB #[.slice srcA src.length srcC, .int .i64 ((((self src ((F_l01Next src ((F_l01Next src ((F_l01Next src srcg 9).2) 6).2) (size - 2)).2) (1 + ((F_l01Next src ((F_l01Next src ((F_l01Next src srcg 9).2) 6).2) (size - 2)).1)) vars false).2).1 : Nat) : Int), .int .u64 (((self src ((F_l01Next src ((F_l01Next src ((F_l01Next src srcg 9).2) 6).2) (size - 2)).2) (1 + ((F_l01Next src ((F_l01Next src ((F_l01Next src srcg 9).2) 6).2) (size - 2)).1)) vars false).2).2)] 163]) (Γ' := [.blk srcB #[.slice srcA src.length srcC, .int .i64 ((((self src ((F_l01Next src ((F_l01Next src ((F_l01Next src srcg 9).2) 6).2) (size - 2)).2) (1 + ((F_l01Next src ((F_l01Next src ((F_l01Next src srcg 9).2) 6).2) (size - 2)).1)) vars false).2).1 : Nat) : Int), .int .u64 (((self src ((F_l01Next src ((F_l01Next src ((F_l01Next src srcg 9).2) 6).2) (size - 2)).2) (1 + ((F_l01Next src ((F_l01Next src ((F_l01Next src srcg 9).2) 6).2) (size - 2)).1)) vars false).2).2)] 163, .own 94 2 b464 (((self src ((F_l01Next src ((F_l01Next src ((F_l01Next src srcg 9).2) 6).2) (size - 2)).2) (1 + ((F_l01Next src ((F_l01Next src ((F_l01Next src srcg 9).2) 6).2) (size - 2)).1)) vars false).1).length / 2 : Nat) c465 ((self src ((F_l01Next src ((F_l01Next src ((F_l01Next src srcg 9).2) 6).2) (size - 2)).2) (1 + ((F_l01Next src ((F_l01Next src ((F_l01Next src srcg 9).2) 6).2) (size - 2)).1)) vars false).1)]) (Γ0 := Γ0) hS461 [1, 0] (by decide) rfl rfl); clear hS461
      refine l_step hE471 rfl (l_call (f := 123) (argv := [.pointer (some ⟨srcB, 0, none⟩), .int .i64 3]) hE471 (fun _ => cf_l01Next0 _ _) rfl rfl (c_l01Next srcB srcA src.length srcC src ((self src ((F_l01Next src ((F_l01Next src ((F_l01Next src srcg 9).2) 6).2) (size - 2)).2) (1 + ((F_l01Next src ((F_l01Next src ((F_l01Next src srcg 9).2) 6).2) (size - 2)).1)) vars false).2) 3 w458 w0v (.own 94 2 b464 (((self src ((F_l01Next src ((F_l01Next src ((F_l01Next src srcg 9).2) 6).2) (size - 2)).2) (1 + ((F_l01Next src ((F_l01Next src ((F_l01Next src srcg 9).2) 6).2) (size - 2)).1)) vars false).1).length / 2 : Nat) c465 ((self src ((F_l01Next src ((F_l01Next src ((F_l01Next src srcg 9).2) 6).2) (size - 2)).2) (1 + ((F_l01Next src ((F_l01Next src ((F_l01Next src srcg 9).2) 6).2) (size - 2)).1)) vars false).1) :: Γ0) hS478 srcR) ?_)
      rintro _ w473 ⟨rfl, hS476⟩ a474 hE475; clear hE471 hS478
      have hf479 := l01Next_bd srcR ((self src ((F_l01Next src ((F_l01Next src ((F_l01Next src srcg 9).2) 6).2) (size - 2)).2) (1 + ((F_l01Next src ((F_l01Next src ((F_l01Next src srcg 9).2) 6).2) (size - 2)).1)) vars false).2) 3
      refine q_step (v := .int .i64 (2 + ((F_l01Next src ((self src ((F_l01Next src ((F_l01Next src ((F_l01Next src srcg 9).2) 6).2) (size - 2)).2) (1 + ((F_l01Next src ((F_l01Next src ((F_l01Next src srcg 9).2) 6).2) (size - 2)).1)) vars false).2) 3).1))) hE475 (y_add rfl rfl ⟨(by omega), (by omega)⟩) rfl rfl rfl ?_; intro a480 hE481; clear hE475
      refine q_step (v := .slice b464 (((self src ((F_l01Next src ((F_l01Next src ((F_l01Next src srcg 9).2) 6).2) (size - 2)).2) (1 + ((F_l01Next src ((F_l01Next src ((F_l01Next src srcg 9).2) 6).2) (size - 2)).1)) vars false).1).length / 2 : Nat) c465) hE481 (y_move rfl) rfl rfl rfl ?_; intro a482 hE483; clear hE481
      refine q_step (v := .pointer (some ⟨srcB, 0, none⟩)) hE483 (y_move rfl) rfl rfl rfl ?_; intro a484 hE485; clear hE483
      refine q_step (v := .int .i64 size) hE485 (y_move rfl) rfl rfl rfl ?_; intro a486 hE487; clear hE485
      refine q_step (v := .int .i64 (size - 1)) hE487 (y_sub rfl rfl ⟨(by omega), (by omega)⟩) rfl rfl rfl ?_; intro a488 hE489; clear hE487
      refine q_step (v := .int .i64 (1 + ((F_l01Next src ((F_l01Next src ((F_l01Next src srcg 9).2) 6).2) (size - 2)).1))) hE489 (y_move rfl) rfl rfl rfl ?_; intro a490 hE491; clear hE489
      refine q_step (v := .int .i64 ((size - 1) - (1 + ((F_l01Next src ((F_l01Next src ((F_l01Next src srcg 9).2) 6).2) (size - 2)).1)))) hE491 (y_sub rfl rfl ⟨(by omega), (by omega)⟩) rfl rfl rfl ?_; intro a492 hE493; clear hE491
      refine q_step (v := .int .i64 vars) hE493 (y_move rfl) rfl rfl rfl ?_; intro a494 hE495; clear hE493
      refine q_step (v := .bool false) hE495 (y_move rfl) rfl rfl rfl ?_; intro a496 hE497; clear hE495
      have hS504 := (St.pickT (Γ := [.blk srcB #[.slice srcA src.length srcC, .int .i64 ((((F_l01Next src ((self src ((F_l01Next src ((F_l01Next src ((F_l01Next src srcg 9).2) 6).2) (size - 2)).2) (1 + ((F_l01Next src ((F_l01Next src ((F_l01Next src srcg 9).2) 6).2) (size - 2)).1)) vars false).2) 3).2).1 : Nat) : Int), .int .u64 (((F_l01Next src ((self src ((F_l01Next src ((F_l01Next src ((F_l01Next src srcg 9).2) 6).2) (size - 2)).2) (1 + ((F_l01Next src ((F_l01Next src ((F_l01Next src srcg 9).2) 6).2) (size - 2)).1)) vars false).2) 3).2).2)] 163, .own 94 2 b464 (((self src ((F_l01Next src ((F_l01Next src ((F_l01Next src srcg 9).2) 6).2) (size - 2)).2) (1 + ((F_l01Next src ((F_l01Next src ((F_l01Next src srcg 9).2) 6).2) (size - 2)).1)) vars false).1).length / 2 : Nat) c465 ((self src ((F_l01Next src ((F_l01Next src ((F_l01Next src srcg 9).2) 6).2) (size - 2)).2) (1 + ((F_l01Next src ((F_l01Next src ((F_l01Next src srcg 9).2) 6).2) (size - 2)).1)) vars false).1)]) (Γ' := [.blk srcB #[.slice srcA src.length srcC, .int .i64 ((((F_l01Next src ((self src ((F_l01Next src ((F_l01Next src ((F_l01Next src srcg 9).2) 6).2) (size - 2)).2) (1 + ((F_l01Next src ((F_l01Next src ((F_l01Next src srcg 9).2) 6).2) (size - 2)).1)) vars false).2) 3).2).1 : Nat) : Int), .int .u64 (((F_l01Next src ((self src ((F_l01Next src ((F_l01Next src ((F_l01Next src srcg 9).2) 6).2) (size - 2)).2) (1 + ((F_l01Next src ((F_l01Next src ((F_l01Next src srcg 9).2) 6).2) (size - 2)).1)) vars false).2) 3).2).2)] 163, .own 94 2 b464 (((self src ((F_l01Next src ((F_l01Next src ((F_l01Next src srcg 9).2) 6).2) (size - 2)).2) (1 + ((F_l01Next src ((F_l01Next src ((F_l01Next src srcg 9).2) 6).2) (size - 2)).1)) vars false).1).length / 2 : Nat) c465 ((self src ((F_l01Next src ((F_l01Next src ((F_l01Next src srcg 9).2) 6).2) (size - 2)).2) (1 + ((F_l01Next src ((F_l01Next src ((F_l01Next src srcg 9).2) 6).2) (size - 2)).1)) vars false).1)]) (Γ0 := Γ0) hS476 [0, 1] (by decide) rfl rfl); clear hS476
      refine l_step hE497 rfl (l_call (f := 190) (argv := [.pointer (some ⟨srcB, 0, none⟩), .int .i64 ((size - 1) - (1 + ((F_l01Next src ((F_l01Next src ((F_l01Next src srcg 9).2) 6).2) (size - 2)).1))), .int .i64 vars, .bool false]) hE497 (fun _ => cf_l02Draw _ _) rfl rfl (ih srcB srcA src.length srcC src ((F_l01Next src ((self src ((F_l01Next src ((F_l01Next src ((F_l01Next src srcg 9).2) 6).2) (size - 2)).2) (1 + ((F_l01Next src ((F_l01Next src ((F_l01Next src srcg 9).2) 6).2) (size - 2)).1)) vars false).2) 3).2) ((size - 1) - (1 + ((F_l01Next src ((F_l01Next src ((F_l01Next src srcg 9).2) 6).2) (size - 2)).1))) vars false w473 w0v (.own 94 2 b464 (((self src ((F_l01Next src ((F_l01Next src ((F_l01Next src srcg 9).2) 6).2) (size - 2)).2) (1 + ((F_l01Next src ((F_l01Next src ((F_l01Next src srcg 9).2) 6).2) (size - 2)).1)) vars false).1).length / 2 : Nat) c465 ((self src ((F_l01Next src ((F_l01Next src ((F_l01Next src srcg 9).2) 6).2) (size - 2)).2) (1 + ((F_l01Next src ((F_l01Next src ((F_l01Next src srcg 9).2) 6).2) (size - 2)).1)) vars false).1) :: Γ0) hS504 srcR (by omega) (by omega) (by omega) hg (by omega)) ?_)
      rintro _ w499 ⟨b505, c506, rfl, hS502⟩ a500 hE501; clear hE497 hS504
      have hf507 := hpost src ((F_l01Next src ((self src ((F_l01Next src ((F_l01Next src ((F_l01Next src srcg 9).2) 6).2) (size - 2)).2) (1 + ((F_l01Next src ((F_l01Next src ((F_l01Next src srcg 9).2) 6).2) (size - 2)).1)) vars false).2) 3).2) ((size - 1) - (1 + ((F_l01Next src ((F_l01Next src ((F_l01Next src srcg 9).2) 6).2) (size - 2)).1))) vars false (by omega) (by omega) hv hg (by omega)
      refine l_step hE501 rfl (l_call (f := 128) (argv := [.int .i64 (2 + ((F_l01Next src ((self src ((F_l01Next src ((F_l01Next src ((F_l01Next src srcg 9).2) 6).2) (size - 2)).2) (1 + ((F_l01Next src ((F_l01Next src ((F_l01Next src srcg 9).2) 6).2) (size - 2)).1)) vars false).2) 3).1)), .slice b464 (((self src ((F_l01Next src ((F_l01Next src ((F_l01Next src srcg 9).2) 6).2) (size - 2)).2) (1 + ((F_l01Next src ((F_l01Next src ((F_l01Next src srcg 9).2) 6).2) (size - 2)).1)) vars false).1).length / 2 : Nat) c465, .slice b505 (((self src ((F_l01Next src ((self src ((F_l01Next src ((F_l01Next src ((F_l01Next src srcg 9).2) 6).2) (size - 2)).2) (1 + ((F_l01Next src ((F_l01Next src ((F_l01Next src srcg 9).2) 6).2) (size - 2)).1)) vars false).2) 3).2) ((size - 1) - (1 + ((F_l01Next src ((F_l01Next src ((F_l01Next src srcg 9).2) 6).2) (size - 2)).1))) vars false).1).length / 2 : Nat) c506]) hE501 (fun _ => cf_l02Pair _ _) rfl rfl (c_l02Pair (2 + ((F_l01Next src ((self src ((F_l01Next src ((F_l01Next src ((F_l01Next src srcg 9).2) 6).2) (size - 2)).2) (1 + ((F_l01Next src ((F_l01Next src ((F_l01Next src srcg 9).2) 6).2) (size - 2)).1)) vars false).2) 3).1)) b464 (((self src ((F_l01Next src ((F_l01Next src ((F_l01Next src srcg 9).2) 6).2) (size - 2)).2) (1 + ((F_l01Next src ((F_l01Next src ((F_l01Next src srcg 9).2) 6).2) (size - 2)).1)) vars false).1).length / 2 : Nat) c465 ((self src ((F_l01Next src ((F_l01Next src ((F_l01Next src srcg 9).2) 6).2) (size - 2)).2) (1 + ((F_l01Next src ((F_l01Next src ((F_l01Next src srcg 9).2) 6).2) (size - 2)).1)) vars false).1) b505 (((self src ((F_l01Next src ((self src ((F_l01Next src ((F_l01Next src ((F_l01Next src srcg 9).2) 6).2) (size - 2)).2) (1 + ((F_l01Next src ((F_l01Next src ((F_l01Next src srcg 9).2) 6).2) (size - 2)).1)) vars false).2) 3).2) ((size - 1) - (1 + ((F_l01Next src ((F_l01Next src ((F_l01Next src srcg 9).2) 6).2) (size - 2)).1))) vars false).1).length / 2 : Nat) c506 ((self src ((F_l01Next src ((self src ((F_l01Next src ((F_l01Next src ((F_l01Next src srcg 9).2) 6).2) (size - 2)).2) (1 + ((F_l01Next src ((F_l01Next src ((F_l01Next src srcg 9).2) 6).2) (size - 2)).1)) vars false).2) 3).2) ((size - 1) - (1 + ((F_l01Next src ((F_l01Next src ((F_l01Next src srcg 9).2) 6).2) (size - 2)).1))) vars false).1) w499 (St.rdO (i := 2) hS502 rfl) (St.rdO (i := 0) hS502 rfl) (by omega) (by omega)) ?_)
      rintro _ w509 ⟨b514, c515, rfl, ho516, he513⟩ a510 hE511; clear hE501
      have hf517 := l02Pair_len (2 + ((F_l01Next src ((self src ((F_l01Next src ((F_l01Next src ((F_l01Next src srcg 9).2) 6).2) (size - 2)).2) (1 + ((F_l01Next src ((F_l01Next src ((F_l01Next src srcg 9).2) 6).2) (size - 2)).1)) vars false).2) 3).1)) ((self src ((F_l01Next src ((F_l01Next src ((F_l01Next src srcg 9).2) 6).2) (size - 2)).2) (1 + ((F_l01Next src ((F_l01Next src ((F_l01Next src srcg 9).2) 6).2) (size - 2)).1)) vars false).1) ((self src ((F_l01Next src ((self src ((F_l01Next src ((F_l01Next src ((F_l01Next src srcg 9).2) 6).2) (size - 2)).2) (1 + ((F_l01Next src ((F_l01Next src ((F_l01Next src srcg 9).2) 6).2) (size - 2)).1)) vars false).2) 3).2) ((size - 1) - (1 + ((F_l01Next src ((F_l01Next src ((F_l01Next src srcg 9).2) 6).2) (size - 2)).1))) vars false).1)
      have hS512 := St.own hS502 he513 ho516; clear hS502
      refine q_step (v := .slice b514 ((F_l02Pair (2 + ((F_l01Next src ((self src ((F_l01Next src ((F_l01Next src ((F_l01Next src srcg 9).2) 6).2) (size - 2)).2) (1 + ((F_l01Next src ((F_l01Next src ((F_l01Next src srcg 9).2) 6).2) (size - 2)).1)) vars false).2) 3).1)) ((self src ((F_l01Next src ((F_l01Next src ((F_l01Next src srcg 9).2) 6).2) (size - 2)).2) (1 + ((F_l01Next src ((F_l01Next src ((F_l01Next src srcg 9).2) 6).2) (size - 2)).1)) vars false).1) ((self src ((F_l01Next src ((self src ((F_l01Next src ((F_l01Next src ((F_l01Next src srcg 9).2) 6).2) (size - 2)).2) (1 + ((F_l01Next src ((F_l01Next src ((F_l01Next src srcg 9).2) 6).2) (size - 2)).1)) vars false).2) 3).2) ((size - 1) - (1 + ((F_l01Next src ((F_l01Next src ((F_l01Next src srcg 9).2) 6).2) (size - 2)).1))) vars false).1)).length / 2 : Nat) c515) hE511 (y_assign rfl) rfl rfl rfl ?_; intro a518 hE519; clear hE511
      refine c_nil ?_
      have hE520 := hE519.sub (L' := [(8, .slice b514 ((F_l02Pair (2 + ((F_l01Next src ((self src ((F_l01Next src ((F_l01Next src ((F_l01Next src srcg 9).2) 6).2) (size - 2)).2) (1 + ((F_l01Next src ((F_l01Next src ((F_l01Next src srcg 9).2) 6).2) (size - 2)).1)) vars false).2) 3).1)) ((self src ((F_l01Next src ((F_l01Next src ((F_l01Next src srcg 9).2) 6).2) (size - 2)).2) (1 + ((F_l01Next src ((F_l01Next src ((F_l01Next src srcg 9).2) 6).2) (size - 2)).1)) vars false).1) ((self src ((F_l01Next src ((self src ((F_l01Next src ((F_l01Next src ((F_l01Next src srcg 9).2) 6).2) (size - 2)).2) (1 + ((F_l01Next src ((F_l01Next src ((F_l01Next src srcg 9).2) 6).2) (size - 2)).1)) vars false).2) 3).2) ((size - 1) - (1 + ((F_l01Next src ((F_l01Next src ((F_l01Next src srcg 9).2) 6).2) (size - 2)).1))) vars false).1)).length / 2 : Nat) c515)]) ⟨rfl, trivial⟩; clear hE519
      refine p_tn ?_
      refine wp_ret ?_
      have hF : F_l02Draw_b self src srcg size vars modal = (F_l02Pair (2 + ((F_l01Next src ((self src ((F_l01Next src ((F_l01Next src ((F_l01Next src srcg 9).2) 6).2) (size - 2)).2) (1 + ((F_l01Next src ((F_l01Next src ((F_l01Next src srcg 9).2) 6).2) (size - 2)).1)) vars false).2) 3).1)) ((self src ((F_l01Next src ((F_l01Next src ((F_l01Next src srcg 9).2) 6).2) (size - 2)).2) (1 + ((F_l01Next src ((F_l01Next src ((F_l01Next src srcg 9).2) 6).2) (size - 2)).1)) vars false).1) ((self src ((F_l01Next src ((self src ((F_l01Next src ((F_l01Next src ((F_l01Next src srcg 9).2) 6).2) (size - 2)).2) (1 + ((F_l01Next src ((F_l01Next src ((F_l01Next src srcg 9).2) 6).2) (size - 2)).1)) vars false).2) 3).2) ((size - 1) - (1 + ((F_l01Next src ((F_l01Next src ((F_l01Next src srcg 9).2) 6).2) (size - 2)).1))) vars false).1), (self src ((F_l01Next src ((self src ((F_l01Next src ((F_l01Next src ((F_l01Next src srcg 9).2) 6).2) (size - 2)).2) (1 + ((F_l01Next src ((F_l01Next src ((F_l01Next src srcg 9).2) 6).2) (size - 2)).1)) vars false).2) 3).2) ((size - 1) - (1 + ((F_l01Next src ((F_l01Next src ((F_l01Next src srcg 9).2) 6).2) (size - 2)).1))) vars false).2) := by unfold F_l02Draw_b; rw [ht392, hb160, ht95, hb10]; first | done | rfl
      refine c_ret1 hE520 rfl rfl ?_
      have hS9 := (St.pickT (Γ := [.own 94 2 b514 ((F_l02Pair (2 + ((F_l01Next src ((self src ((F_l01Next src ((F_l01Next src ((F_l01Next src srcg 9).2) 6).2) (size - 2)).2) (1 + ((F_l01Next src ((F_l01Next src ((F_l01Next src srcg 9).2) 6).2) (size - 2)).1)) vars false).2) 3).1)) ((self src ((F_l01Next src ((F_l01Next src ((F_l01Next src srcg 9).2) 6).2) (size - 2)).2) (1 + ((F_l01Next src ((F_l01Next src ((F_l01Next src srcg 9).2) 6).2) (size - 2)).1)) vars false).1) ((self src ((F_l01Next src ((self src ((F_l01Next src ((F_l01Next src ((F_l01Next src srcg 9).2) 6).2) (size - 2)).2) (1 + ((F_l01Next src ((F_l01Next src ((F_l01Next src srcg 9).2) 6).2) (size - 2)).1)) vars false).2) 3).2) ((size - 1) - (1 + ((F_l01Next src ((F_l01Next src ((F_l01Next src srcg 9).2) 6).2) (size - 2)).1))) vars false).1)).length / 2 : Nat) c515 (F_l02Pair (2 + ((F_l01Next src ((self src ((F_l01Next src ((F_l01Next src ((F_l01Next src srcg 9).2) 6).2) (size - 2)).2) (1 + ((F_l01Next src ((F_l01Next src ((F_l01Next src srcg 9).2) 6).2) (size - 2)).1)) vars false).2) 3).1)) ((self src ((F_l01Next src ((F_l01Next src ((F_l01Next src srcg 9).2) 6).2) (size - 2)).2) (1 + ((F_l01Next src ((F_l01Next src ((F_l01Next src srcg 9).2) 6).2) (size - 2)).1)) vars false).1) ((self src ((F_l01Next src ((self src ((F_l01Next src ((F_l01Next src ((F_l01Next src srcg 9).2) 6).2) (size - 2)).2) (1 + ((F_l01Next src ((F_l01Next src ((F_l01Next src srcg 9).2) 6).2) (size - 2)).1)) vars false).2) 3).2) ((size - 1) - (1 + ((F_l01Next src ((F_l01Next src ((F_l01Next src srcg 9).2) 6).2) (size - 2)).1))) vars false).1)), .own 94 2 b505 (((self src ((F_l01Next src ((self src ((F_l01Next src ((F_l01Next src ((F_l01Next src srcg 9).2) 6).2) (size - 2)).2) (1 + ((F_l01Next src ((F_l01Next src ((F_l01Next src srcg 9).2) 6).2) (size - 2)).1)) vars false).2) 3).2) ((size - 1) - (1 + ((F_l01Next src ((F_l01Next src ((F_l01Next src srcg 9).2) 6).2) (size - 2)).1))) vars false).1).length / 2 : Nat) c506 ((self src ((F_l01Next src ((self src ((F_l01Next src ((F_l01Next src ((F_l01Next src srcg 9).2) 6).2) (size - 2)).2) (1 + ((F_l01Next src ((F_l01Next src ((F_l01Next src srcg 9).2) 6).2) (size - 2)).1)) vars false).2) 3).2) ((size - 1) - (1 + ((F_l01Next src ((F_l01Next src ((F_l01Next src srcg 9).2) 6).2) (size - 2)).1))) vars false).1), .blk srcB #[.slice srcA src.length srcC, .int .i64 ((((self src ((F_l01Next src ((self src ((F_l01Next src ((F_l01Next src ((F_l01Next src srcg 9).2) 6).2) (size - 2)).2) (1 + ((F_l01Next src ((F_l01Next src ((F_l01Next src srcg 9).2) 6).2) (size - 2)).1)) vars false).2) 3).2) ((size - 1) - (1 + ((F_l01Next src ((F_l01Next src ((F_l01Next src srcg 9).2) 6).2) (size - 2)).1))) vars false).2).1 : Nat) : Int), .int .u64 (((self src ((F_l01Next src ((self src ((F_l01Next src ((F_l01Next src ((F_l01Next src srcg 9).2) 6).2) (size - 2)).2) (1 + ((F_l01Next src ((F_l01Next src ((F_l01Next src srcg 9).2) 6).2) (size - 2)).1)) vars false).2) 3).2) ((size - 1) - (1 + ((F_l01Next src ((F_l01Next src ((F_l01Next src srcg 9).2) 6).2) (size - 2)).1))) vars false).2).2)] 163, .own 94 2 b464 (((self src ((F_l01Next src ((F_l01Next src ((F_l01Next src srcg 9).2) 6).2) (size - 2)).2) (1 + ((F_l01Next src ((F_l01Next src ((F_l01Next src srcg 9).2) 6).2) (size - 2)).1)) vars false).1).length / 2 : Nat) c465 ((self src ((F_l01Next src ((F_l01Next src ((F_l01Next src srcg 9).2) 6).2) (size - 2)).2) (1 + ((F_l01Next src ((F_l01Next src ((F_l01Next src srcg 9).2) 6).2) (size - 2)).1)) vars false).1)]) (Γ' := [.own 94 2 b514 ((F_l02Pair (2 + ((F_l01Next src ((self src ((F_l01Next src ((F_l01Next src ((F_l01Next src srcg 9).2) 6).2) (size - 2)).2) (1 + ((F_l01Next src ((F_l01Next src ((F_l01Next src srcg 9).2) 6).2) (size - 2)).1)) vars false).2) 3).1)) ((self src ((F_l01Next src ((F_l01Next src ((F_l01Next src srcg 9).2) 6).2) (size - 2)).2) (1 + ((F_l01Next src ((F_l01Next src ((F_l01Next src srcg 9).2) 6).2) (size - 2)).1)) vars false).1) ((self src ((F_l01Next src ((self src ((F_l01Next src ((F_l01Next src ((F_l01Next src srcg 9).2) 6).2) (size - 2)).2) (1 + ((F_l01Next src ((F_l01Next src ((F_l01Next src srcg 9).2) 6).2) (size - 2)).1)) vars false).2) 3).2) ((size - 1) - (1 + ((F_l01Next src ((F_l01Next src ((F_l01Next src srcg 9).2) 6).2) (size - 2)).1))) vars false).1)).length / 2 : Nat) c515 (F_l02Pair (2 + ((F_l01Next src ((self src ((F_l01Next src ((F_l01Next src ((F_l01Next src srcg 9).2) 6).2) (size - 2)).2) (1 + ((F_l01Next src ((F_l01Next src ((F_l01Next src srcg 9).2) 6).2) (size - 2)).1)) vars false).2) 3).1)) ((self src ((F_l01Next src ((F_l01Next src ((F_l01Next src srcg 9).2) 6).2) (size - 2)).2) (1 + ((F_l01Next src ((F_l01Next src ((F_l01Next src srcg 9).2) 6).2) (size - 2)).1)) vars false).1) ((self src ((F_l01Next src ((self src ((F_l01Next src ((F_l01Next src ((F_l01Next src srcg 9).2) 6).2) (size - 2)).2) (1 + ((F_l01Next src ((F_l01Next src ((F_l01Next src srcg 9).2) 6).2) (size - 2)).1)) vars false).2) 3).2) ((size - 1) - (1 + ((F_l01Next src ((F_l01Next src ((F_l01Next src srcg 9).2) 6).2) (size - 2)).1))) vars false).1)), .blk srcB #[.slice srcA src.length srcC, .int .i64 ((((self src ((F_l01Next src ((self src ((F_l01Next src ((F_l01Next src ((F_l01Next src srcg 9).2) 6).2) (size - 2)).2) (1 + ((F_l01Next src ((F_l01Next src ((F_l01Next src srcg 9).2) 6).2) (size - 2)).1)) vars false).2) 3).2) ((size - 1) - (1 + ((F_l01Next src ((F_l01Next src ((F_l01Next src srcg 9).2) 6).2) (size - 2)).1))) vars false).2).1 : Nat) : Int), .int .u64 (((self src ((F_l01Next src ((self src ((F_l01Next src ((F_l01Next src ((F_l01Next src srcg 9).2) 6).2) (size - 2)).2) (1 + ((F_l01Next src ((F_l01Next src ((F_l01Next src srcg 9).2) 6).2) (size - 2)).1)) vars false).2) 3).2) ((size - 1) - (1 + ((F_l01Next src ((F_l01Next src ((F_l01Next src srcg 9).2) 6).2) (size - 2)).1))) vars false).2).2)] 163]) (Γ0 := Γ0) hS512 [0, 2] (by decide) rfl rfl)
      exact ⟨b514, c515, (by rw [hF]), (by rw [hF]; (try dsimp only); exact hS9)⟩
theorem c_l02Draw_r : ∀ (r : Nat) (srcB : Nat) (srcA : Option Addr) (srcN srcC : Nat) (src : List Int) (srcg : Nat × Int) (size : Int) (vars : Int) (modal : Bool) (w : World) (w0v : World) (Γ0 : List Ent) (hS0 : St w0v w (.blk srcB #[.slice srcA srcN srcC, .int .i64 ((srcg.1 : Nat) : Int), .int .u64 (srcg.2)] 163 :: Γ0)) (srcR : RdB w0v srcA srcN srcC src) (h1 : 1 ≤ size) (h2 : size ≤ 100) (hv : 1 ≤ vars) (hg : ∀ m : Int, 0 ≤ gI src m) (hlt : size.toNat < r), Calls Try.prog 190 #[.pointer (some ⟨srcB, 0, none⟩), .int .i64 size, .int .i64 vars, .bool modal] w (Ret fun v w' => ∃ b1 : Option Addr, ∃ c1 : Nat, v = .slice b1 ((((F_l02Draw_r r) src srcg size vars modal).1).length / 2 : Nat) c1 ∧ St w0v w' (.own 94 2 b1 ((((F_l02Draw_r r) src srcg size vars modal).1).length / 2 : Nat) c1 (((F_l02Draw_r r) src srcg size vars modal).1) :: .blk srcB #[.slice srcA srcN srcC, .int .i64 (((((F_l02Draw_r r) src srcg size vars modal).2).1 : Nat) : Int), .int .u64 ((((F_l02Draw_r r) src srcg size vars modal).2).2)] 163 :: Γ0)) := by
  intro r
  induction r with
  | zero => intros; omega
  | succ r ih =>
    intro srcB srcA srcN srcC src srcg size vars modal w w0v Γ0 hS0 srcR h1 h2 hv hg hlt
    exact cb_l02Draw (F_l02Draw_r r) size.toNat (fun src srcg size vars modal h1 h2 hv hg hm => l02DrawLen r src srcg size vars modal h1 h2 hv hg (by omega)) srcB srcA srcN srcC src srcg size vars modal w w0v Γ0 hS0 srcR h1 h2 hv hg rfl (fun srcB srcA srcN srcC src srcg size vars modal w w0v Γ0 hS0 srcR h1 h2 hv hg hdec => ih srcB srcA srcN srcC src srcg size vars modal w w0v Γ0 hS0 srcR h1 h2 hv hg (by omega))
theorem c_l02Draw (srcB : Nat) (srcA : Option Addr) (srcN srcC : Nat) (src : List Int) (srcg : Nat × Int) (size : Int) (vars : Int) (modal : Bool) (w : World) (w0v : World) (Γ0 : List Ent) (hS0 : St w0v w (.blk srcB #[.slice srcA srcN srcC, .int .i64 ((srcg.1 : Nat) : Int), .int .u64 (srcg.2)] 163 :: Γ0)) (srcR : RdB w0v srcA srcN srcC src) (h1 : 1 ≤ size) (h2 : size ≤ 100) (hv : 1 ≤ vars) (hg : ∀ m : Int, 0 ≤ gI src m) :
    Calls Try.prog 190 #[.pointer (some ⟨srcB, 0, none⟩), .int .i64 size, .int .i64 vars, .bool modal] w (Ret fun v w' => ∃ b1 : Option Addr, ∃ c1 : Nat, v = .slice b1 (((F_l02Draw src srcg size vars modal).1).length / 2 : Nat) c1 ∧ St w0v w' (.own 94 2 b1 (((F_l02Draw src srcg size vars modal).1).length / 2 : Nat) c1 ((F_l02Draw src srcg size vars modal).1) :: .blk srcB #[.slice srcA srcN srcC, .int .i64 ((((F_l02Draw src srcg size vars modal).2).1 : Nat) : Int), .int .u64 (((F_l02Draw src srcg size vars modal).2).2)] 163 :: Γ0)) := c_l02Draw_r (size.toNat + 1) srcB srcA srcN srcC src srcg size vars modal w w0v Γ0 hS0 srcR h1 h2 hv hg (Nat.lt_succ_self _)
theorem l02Draw_len {src : List Int} (hg : ∀ m : Int, 0 ≤ gI src m) (g : Nat × Int) (size vars : Int) (modal : Bool) (h1 : 1 ≤ size) (h2 : size ≤ 100) (hv : 1 ≤ vars) : 2 ≤ (F_l02Draw src g size vars modal).1.length ∧ ((F_l02Draw src g size vars modal).1.length : Int) ≤ 2 * size ∧ (F_l02Draw src g size vars modal).1.length % 2 = 0 :=
  l02DrawLen _ src g size vars modal h1 h2 hv hg (Nat.lt_succ_self _)
def F_l02Bend (src : List Int) (srcg : Nat × Int) (ap : List Int) : List Int × (Nat × Int) :=
  bif (decide (((F_l01Next src ((F_l01Next src srcg (((F_l02Own ap).length / 2 : Nat) : Int)).2) 5).1) = 0)) then (sS 2 0 (F_l02Own ap) ((F_l01Next src srcg (((F_l02Own ap).length / 2 : Nat) : Int)).1) (((F_l01Next src ((F_l01Next src ((F_l01Next src srcg (((F_l02Own ap).length / 2 : Nat) : Int)).2) 5).2) 9).1) - 1), (F_l01Next src ((F_l01Next src ((F_l01Next src srcg (((F_l02Own ap).length / 2 : Nat) : Int)).2) 5).2) 9).2) else (bif (decide (((F_l01Next src ((F_l01Next src srcg (((F_l02Own ap).length / 2 : Nat) : Int)).2) 5).1) = 1)) then (sS 2 1 (F_l02Own ap) ((F_l01Next src srcg (((F_l02Own ap).length / 2 : Nat) : Int)).1) ((F_l01Pick src ((F_l01Next src ((F_l01Next src srcg (((F_l02Own ap).length / 2 : Nat) : Int)).2) 5).2) ([-1, 0, 1, 5, 6])).1), (F_l01Pick src ((F_l01Next src ((F_l01Next src srcg (((F_l02Own ap).length / 2 : Nat) : Int)).2) 5).2) ([-1, 0, 1, 5, 6])).2) else (bif (decide (((F_l01Next src ((F_l01Next src srcg (((F_l02Own ap).length / 2 : Nat) : Int)).2) 5).1) = 2)) then ((F_l02Own ap) ++ ([(F_l01Next src ((F_l01Next src ((F_l01Next src srcg (((F_l02Own ap).length / 2 : Nat) : Int)).2) 5).2) 7).1, 0]), (F_l01Next src ((F_l01Next src ((F_l01Next src srcg (((F_l02Own ap).length / 2 : Nat) : Int)).2) 5).2) 7).2) else (bif (decide (((F_l01Next src ((F_l01Next src srcg (((F_l02Own ap).length / 2 : Nat) : Int)).2) 5).1) = 3)) then (slI 2 (F_l02Own ap) 0 ((F_l01Next src srcg (((F_l02Own ap).length / 2 : Nat) : Int)).1), (F_l01Next src ((F_l01Next src srcg (((F_l02Own ap).length / 2 : Nat) : Int)).2) 5).2) else (bif (decide (((F_l01Next src ((F_l01Next src srcg (((F_l02Own ap).length / 2 : Nat) : Int)).2) 5).1) = 4)) then ((slI 2 (F_l02Own ap) (0 : Int) ((F_l01Next src srcg (((F_l02Own ap).length / 2 : Nat) : Int)).1)) ++ (slI 2 (F_l02Own ap) (((F_l01Next src srcg (((F_l02Own ap).length / 2 : Nat) : Int)).1) + 1) (((F_l02Own ap).length / 2 : Nat) : Int)), (F_l01Next src ((F_l01Next src srcg (((F_l02Own ap).length / 2 : Nat) : Int)).2) 5).2) else (F_l02Own ap, (F_l01Next src ((F_l01Next src srcg (((F_l02Own ap).length / 2 : Nat) : Int)).2) 5).2)))))
theorem cf_l02Bend (args : Array Value) (w : World) : (callFunc 191 args).run Try.prog w = .ok (.enter 191 args) w := by kernel_rfl
set_option maxRecDepth 100000 in
theorem c_l02Bend (srcB : Nat) (srcA : Option Addr) (srcN srcC : Nat) (src : List Int) (srcg : Nat × Int) (apA : Option Addr) (apN apC : Nat) (ap : List Int) (w : World) (w0v : World) (Γ0 : List Ent) (hS0 : St w0v w (.own 94 2 apA apN apC ap :: .blk srcB #[.slice srcA srcN srcC, .int .i64 ((srcg.1 : Nat) : Int), .int .u64 (srcg.2)] 163 :: Γ0)) (srcR : RdB w0v srcA srcN srcC src) (hl : ap.length ≤ 1000) (hl1 : 2 ≤ ap.length) :
    Calls Try.prog 191 #[.pointer (some ⟨srcB, 0, none⟩), .slice apA apN apC] w (Ret fun v w' => ∃ b1 : Option Addr, ∃ c1 : Nat, v = .slice b1 (((F_l02Bend src srcg ap).1).length / 2 : Nat) c1 ∧ St w0v w' (.own 94 2 b1 (((F_l02Bend src srcg ap).1).length / 2 : Nat) c1 ((F_l02Bend src srcg ap).1) :: .own 94 2 apA apN apC ap :: .blk srcB #[.slice srcA srcN srcC, .int .i64 ((((F_l02Bend src srcg ap).2).1 : Nat) : Int), .int .u64 (((F_l02Bend src srcg ap).2).2)] 163 :: Γ0)) := by
  obtain rfl : srcN = src.length := srcR.len
  have srcLe := srcR.le
  obtain rfl : apN = ap.length / 2 := ((St.rdO (i := 0) hS0 rfl).lenD (by decide)).symm
  have apEv := (St.rdO (i := 0) hS0 rfl).ev (by decide)
  have apLe := (St.rdO (i := 0) hS0 rfl).le
  refine enter (args := [.pointer (some ⟨srcB, 0, none⟩), .slice apA ((ap).length / 2 : Nat) apC]) Try.func191 rfl rfl ?_
  rw [Try.ntmps191]; intro a hE
  have hE := hE.sub (L' := [(0, .pointer (some ⟨srcB, 0, none⟩)), (1, .slice apA ((ap).length / 2 : Nat) apC)]) ⟨rfl, rfl, trivial⟩
  refine c_seq ?_
  refine c_reg ?_
  refine q_step (v := .slice none 0 0) hE (y_assign rfl) rfl rfl rfl ?_; intro a1 hE2; clear hE
  refine c_nil ?_
  have hE3 := hE2.sub (L' := [(0, .pointer (some ⟨srcB, 0, none⟩)), (1, .slice apA ((ap).length / 2 : Nat) apC)]) ⟨rfl, rfl, trivial⟩; clear hE2
  refine p_tn ?_
  refine c_seq ?_
  refine c_reg ?_
  refine q_step (v := .slice apA ((ap).length / 2 : Nat) apC) hE3 (y_move rfl) rfl rfl rfl ?_; intro a4 hE5; clear hE3
  refine l_step hE5 rfl (l_call (f := 145) (argv := [.slice apA ((ap).length / 2 : Nat) apC]) hE5 (fun _ => cf_l02Own _ _) rfl rfl (c_l02Own apA ((ap).length / 2 : Nat) apC ap w (St.rdO (i := 0) hS0 rfl) (by omega)) ?_)
  rintro _ w7 ⟨b12, c13, rfl, ho14, he11⟩ a8 hE9; clear hE5
  have hf15 := l02Own_len ap
  have hS10 := St.own hS0 he11 ho14; clear hS0
  refine q_step (v := .slice b12 ((F_l02Own ap).length / 2 : Nat) c13) hE9 (y_assign rfl) rfl rfl rfl ?_; intro a16 hE17; clear hE9
  refine c_nil ?_
  have hE18 := hE17.sub (L' := [(0, .pointer (some ⟨srcB, 0, none⟩)), (5, .slice b12 ((F_l02Own ap).length / 2 : Nat) c13)]) ⟨rfl, rfl, trivial⟩; clear hE17
  refine p_tn ?_
  refine c_seq ?_
  refine c_reg ?_
  refine q_step (v := .pointer (some ⟨srcB, 0, none⟩)) hE18 (y_move rfl) rfl rfl rfl ?_; intro a19 hE20; clear hE18
  refine q_step (v := .slice b12 ((F_l02Own ap).length / 2 : Nat) c13) hE20 (y_move rfl) rfl rfl rfl ?_; intro a21 hE22; clear hE20
  refine q_step (v := .int .i64 (((F_l02Own ap).length / 2 : Nat) : Int)) hE22 (y_len (e := 94) (by kernel_rfl) rfl) rfl rfl rfl ?_; intro a23 hE24; clear hE22
  have hS31 := (St.pickT (Γ := [.own 94 2 b12 ((F_l02Own ap).length / 2 : Nat) c13 (F_l02Own ap), .own 94 2 apA ((ap).length / 2 : Nat) apC ap, .blk srcB #[.slice srcA src.length srcC, .int .i64 ((srcg.1 : Nat) : Int), .int .u64 srcg.2] 163]) (Γ' := [.blk srcB #[.slice srcA src.length srcC, .int .i64 ((srcg.1 : Nat) : Int), .int .u64 srcg.2] 163, .own 94 2 b12 ((F_l02Own ap).length / 2 : Nat) c13 (F_l02Own ap), .own 94 2 apA ((ap).length / 2 : Nat) apC ap]) (Γ0 := Γ0) hS10 [2, 0, 1] (by decide) rfl rfl); clear hS10
  refine l_step hE24 rfl (l_call (f := 123) (argv := [.pointer (some ⟨srcB, 0, none⟩), .int .i64 (((F_l02Own ap).length / 2 : Nat) : Int)]) hE24 (fun _ => cf_l01Next0 _ _) rfl rfl (c_l01Next srcB srcA src.length srcC src srcg (((F_l02Own ap).length / 2 : Nat) : Int) w7 w0v (.own 94 2 b12 ((F_l02Own ap).length / 2 : Nat) c13 (F_l02Own ap) :: .own 94 2 apA ((ap).length / 2 : Nat) apC ap :: Γ0) hS31 srcR) ?_)
  rintro _ w26 ⟨rfl, hS29⟩ a27 hE28; clear hE24 hS31
  have hf32 := l01Next_bd srcR srcg (((F_l02Own ap).length / 2 : Nat) : Int)
  refine q_step (v := .int .i64 ((F_l01Next src srcg (((F_l02Own ap).length / 2 : Nat) : Int)).1)) hE28 (y_assign rfl) rfl rfl rfl ?_; intro a33 hE34; clear hE28
  refine c_nil ?_
  have hE35 := hE34.sub (L' := [(0, .pointer (some ⟨srcB, 0, none⟩)), (5, .slice b12 ((F_l02Own ap).length / 2 : Nat) c13), (6, .int .i64 ((F_l01Next src srcg (((F_l02Own ap).length / 2 : Nat) : Int)).1))]) ⟨rfl, rfl, rfl, trivial⟩; clear hE34
  refine p_tn ?_
  refine c_seq ?_
  refine c_seq ?_
  refine c_reg ?_
  refine q_step (v := .pointer (some ⟨srcB, 0, none⟩)) hE35 (y_move rfl) rfl rfl rfl ?_; intro a36 hE37; clear hE35
  have hS44 := (St.pickT (Γ := [.blk srcB #[.slice srcA src.length srcC, .int .i64 ((((F_l01Next src srcg (((F_l02Own ap).length / 2 : Nat) : Int)).2).1 : Nat) : Int), .int .u64 (((F_l01Next src srcg (((F_l02Own ap).length / 2 : Nat) : Int)).2).2)] 163, .own 94 2 b12 ((F_l02Own ap).length / 2 : Nat) c13 (F_l02Own ap), .own 94 2 apA ((ap).length / 2 : Nat) apC ap]) (Γ' := [.blk srcB #[.slice srcA src.length srcC, .int .i64 ((((F_l01Next src srcg (((F_l02Own ap).length / 2 : Nat) : Int)).2).1 : Nat) : Int), .int .u64 (((F_l01Next src srcg (((F_l02Own ap).length / 2 : Nat) : Int)).2).2)] 163, .own 94 2 b12 ((F_l02Own ap).length / 2 : Nat) c13 (F_l02Own ap), .own 94 2 apA ((ap).length / 2 : Nat) apC ap]) (Γ0 := Γ0) hS29 [0, 1, 2] (by decide) rfl rfl); clear hS29
  refine l_step hE37 rfl (l_call (f := 123) (argv := [.pointer (some ⟨srcB, 0, none⟩), .int .i64 5]) hE37 (fun _ => cf_l01Next0 _ _) rfl rfl (c_l01Next srcB srcA src.length srcC src ((F_l01Next src srcg (((F_l02Own ap).length / 2 : Nat) : Int)).2) 5 w26 w0v (.own 94 2 b12 ((F_l02Own ap).length / 2 : Nat) c13 (F_l02Own ap) :: .own 94 2 apA ((ap).length / 2 : Nat) apC ap :: Γ0) hS44 srcR) ?_)
  rintro _ w39 ⟨rfl, hS42⟩ a40 hE41; clear hE37 hS44
  have hf45 := l01Next_bd srcR ((F_l01Next src srcg (((F_l02Own ap).length / 2 : Nat) : Int)).2) 5
  refine c_nil ?_
  have hE46 := hE41.sub (L' := [(0, .pointer (some ⟨srcB, 0, none⟩)), (5, .slice b12 ((F_l02Own ap).length / 2 : Nat) c13), (6, .int .i64 ((F_l01Next src srcg (((F_l02Own ap).length / 2 : Nat) : Int)).1)), (14, .int .i64 ((F_l01Next src ((F_l01Next src srcg (((F_l02Own ap).length / 2 : Nat) : Int)).2) 5).1))]) ⟨rfl, rfl, rfl, rfl, trivial⟩; clear hE41
  refine p_tn ?_
  refine wp_block ?_
  refine c_seq ?_
  refine c_reg ?_
  refine q_step (v := .bool (decide (((F_l01Next src ((F_l01Next src srcg (((F_l02Own ap).length / 2 : Nat) : Int)).2) 5).1) = 0))) hE46 (y_eql rfl rfl) rfl rfl rfl ?_; intro a47 hE48; clear hE46
  refine q_step (v := .bool (decide (((F_l01Next src ((F_l01Next src srcg (((F_l02Own ap).length / 2 : Nat) : Int)).2) 5).1) = 0))) hE48 (y_assign rfl) rfl rfl rfl ?_; intro a49 hE50; clear hE48
  refine c_nil ?_
  have hE51 := hE50.sub (L' := [(0, .pointer (some ⟨srcB, 0, none⟩)), (5, .slice b12 ((F_l02Own ap).length / 2 : Nat) c13), (6, .int .i64 ((F_l01Next src srcg (((F_l02Own ap).length / 2 : Nat) : Int)).1)), (14, .int .i64 ((F_l01Next src ((F_l01Next src srcg (((F_l02Own ap).length / 2 : Nat) : Int)).2) 5).1)), (15, .bool (decide (((F_l01Next src ((F_l01Next src srcg (((F_l02Own ap).length / 2 : Nat) : Int)).2) 5).1) = 0)))]) ⟨rfl, rfl, rfl, rfl, rfl, trivial⟩; clear hE50
  refine p_tn ?_
  refine c_cond hE51 rfl (fun ht52 => ?_) (fun ht52 => ?_)
  ·
   have hp53 := of_decide_eq_true ht52
   have hE54 := hE51; rw [ht52] at hE54; clear hE51
   refine c_reg ?_
   refine q_step (v := .slice b12 ((F_l02Own ap).length / 2 : Nat) c13) hE54 (y_move rfl) rfl rfl rfl ?_; intro a55 hE56; clear hE54
   refine q_step (v := .int .i64 ((F_l01Next src srcg (((F_l02Own ap).length / 2 : Nat) : Int)).1)) hE56 (y_move rfl) rfl rfl rfl ?_; intro a57 hE58; clear hE56
   refine q_step (v := .pointer (some ⟨srcB, 0, none⟩)) hE58 (y_move rfl) rfl rfl rfl ?_; intro a59 hE60; clear hE58
   have hS67 := (St.pickT (Γ := [.blk srcB #[.slice srcA src.length srcC, .int .i64 ((((F_l01Next src ((F_l01Next src srcg (((F_l02Own ap).length / 2 : Nat) : Int)).2) 5).2).1 : Nat) : Int), .int .u64 (((F_l01Next src ((F_l01Next src srcg (((F_l02Own ap).length / 2 : Nat) : Int)).2) 5).2).2)] 163, .own 94 2 b12 ((F_l02Own ap).length / 2 : Nat) c13 (F_l02Own ap), .own 94 2 apA ((ap).length / 2 : Nat) apC ap]) (Γ' := [.blk srcB #[.slice srcA src.length srcC, .int .i64 ((((F_l01Next src ((F_l01Next src srcg (((F_l02Own ap).length / 2 : Nat) : Int)).2) 5).2).1 : Nat) : Int), .int .u64 (((F_l01Next src ((F_l01Next src srcg (((F_l02Own ap).length / 2 : Nat) : Int)).2) 5).2).2)] 163, .own 94 2 b12 ((F_l02Own ap).length / 2 : Nat) c13 (F_l02Own ap), .own 94 2 apA ((ap).length / 2 : Nat) apC ap]) (Γ0 := Γ0) hS42 [0, 1, 2] (by decide) rfl rfl); clear hS42
   refine l_step hE60 rfl (l_call (f := 123) (argv := [.pointer (some ⟨srcB, 0, none⟩), .int .i64 9]) hE60 (fun _ => cf_l01Next0 _ _) rfl rfl (c_l01Next srcB srcA src.length srcC src ((F_l01Next src ((F_l01Next src srcg (((F_l02Own ap).length / 2 : Nat) : Int)).2) 5).2) 9 w39 w0v (.own 94 2 b12 ((F_l02Own ap).length / 2 : Nat) c13 (F_l02Own ap) :: .own 94 2 apA ((ap).length / 2 : Nat) apC ap :: Γ0) hS67 srcR) ?_)
   rintro _ w62 ⟨rfl, hS65⟩ a63 hE64; clear hE60 hS67
   have hf68 := l01Next_bd srcR ((F_l01Next src ((F_l01Next src srcg (((F_l02Own ap).length / 2 : Nat) : Int)).2) 5).2) 9
   refine q_step (v := .int .i64 (((F_l01Next src ((F_l01Next src ((F_l01Next src srcg (((F_l02Own ap).length / 2 : Nat) : Int)).2) 5).2) 9).1) - 1)) hE64 (y_sub rfl rfl ⟨(by omega), (by omega)⟩) rfl rfl rfl ?_; intro a69 hE70; clear hE64
   refine q_step (v := .pointer (some (adr b12 (Int.toNat ((F_l01Next src srcg (((F_l02Own ap).length / 2 : Nat) : Int)).1) * 2)))) hE70 (y_idx (by kernel_rfl) (fun _ => by kernel_rfl) rfl rfl (RdS.isS (m := (F_l01Next src srcg (((F_l02Own ap).length / 2 : Nat) : Int)).1) (St.rdO (i := 1) hS65 rfl) (by omega) (by omega)) (by omega) (by omega) rfl) rfl rfl rfl ?_; intro a71 hE72; clear hE70
   refine q_step (v := .pointer (some (adr b12 ((Int.toNat ((F_l01Next src srcg (((F_l02Own ap).length / 2 : Nat) : Int)).1) * 2) + 0)))) hE72 (y_fieldE (o := 0) (fun _ _ => by kernel_rfl) rfl) rfl rfl rfl ?_; intro a73 hE74; clear hE72
   refine l_step hE74 rfl (l_storeF (k := 1) (j := 0) hS65 hE74 (fun _ => by kernel_rfl) rfl rfl rfl (by omega) (by omega) rfl ?_)
   intro w76 hS79 a77 hE78; clear hS65 hE74
   refine c_nil ?_
   have hE81 := hE78.sub (L' := [(5, .slice b12 ((F_l02Own ap).length / 2 : Nat) c13)]) ⟨rfl, trivial⟩; clear hE78
   refine p_bn ?_
   refine p_tn ?_
   refine c_seq ?_
   refine c_reg ?_
   refine q_step (v := .slice b12 ((F_l02Own ap).length / 2 : Nat) c13) hE81 (y_move rfl) rfl rfl rfl ?_; intro a82 hE83; clear hE81
   refine q_step (v := .slice b12 ((F_l02Own ap).length / 2 : Nat) c13) hE83 (y_assign rfl) rfl rfl rfl ?_; intro a84 hE85; clear hE83
   refine c_nil ?_
   have hE86 := hE85.sub (L' := [(4, .slice b12 ((F_l02Own ap).length / 2 : Nat) c13)]) ⟨rfl, trivial⟩; clear hE85
   refine p_tn ?_
   refine wp_ret ?_
   have hF : F_l02Bend src srcg ap = (sS 2 0 (F_l02Own ap) ((F_l01Next src srcg (((F_l02Own ap).length / 2 : Nat) : Int)).1) (((F_l01Next src ((F_l01Next src ((F_l01Next src srcg (((F_l02Own ap).length / 2 : Nat) : Int)).2) 5).2) 9).1) - 1), (F_l01Next src ((F_l01Next src ((F_l01Next src srcg (((F_l02Own ap).length / 2 : Nat) : Int)).2) 5).2) 9).2) := by unfold F_l02Bend; rw [ht52]; first | done | rfl
   refine c_ret1 hE86 rfl rfl ?_
   have hS9 := (St.pickT (Γ := [.blk srcB #[.slice srcA src.length srcC, .int .i64 ((((F_l01Next src ((F_l01Next src ((F_l01Next src srcg (((F_l02Own ap).length / 2 : Nat) : Int)).2) 5).2) 9).2).1 : Nat) : Int), .int .u64 (((F_l01Next src ((F_l01Next src ((F_l01Next src srcg (((F_l02Own ap).length / 2 : Nat) : Int)).2) 5).2) 9).2).2)] 163, .own 94 2 b12 ((F_l02Own ap).length / 2 : Nat) c13 (sS 2 0 (F_l02Own ap) ((F_l01Next src srcg (((F_l02Own ap).length / 2 : Nat) : Int)).1) (((F_l01Next src ((F_l01Next src ((F_l01Next src srcg (((F_l02Own ap).length / 2 : Nat) : Int)).2) 5).2) 9).1) - 1)), .own 94 2 apA ((ap).length / 2 : Nat) apC ap]) (Γ' := [.own 94 2 b12 ((F_l02Own ap).length / 2 : Nat) c13 (sS 2 0 (F_l02Own ap) ((F_l01Next src srcg (((F_l02Own ap).length / 2 : Nat) : Int)).1) (((F_l01Next src ((F_l01Next src ((F_l01Next src srcg (((F_l02Own ap).length / 2 : Nat) : Int)).2) 5).2) 9).1) - 1)), .own 94 2 apA ((ap).length / 2 : Nat) apC ap, .blk srcB #[.slice srcA src.length srcC, .int .i64 ((((F_l01Next src ((F_l01Next src ((F_l01Next src srcg (((F_l02Own ap).length / 2 : Nat) : Int)).2) 5).2) 9).2).1 : Nat) : Int), .int .u64 (((F_l01Next src ((F_l01Next src ((F_l01Next src srcg (((F_l02Own ap).length / 2 : Nat) : Int)).2) 5).2) 9).2).2)] 163]) (Γ0 := Γ0) hS79 [1, 2, 0] (by decide) rfl rfl)
   exact ⟨b12, c13, (by rw [hF]; (try dsimp only); rw [((St.rdO (i := 1) hS79 rfl).lenD (by decide))]), (by rw [hF]; (try dsimp only); rw [((St.rdO (i := 1) hS79 rfl).lenD (by decide))]; exact hS9)⟩
  ·
   have hp87 := of_decide_eq_false ht52
   have hE88 := hE51; rw [ht52] at hE88; clear hE51
   refine c_seq ?_
   refine c_reg ?_
   refine q_step (v := .bool (decide (((F_l01Next src ((F_l01Next src srcg (((F_l02Own ap).length / 2 : Nat) : Int)).2) 5).1) = 1))) hE88 (y_eql rfl rfl) rfl rfl rfl ?_; intro a89 hE90; clear hE88
   refine q_step (v := .bool (decide (((F_l01Next src ((F_l01Next src srcg (((F_l02Own ap).length / 2 : Nat) : Int)).2) 5).1) = 1))) hE90 (y_assign rfl) rfl rfl rfl ?_; intro a91 hE92; clear hE90
   refine c_nil ?_
   have hE93 := hE92.sub (L' := [(0, .pointer (some ⟨srcB, 0, none⟩)), (5, .slice b12 ((F_l02Own ap).length / 2 : Nat) c13), (6, .int .i64 ((F_l01Next src srcg (((F_l02Own ap).length / 2 : Nat) : Int)).1)), (14, .int .i64 ((F_l01Next src ((F_l01Next src srcg (((F_l02Own ap).length / 2 : Nat) : Int)).2) 5).1)), (24, .bool (decide (((F_l01Next src ((F_l01Next src srcg (((F_l02Own ap).length / 2 : Nat) : Int)).2) 5).1) = 1)))]) ⟨rfl, rfl, rfl, rfl, rfl, trivial⟩; clear hE92
   refine p_tn ?_
   refine c_cond hE93 rfl (fun ht94 => ?_) (fun ht94 => ?_)
   ·
    have hp95 := of_decide_eq_true ht94
    have hE96 := hE93; rw [ht94] at hE96; clear hE93
    refine c_reg ?_
    refine q_step (v := .slice b12 ((F_l02Own ap).length / 2 : Nat) c13) hE96 (y_move rfl) rfl rfl rfl ?_; intro a97 hE98; clear hE96
    refine q_step (v := .int .i64 ((F_l01Next src srcg (((F_l02Own ap).length / 2 : Nat) : Int)).1)) hE98 (y_move rfl) rfl rfl rfl ?_; intro a99 hE100; clear hE98
    refine q_step (v := .pointer (some ⟨srcB, 0, none⟩)) hE100 (y_move rfl) rfl rfl rfl ?_; intro a101 hE102; clear hE100
    refine l_step hE102 rfl (l_lit (e := 2) (s := 1) (xs := [-1, 0, 1, 5, 6]) (vs := [.int .i64 (-1), .int .i64 0, .int .i64 1, .int .i64 5, .int .i64 6]) hS42 hE102 rfl (fun _ => by kernel_rfl) rfl rfl rfl ?_)
    intro b103 w104 hS107 he108 a105 hE106; clear hS42 hE102
    have hS115 := (St.pickT (Γ := [.own 2 1 (some ⟨b103, 0, none⟩) 5 5 ([-1, 0, 1, 5, 6]), .blk srcB #[.slice srcA src.length srcC, .int .i64 ((((F_l01Next src ((F_l01Next src srcg (((F_l02Own ap).length / 2 : Nat) : Int)).2) 5).2).1 : Nat) : Int), .int .u64 (((F_l01Next src ((F_l01Next src srcg (((F_l02Own ap).length / 2 : Nat) : Int)).2) 5).2).2)] 163, .own 94 2 b12 ((F_l02Own ap).length / 2 : Nat) c13 (F_l02Own ap), .own 94 2 apA ((ap).length / 2 : Nat) apC ap]) (Γ' := [.own 2 1 (some ⟨b103, 0, none⟩) 5 5 ([-1, 0, 1, 5, 6]), .blk srcB #[.slice srcA src.length srcC, .int .i64 ((((F_l01Next src ((F_l01Next src srcg (((F_l02Own ap).length / 2 : Nat) : Int)).2) 5).2).1 : Nat) : Int), .int .u64 (((F_l01Next src ((F_l01Next src srcg (((F_l02Own ap).length / 2 : Nat) : Int)).2) 5).2).2)] 163, .own 94 2 b12 ((F_l02Own ap).length / 2 : Nat) c13 (F_l02Own ap), .own 94 2 apA ((ap).length / 2 : Nat) apC ap]) (Γ0 := Γ0) hS107 [0, 1, 2, 3] (by decide) rfl rfl); clear hS107
    refine l_step hE106 rfl (l_call (f := 124) (argv := [.pointer (some ⟨srcB, 0, none⟩), .slice (some ⟨b103, 0, none⟩) 5 5]) hE106 (fun _ => cf_l01Pick _ _) rfl rfl (c_l01Pick srcB srcA src.length srcC src ((F_l01Next src ((F_l01Next src srcg (((F_l02Own ap).length / 2 : Nat) : Int)).2) 5).2) (some ⟨b103, 0, none⟩) 5 5 ([-1, 0, 1, 5, 6]) w104 w0v (.own 94 2 b12 ((F_l02Own ap).length / 2 : Nat) c13 (F_l02Own ap) :: .own 94 2 apA ((ap).length / 2 : Nat) apC ap :: Γ0) hS115 srcR (by simp)) ?_)
    rintro _ w110 ⟨rfl, hS113⟩ a111 hE112; clear hE106 hS115
    refine q_step (v := .pointer (some (adr b12 (Int.toNat ((F_l01Next src srcg (((F_l02Own ap).length / 2 : Nat) : Int)).1) * 2)))) hE112 (y_idx (by kernel_rfl) (fun _ => by kernel_rfl) rfl rfl (RdS.isS (m := (F_l01Next src srcg (((F_l02Own ap).length / 2 : Nat) : Int)).1) (St.rdO (i := 2) hS113 rfl) (by omega) (by omega)) (by omega) (by omega) rfl) rfl rfl rfl ?_; intro a116 hE117; clear hE112
    refine q_step (v := .pointer (some (adr b12 ((Int.toNat ((F_l01Next src srcg (((F_l02Own ap).length / 2 : Nat) : Int)).1) * 2) + 1)))) hE117 (y_fieldE (o := 1) (fun _ _ => by kernel_rfl) rfl) rfl rfl rfl ?_; intro a118 hE119; clear hE117
    refine l_step hE119 rfl (l_storeF (k := 2) (j := 1) hS113 hE119 (fun _ => by kernel_rfl) rfl rfl rfl (by omega) (by omega) rfl ?_)
    intro w121 hS124 a122 hE123; clear hS113 hE119
    refine c_nil ?_
    have hE126 := hE123.sub (L' := [(5, .slice b12 ((F_l02Own ap).length / 2 : Nat) c13)]) ⟨rfl, trivial⟩; clear hE123
    refine p_bn ?_
    refine p_tn ?_
    refine c_seq ?_
    refine c_reg ?_
    refine q_step (v := .slice b12 ((F_l02Own ap).length / 2 : Nat) c13) hE126 (y_move rfl) rfl rfl rfl ?_; intro a127 hE128; clear hE126
    refine q_step (v := .slice b12 ((F_l02Own ap).length / 2 : Nat) c13) hE128 (y_assign rfl) rfl rfl rfl ?_; intro a129 hE130; clear hE128
    refine c_nil ?_
    have hE131 := hE130.sub (L' := [(4, .slice b12 ((F_l02Own ap).length / 2 : Nat) c13)]) ⟨rfl, trivial⟩; clear hE130
    refine p_tn ?_
    refine wp_ret ?_
    have hF : F_l02Bend src srcg ap = (sS 2 1 (F_l02Own ap) ((F_l01Next src srcg (((F_l02Own ap).length / 2 : Nat) : Int)).1) ((F_l01Pick src ((F_l01Next src ((F_l01Next src srcg (((F_l02Own ap).length / 2 : Nat) : Int)).2) 5).2) ([-1, 0, 1, 5, 6])).1), (F_l01Pick src ((F_l01Next src ((F_l01Next src srcg (((F_l02Own ap).length / 2 : Nat) : Int)).2) 5).2) ([-1, 0, 1, 5, 6])).2) := by unfold F_l02Bend; rw [ht94, ht52]; first | done | rfl
    refine c_ret1 hE131 rfl rfl ?_
    have hS9 := (St.pickT (Γ := [.own 2 1 (some ⟨b103, 0, none⟩) 5 5 ([-1, 0, 1, 5, 6]), .blk srcB #[.slice srcA src.length srcC, .int .i64 ((((F_l01Pick src ((F_l01Next src ((F_l01Next src srcg (((F_l02Own ap).length / 2 : Nat) : Int)).2) 5).2) ([-1, 0, 1, 5, 6])).2).1 : Nat) : Int), .int .u64 (((F_l01Pick src ((F_l01Next src ((F_l01Next src srcg (((F_l02Own ap).length / 2 : Nat) : Int)).2) 5).2) ([-1, 0, 1, 5, 6])).2).2)] 163, .own 94 2 b12 ((F_l02Own ap).length / 2 : Nat) c13 (sS 2 1 (F_l02Own ap) ((F_l01Next src srcg (((F_l02Own ap).length / 2 : Nat) : Int)).1) ((F_l01Pick src ((F_l01Next src ((F_l01Next src srcg (((F_l02Own ap).length / 2 : Nat) : Int)).2) 5).2) ([-1, 0, 1, 5, 6])).1)), .own 94 2 apA ((ap).length / 2 : Nat) apC ap]) (Γ' := [.own 94 2 b12 ((F_l02Own ap).length / 2 : Nat) c13 (sS 2 1 (F_l02Own ap) ((F_l01Next src srcg (((F_l02Own ap).length / 2 : Nat) : Int)).1) ((F_l01Pick src ((F_l01Next src ((F_l01Next src srcg (((F_l02Own ap).length / 2 : Nat) : Int)).2) 5).2) ([-1, 0, 1, 5, 6])).1)), .own 94 2 apA ((ap).length / 2 : Nat) apC ap, .blk srcB #[.slice srcA src.length srcC, .int .i64 ((((F_l01Pick src ((F_l01Next src ((F_l01Next src srcg (((F_l02Own ap).length / 2 : Nat) : Int)).2) 5).2) ([-1, 0, 1, 5, 6])).2).1 : Nat) : Int), .int .u64 (((F_l01Pick src ((F_l01Next src ((F_l01Next src srcg (((F_l02Own ap).length / 2 : Nat) : Int)).2) 5).2) ([-1, 0, 1, 5, 6])).2).2)] 163]) (Γ0 := Γ0) hS124 [2, 3, 1] (by decide) rfl rfl)
    exact ⟨b12, c13, (by rw [hF]; (try dsimp only); rw [((St.rdO (i := 2) hS124 rfl).lenD (by decide))]), (by rw [hF]; (try dsimp only); rw [((St.rdO (i := 2) hS124 rfl).lenD (by decide))]; exact hS9)⟩
   ·
    have hp132 := of_decide_eq_false ht94
    have hE133 := hE93; rw [ht94] at hE133; clear hE93
    refine c_seq ?_
    refine c_reg ?_
    refine q_step (v := .bool (decide (((F_l01Next src ((F_l01Next src srcg (((F_l02Own ap).length / 2 : Nat) : Int)).2) 5).1) = 2))) hE133 (y_eql rfl rfl) rfl rfl rfl ?_; intro a134 hE135; clear hE133
    refine q_step (v := .bool (decide (((F_l01Next src ((F_l01Next src srcg (((F_l02Own ap).length / 2 : Nat) : Int)).2) 5).1) = 2))) hE135 (y_assign rfl) rfl rfl rfl ?_; intro a136 hE137; clear hE135
    refine c_nil ?_
    have hE138 := hE137.sub (L' := [(0, .pointer (some ⟨srcB, 0, none⟩)), (5, .slice b12 ((F_l02Own ap).length / 2 : Nat) c13), (6, .int .i64 ((F_l01Next src srcg (((F_l02Own ap).length / 2 : Nat) : Int)).1)), (14, .int .i64 ((F_l01Next src ((F_l01Next src srcg (((F_l02Own ap).length / 2 : Nat) : Int)).2) 5).1)), (33, .bool (decide (((F_l01Next src ((F_l01Next src srcg (((F_l02Own ap).length / 2 : Nat) : Int)).2) 5).1) = 2)))]) ⟨rfl, rfl, rfl, rfl, rfl, trivial⟩; clear hE137
    refine p_tn ?_
    refine c_cond hE138 rfl (fun ht139 => ?_) (fun ht139 => ?_)
    ·
     have hp140 := of_decide_eq_true ht139
     have hE141 := hE138; rw [ht139] at hE141; clear hE138
     refine c_reg ?_
     refine q_step (v := .slice b12 ((F_l02Own ap).length / 2 : Nat) c13) hE141 (y_move rfl) rfl rfl rfl ?_; intro a142 hE143; clear hE141
     refine q_step (v := .pointer (some ⟨srcB, 0, none⟩)) hE143 (y_move rfl) rfl rfl rfl ?_; intro a144 hE145; clear hE143
     have hS152 := (St.pickT (Γ := [.blk srcB #[.slice srcA src.length srcC, .int .i64 ((((F_l01Next src ((F_l01Next src srcg (((F_l02Own ap).length / 2 : Nat) : Int)).2) 5).2).1 : Nat) : Int), .int .u64 (((F_l01Next src ((F_l01Next src srcg (((F_l02Own ap).length / 2 : Nat) : Int)).2) 5).2).2)] 163, .own 94 2 b12 ((F_l02Own ap).length / 2 : Nat) c13 (F_l02Own ap), .own 94 2 apA ((ap).length / 2 : Nat) apC ap]) (Γ' := [.blk srcB #[.slice srcA src.length srcC, .int .i64 ((((F_l01Next src ((F_l01Next src srcg (((F_l02Own ap).length / 2 : Nat) : Int)).2) 5).2).1 : Nat) : Int), .int .u64 (((F_l01Next src ((F_l01Next src srcg (((F_l02Own ap).length / 2 : Nat) : Int)).2) 5).2).2)] 163, .own 94 2 b12 ((F_l02Own ap).length / 2 : Nat) c13 (F_l02Own ap), .own 94 2 apA ((ap).length / 2 : Nat) apC ap]) (Γ0 := Γ0) hS42 [0, 1, 2] (by decide) rfl rfl); clear hS42
     refine l_step hE145 rfl (l_call (f := 123) (argv := [.pointer (some ⟨srcB, 0, none⟩), .int .i64 7]) hE145 (fun _ => cf_l01Next0 _ _) rfl rfl (c_l01Next srcB srcA src.length srcC src ((F_l01Next src ((F_l01Next src srcg (((F_l02Own ap).length / 2 : Nat) : Int)).2) 5).2) 7 w39 w0v (.own 94 2 b12 ((F_l02Own ap).length / 2 : Nat) c13 (F_l02Own ap) :: .own 94 2 apA ((ap).length / 2 : Nat) apC ap :: Γ0) hS152 srcR) ?_)
     rintro _ w147 ⟨rfl, hS150⟩ a148 hE149; clear hE145 hS152
     have hf153 := l01Next_bd srcR ((F_l01Next src ((F_l01Next src srcg (((F_l02Own ap).length / 2 : Nat) : Int)).2) 5).2) 7
     refine q_step (v := .agg #[.int .i64 ((F_l01Next src ((F_l01Next src ((F_l01Next src srcg (((F_l02Own ap).length / 2 : Nat) : Int)).2) 5).2) 7).1), .int .i64 0]) hE149 (y_build (vs := #[(0, .int .i64 ((F_l01Next src ((F_l01Next src ((F_l01Next src srcg (((F_l02Own ap).length / 2 : Nat) : Int)).2) 5).2) 7).1))]) (fun a n hE => by simp only [hE.eval (x := .tmp 37) (v := .int .i64 ((F_l01Next src ((F_l01Next src ((F_l01Next src srcg (((F_l02Own ap).length / 2 : Nat) : Int)).2) 5).2) 7).1)) rfl, List.map_toArray, List.map_cons, List.map_nil]) (fun _ => by kernel_rfl)) rfl rfl rfl ?_; intro a154 hE155; clear hE149
     refine l_step hE155 rfl (l_lit (e := 94) (s := 2) (xs := [(F_l01Next src ((F_l01Next src ((F_l01Next src srcg (((F_l02Own ap).length / 2 : Nat) : Int)).2) 5).2) 7).1, 0]) (vs := [.agg #[.int .i64 ((F_l01Next src ((F_l01Next src ((F_l01Next src srcg (((F_l02Own ap).length / 2 : Nat) : Int)).2) 5).2) 7).1), .int .i64 0]]) hS150 hE155 rfl (fun _ => by kernel_rfl) rfl rfl rfl ?_)
     intro b156 w157 hS160 he161 a158 hE159; clear hS150 hE155
     obtain ⟨_, hi1, hi2, hi3, hi4⟩ := info_parts (show (Try.prog.info? 94).map (fun i => (i.zero, i.size, i.bytes)) = some (some (.agg #[.int .i64 0, .int .i64 0]), 2, 16) by kernel_rfl)
     refine l_step hE159 rfl (l_append (k := 2) (n' := (((F_l02Own ap) ++ ([(F_l01Next src ((F_l01Next src ((F_l01Next src srcg (((F_l02Own ap).length / 2 : Nat) : Int)).2) 5).2) 7).1, 0])).length / 2 : Nat)) hS160 hE159 (by kernel_rfl) hi1 hi2 hi3 rfl (by decide) (by rw [hi4]; decide) rfl rfl rfl (St.rdO (i := 0) hS160 rfl) (by first | omega | (simp only [List.length_append, List.length_cons, List.length_nil]; omega)) (by have h1 := (St.rdO (i := 2) hS160 rfl).1; have h2 := (St.rdO (i := 0) hS160 rfl).1; simp only [List.length_append, List.length_nil, List.length_cons] at h1 h2 ⊢; omega) rfl ?_)
     intro b162 c168 w163 hS166 a164 hE165; clear hS160 hE159 hi1 hi2 hi3 hi4
     refine q_step (v := .slice b162 (((F_l02Own ap) ++ ([(F_l01Next src ((F_l01Next src ((F_l01Next src srcg (((F_l02Own ap).length / 2 : Nat) : Int)).2) 5).2) 7).1, 0])).length / 2 : Nat) c168) hE165 (y_assign rfl) rfl rfl rfl ?_; intro a169 hE170; clear hE165
     refine c_nil ?_
     have hE171 := hE170.sub (L' := [(5, .slice b162 (((F_l02Own ap) ++ ([(F_l01Next src ((F_l01Next src ((F_l01Next src srcg (((F_l02Own ap).length / 2 : Nat) : Int)).2) 5).2) 7).1, 0])).length / 2 : Nat) c168)]) ⟨rfl, trivial⟩; clear hE170
     refine p_bn ?_
     refine p_tn ?_
     refine c_seq ?_
     refine c_reg ?_
     refine q_step (v := .slice b162 (((F_l02Own ap) ++ ([(F_l01Next src ((F_l01Next src ((F_l01Next src srcg (((F_l02Own ap).length / 2 : Nat) : Int)).2) 5).2) 7).1, 0])).length / 2 : Nat) c168) hE171 (y_move rfl) rfl rfl rfl ?_; intro a172 hE173; clear hE171
     refine q_step (v := .slice b162 (((F_l02Own ap) ++ ([(F_l01Next src ((F_l01Next src ((F_l01Next src srcg (((F_l02Own ap).length / 2 : Nat) : Int)).2) 5).2) 7).1, 0])).length / 2 : Nat) c168) hE173 (y_assign rfl) rfl rfl rfl ?_; intro a174 hE175; clear hE173
     refine c_nil ?_
     have hE176 := hE175.sub (L' := [(4, .slice b162 (((F_l02Own ap) ++ ([(F_l01Next src ((F_l01Next src ((F_l01Next src srcg (((F_l02Own ap).length / 2 : Nat) : Int)).2) 5).2) 7).1, 0])).length / 2 : Nat) c168)]) ⟨rfl, trivial⟩; clear hE175
     refine p_tn ?_
     refine wp_ret ?_
     have hF : F_l02Bend src srcg ap = ((F_l02Own ap) ++ ([(F_l01Next src ((F_l01Next src ((F_l01Next src srcg (((F_l02Own ap).length / 2 : Nat) : Int)).2) 5).2) 7).1, 0]), (F_l01Next src ((F_l01Next src ((F_l01Next src srcg (((F_l02Own ap).length / 2 : Nat) : Int)).2) 5).2) 7).2) := by unfold F_l02Bend; rw [ht139, ht94, ht52]; first | done | rfl
     refine c_ret1 hE176 rfl rfl ?_
     have hS9 := (St.pickT (Γ := [.own 94 2 (some ⟨b156, 0, none⟩) 1 1 ([(F_l01Next src ((F_l01Next src ((F_l01Next src srcg (((F_l02Own ap).length / 2 : Nat) : Int)).2) 5).2) 7).1, 0]), .blk srcB #[.slice srcA src.length srcC, .int .i64 ((((F_l01Next src ((F_l01Next src ((F_l01Next src srcg (((F_l02Own ap).length / 2 : Nat) : Int)).2) 5).2) 7).2).1 : Nat) : Int), .int .u64 (((F_l01Next src ((F_l01Next src ((F_l01Next src srcg (((F_l02Own ap).length / 2 : Nat) : Int)).2) 5).2) 7).2).2)] 163, .own 94 2 b162 (((F_l02Own ap) ++ ([(F_l01Next src ((F_l01Next src ((F_l01Next src srcg (((F_l02Own ap).length / 2 : Nat) : Int)).2) 5).2) 7).1, 0])).length / 2 : Nat) c168 ((F_l02Own ap) ++ ([(F_l01Next src ((F_l01Next src ((F_l01Next src srcg (((F_l02Own ap).length / 2 : Nat) : Int)).2) 5).2) 7).1, 0])), .own 94 2 apA ((ap).length / 2 : Nat) apC ap]) (Γ' := [.own 94 2 b162 (((F_l02Own ap) ++ ([(F_l01Next src ((F_l01Next src ((F_l01Next src srcg (((F_l02Own ap).length / 2 : Nat) : Int)).2) 5).2) 7).1, 0])).length / 2 : Nat) c168 ((F_l02Own ap) ++ ([(F_l01Next src ((F_l01Next src ((F_l01Next src srcg (((F_l02Own ap).length / 2 : Nat) : Int)).2) 5).2) 7).1, 0])), .own 94 2 apA ((ap).length / 2 : Nat) apC ap, .blk srcB #[.slice srcA src.length srcC, .int .i64 ((((F_l01Next src ((F_l01Next src ((F_l01Next src srcg (((F_l02Own ap).length / 2 : Nat) : Int)).2) 5).2) 7).2).1 : Nat) : Int), .int .u64 (((F_l01Next src ((F_l01Next src ((F_l01Next src srcg (((F_l02Own ap).length / 2 : Nat) : Int)).2) 5).2) 7).2).2)] 163]) (Γ0 := Γ0) hS166 [2, 3, 1] (by decide) rfl rfl)
     exact ⟨b162, c168, (by rw [hF]), (by rw [hF]; (try dsimp only); exact hS9)⟩
    ·
     have hp177 := of_decide_eq_false ht139
     have hE178 := hE138; rw [ht139] at hE178; clear hE138
     refine c_seq ?_
     refine c_reg ?_
     refine q_step (v := .bool (decide (((F_l01Next src ((F_l01Next src srcg (((F_l02Own ap).length / 2 : Nat) : Int)).2) 5).1) = 3))) hE178 (y_eql rfl rfl) rfl rfl rfl ?_; intro a179 hE180; clear hE178
     refine q_step (v := .bool (decide (((F_l01Next src ((F_l01Next src srcg (((F_l02Own ap).length / 2 : Nat) : Int)).2) 5).1) = 3))) hE180 (y_assign rfl) rfl rfl rfl ?_; intro a181 hE182; clear hE180
     refine c_nil ?_
     have hE183 := hE182.sub (L' := [(5, .slice b12 ((F_l02Own ap).length / 2 : Nat) c13), (6, .int .i64 ((F_l01Next src srcg (((F_l02Own ap).length / 2 : Nat) : Int)).1)), (14, .int .i64 ((F_l01Next src ((F_l01Next src srcg (((F_l02Own ap).length / 2 : Nat) : Int)).2) 5).1)), (41, .bool (decide (((F_l01Next src ((F_l01Next src srcg (((F_l02Own ap).length / 2 : Nat) : Int)).2) 5).1) = 3)))]) ⟨rfl, rfl, rfl, rfl, trivial⟩; clear hE182
     refine p_tn ?_
     refine c_cond hE183 rfl (fun ht184 => ?_) (fun ht184 => ?_)
     ·
      have hp185 := of_decide_eq_true ht184
      have hE186 := hE183; rw [ht184] at hE186; clear hE183
      refine c_reg ?_
      refine q_step (v := .slice b12 ((F_l02Own ap).length / 2 : Nat) c13) hE186 (y_move rfl) rfl rfl rfl ?_; intro a187 hE188; clear hE186
      refine q_step (v := .int .i64 ((F_l01Next src srcg (((F_l02Own ap).length / 2 : Nat) : Int)).1)) hE188 (y_move rfl) rfl rfl rfl ?_; intro a189 hE190; clear hE188
      have hv191 : (0 : Int) ≤ ((F_l01Next src srcg (((F_l02Own ap).length / 2 : Nat) : Int)).1) ∧ ((F_l01Next src srcg (((F_l02Own ap).length / 2 : Nat) : Int)).1) ≤ (((F_l02Own ap).length / 2 : Nat) : Int) := ⟨(by omega), (by omega)⟩
      have hv192 := (St.rdO (i := 1) hS42 rfl).2.1
      have hv193 : Int.toNat ((F_l01Next src srcg (((F_l02Own ap).length / 2 : Nat) : Int)).1) = ((slI 2 (F_l02Own ap) 0 ((F_l01Next src srcg (((F_l02Own ap).length / 2 : Nat) : Int)).1)).length / 2 : Nat) := (by have h := (slI_lenD (l := 0) (by decide) (St.rdO (i := 1) hS42 rfl).1 hv191.2); simpa using h.symm)
      have hS194 := St.pre (k := 1) hS42 rfl hv191.1 hv191.2 hv193
      clear hS42
      refine q_step (v := .slice b12 ((slI 2 (F_l02Own ap) 0 ((F_l01Next src srcg (((F_l02Own ap).length / 2 : Nat) : Int)).1)).length / 2 : Nat) c13) hE190 (y_slicePre (s := 2) (by kernel_rfl) (fun _ => by kernel_rfl) rfl rfl hv191.1 (by omega) hv193) rfl rfl rfl ?_; intro a195 hE196; clear hE190
      refine q_step (v := .slice b12 ((slI 2 (F_l02Own ap) 0 ((F_l01Next src srcg (((F_l02Own ap).length / 2 : Nat) : Int)).1)).length / 2 : Nat) c13) hE196 (y_assign rfl) rfl rfl rfl ?_; intro a197 hE198; clear hE196
      refine c_nil ?_
      have hE199 := hE198.sub (L' := [(5, .slice b12 ((slI 2 (F_l02Own ap) 0 ((F_l01Next src srcg (((F_l02Own ap).length / 2 : Nat) : Int)).1)).length / 2 : Nat) c13)]) ⟨rfl, trivial⟩; clear hE198
      refine p_bn ?_
      refine p_tn ?_
      refine c_seq ?_
      refine c_reg ?_
      refine q_step (v := .slice b12 ((slI 2 (F_l02Own ap) 0 ((F_l01Next src srcg (((F_l02Own ap).length / 2 : Nat) : Int)).1)).length / 2 : Nat) c13) hE199 (y_move rfl) rfl rfl rfl ?_; intro a200 hE201; clear hE199
      refine q_step (v := .slice b12 ((slI 2 (F_l02Own ap) 0 ((F_l01Next src srcg (((F_l02Own ap).length / 2 : Nat) : Int)).1)).length / 2 : Nat) c13) hE201 (y_assign rfl) rfl rfl rfl ?_; intro a202 hE203; clear hE201
      refine c_nil ?_
      have hE204 := hE203.sub (L' := [(4, .slice b12 ((slI 2 (F_l02Own ap) 0 ((F_l01Next src srcg (((F_l02Own ap).length / 2 : Nat) : Int)).1)).length / 2 : Nat) c13)]) ⟨rfl, trivial⟩; clear hE203
      refine p_tn ?_
      refine wp_ret ?_
      have hF : F_l02Bend src srcg ap = (slI 2 (F_l02Own ap) 0 ((F_l01Next src srcg (((F_l02Own ap).length / 2 : Nat) : Int)).1), (F_l01Next src ((F_l01Next src srcg (((F_l02Own ap).length / 2 : Nat) : Int)).2) 5).2) := by unfold F_l02Bend; rw [ht184, ht139, ht94, ht52]; first | done | rfl
      refine c_ret1 hE204 rfl rfl ?_
      have hS9 := (St.pickT (Γ := [.blk srcB #[.slice srcA src.length srcC, .int .i64 ((((F_l01Next src ((F_l01Next src srcg (((F_l02Own ap).length / 2 : Nat) : Int)).2) 5).2).1 : Nat) : Int), .int .u64 (((F_l01Next src ((F_l01Next src srcg (((F_l02Own ap).length / 2 : Nat) : Int)).2) 5).2).2)] 163, .own 94 2 b12 ((slI 2 (F_l02Own ap) 0 ((F_l01Next src srcg (((F_l02Own ap).length / 2 : Nat) : Int)).1)).length / 2 : Nat) c13 (slI 2 (F_l02Own ap) 0 ((F_l01Next src srcg (((F_l02Own ap).length / 2 : Nat) : Int)).1)), .own 94 2 apA ((ap).length / 2 : Nat) apC ap]) (Γ' := [.own 94 2 b12 ((slI 2 (F_l02Own ap) 0 ((F_l01Next src srcg (((F_l02Own ap).length / 2 : Nat) : Int)).1)).length / 2 : Nat) c13 (slI 2 (F_l02Own ap) 0 ((F_l01Next src srcg (((F_l02Own ap).length / 2 : Nat) : Int)).1)), .own 94 2 apA ((ap).length / 2 : Nat) apC ap, .blk srcB #[.slice srcA src.length srcC, .int .i64 ((((F_l01Next src ((F_l01Next src srcg (((F_l02Own ap).length / 2 : Nat) : Int)).2) 5).2).1 : Nat) : Int), .int .u64 (((F_l01Next src ((F_l01Next src srcg (((F_l02Own ap).length / 2 : Nat) : Int)).2) 5).2).2)] 163]) (Γ0 := Γ0) hS194 [1, 2, 0] (by decide) rfl rfl)
      exact ⟨b12, c13, (by rw [hF]), (by rw [hF]; (try dsimp only); exact hS9)⟩
     ·
      have hp205 := of_decide_eq_false ht184
      have hE206 := hE183; rw [ht184] at hE206; clear hE183
      refine c_seq ?_
      refine c_reg ?_
      refine q_step (v := .bool (decide (((F_l01Next src ((F_l01Next src srcg (((F_l02Own ap).length / 2 : Nat) : Int)).2) 5).1) = 4))) hE206 (y_eql rfl rfl) rfl rfl rfl ?_; intro a207 hE208; clear hE206
      refine q_step (v := .bool (decide (((F_l01Next src ((F_l01Next src srcg (((F_l02Own ap).length / 2 : Nat) : Int)).2) 5).1) = 4))) hE208 (y_assign rfl) rfl rfl rfl ?_; intro a209 hE210; clear hE208
      refine c_nil ?_
      have hE211 := hE210.sub (L' := [(5, .slice b12 ((F_l02Own ap).length / 2 : Nat) c13), (6, .int .i64 ((F_l01Next src srcg (((F_l02Own ap).length / 2 : Nat) : Int)).1)), (46, .bool (decide (((F_l01Next src ((F_l01Next src srcg (((F_l02Own ap).length / 2 : Nat) : Int)).2) 5).1) = 4)))]) ⟨rfl, rfl, rfl, trivial⟩; clear hE210
      refine p_tn ?_
      refine c_cond hE211 rfl (fun ht212 => ?_) (fun ht212 => ?_)
      ·
       have hp213 := of_decide_eq_true ht212
       have hE214 := hE211; rw [ht212] at hE214; clear hE211
       refine d_start (fun _ _ => True) [] 9 (by kernel_rfl) rfl ?_
       intro w215 he216; have hS217 := St.go hS42 he216; clear hS42
       refine d_pure (fun _ => trivial) (v := .slice b12 ((F_l02Own ap).length / 2 : Nat) c13) 0 rfl hE214 (y_move rfl) rfl (by kernel_rfl) (by kernel_rfl) (by kernel_rfl) rfl rfl (fun _ _ _ h => h) ?_; intro a218 hE219; clear hE214
       refine d_pure (fun _ => trivial) (v := .int .i64 ((F_l01Next src srcg (((F_l02Own ap).length / 2 : Nat) : Int)).1)) 1 rfl hE219 (y_move rfl) rfl (by kernel_rfl) (by kernel_rfl) (by kernel_rfl) rfl rfl (fun _ _ _ h => h) ?_; intro a220 hE221; clear hE219
       have hv223 := (St.rdO (i := 1) hS217 rfl).2.1
       have hv222 : (0 : Int) ≤ (0 : Int) ∧ (0 : Int) ≤ ((F_l01Next src srcg (((F_l02Own ap).length / 2 : Nat) : Int)).1) ∧ ((F_l01Next src srcg (((F_l02Own ap).length / 2 : Nat) : Int)).1) ≤ (((F_l02Own ap).length / 2 : Nat) : Int) := ⟨(by omega), (by omega), (by omega)⟩
       have hv224 : Int.toNat ((F_l01Next src srcg (((F_l02Own ap).length / 2 : Nat) : Int)).1) - Int.toNat (0 : Int) = ((slI 2 (F_l02Own ap) (0 : Int) ((F_l01Next src srcg (((F_l02Own ap).length / 2 : Nat) : Int)).1)).length / 2 : Nat) := ((slI_lenD (by decide) (St.rdO (i := 1) hS217 rfl).1 hv222.2.2)).symm
       have hv225 : Int.toNat ((F_l01Next src srcg (((F_l02Own ap).length / 2 : Nat) : Int)).1) ≤ c13 ∧ c13 ≤ c13 := ⟨by omega, Nat.le_refl _⟩
       refine d_pure (fun _ => trivial) (v := .slice (subA b12 (Int.toNat (0 : Int)) c13 2) ((slI 2 (F_l02Own ap) (0 : Int) ((F_l01Next src srcg (((F_l02Own ap).length / 2 : Nat) : Int)).1)).length / 2 : Nat) (c13 - Int.toNat (0 : Int))) 2 rfl hE221 (y_sliceH (by kernel_rfl) (fun _ => by kernel_rfl) rfl rfl hv222.2.1 (by omega) (by have h := hv224; omega)) rfl (by kernel_rfl) (by kernel_rfl) (by kernel_rfl) rfl rfl (fun _ _ _ h => h) ?_; intro a226 hE227; clear hE221
       refine d_pure (fun _ => trivial) (v := .slice b12 ((F_l02Own ap).length / 2 : Nat) c13) 3 rfl hE227 (y_move rfl) rfl (by kernel_rfl) (by kernel_rfl) (by kernel_rfl) rfl rfl (fun _ _ _ h => h) ?_; intro a228 hE229; clear hE227
       refine d_pure (fun _ => trivial) (v := .int .i64 ((F_l01Next src srcg (((F_l02Own ap).length / 2 : Nat) : Int)).1)) 4 rfl hE229 (y_move rfl) rfl (by kernel_rfl) (by kernel_rfl) (by kernel_rfl) rfl rfl (fun _ _ _ h => h) ?_; intro a230 hE231; clear hE229
       refine d_pure (fun _ => trivial) (v := .int .i64 (((F_l01Next src srcg (((F_l02Own ap).length / 2 : Nat) : Int)).1) + 1)) 5 rfl hE231 (y_add rfl rfl ⟨(by omega), (by omega)⟩) rfl (by kernel_rfl) (by kernel_rfl) (by kernel_rfl) rfl rfl (fun _ _ _ h => h) ?_; intro a232 hE233; clear hE231
       have hv235 := (St.rdO (i := 1) hS217 rfl).2.1
       have hv234 : (0 : Int) ≤ (((F_l01Next src srcg (((F_l02Own ap).length / 2 : Nat) : Int)).1) + 1) ∧ (((F_l01Next src srcg (((F_l02Own ap).length / 2 : Nat) : Int)).1) + 1) ≤ (((F_l02Own ap).length / 2 : Nat) : Int) ∧ (((F_l02Own ap).length / 2 : Nat) : Int) ≤ (((F_l02Own ap).length / 2 : Nat) : Int) := ⟨(by omega), (by omega), (by omega)⟩
       have hv236 : Int.toNat (((F_l02Own ap).length / 2 : Nat) : Int) - Int.toNat (((F_l01Next src srcg (((F_l02Own ap).length / 2 : Nat) : Int)).1) + 1) = ((slI 2 (F_l02Own ap) (((F_l01Next src srcg (((F_l02Own ap).length / 2 : Nat) : Int)).1) + 1) (((F_l02Own ap).length / 2 : Nat) : Int)).length / 2 : Nat) := ((slI_lenD (by decide) (St.rdO (i := 1) hS217 rfl).1 hv234.2.2)).symm
       have hv237 : Int.toNat (((F_l02Own ap).length / 2 : Nat) : Int) ≤ c13 ∧ c13 ≤ c13 := ⟨by omega, Nat.le_refl _⟩
       refine d_pure (fun _ => trivial) (v := .slice (subA b12 (Int.toNat (((F_l01Next src srcg (((F_l02Own ap).length / 2 : Nat) : Int)).1) + 1)) c13 2) ((slI 2 (F_l02Own ap) (((F_l01Next src srcg (((F_l02Own ap).length / 2 : Nat) : Int)).1) + 1) (((F_l02Own ap).length / 2 : Nat) : Int)).length / 2 : Nat) (c13 - Int.toNat (((F_l01Next src srcg (((F_l02Own ap).length / 2 : Nat) : Int)).1) + 1))) 6 rfl hE233 (y_sliceL (by kernel_rfl) (fun _ => by kernel_rfl) rfl rfl hv234.1 hv234.2.1 (by have h := hv236; omega) rfl) rfl (by kernel_rfl) (by kernel_rfl) (by kernel_rfl) rfl rfl (fun _ _ _ h => h) ?_; intro a238 hE239; clear hE233
       obtain ⟨_, hi1, hi2, hi3, hi4⟩ := info_parts (show (Try.prog.info? 94).map (fun i => (i.zero, i.size, i.bytes)) = some (some (.agg #[.int .i64 0, .int .i64 0]), 2, 16) by kernel_rfl)
       refine d_only 7 (by kernel_rfl) rfl hE239 rfl (l_appendFit (k := 1) (h := ((F_l01Next src srcg (((F_l02Own ap).length / 2 : Nat) : Int)).1)) (n' := (((slI 2 (F_l02Own ap) (0 : Int) ((F_l01Next src srcg (((F_l02Own ap).length / 2 : Nat) : Int)).1)) ++ (slI 2 (F_l02Own ap) (((F_l01Next src srcg (((F_l02Own ap).length / 2 : Nat) : Int)).1) + 1) (((F_l02Own ap).length / 2 : Nat) : Int))).length / 2 : Nat)) hS217 hE239 (by kernel_rfl) hi1 hi3 (by decide) rfl rfl rfl rfl rfl (RdS.sub (St.rdO (i := 1) hS217 rfl) c13 hv234.1 hv234.2.1 hv234.2.2 hv237.1 hv237.2 hv236 rfl) (by omega) (by omega) (by omega) (by omega) (by omega) (by have h1 := (RdS.sub (St.rdO (i := 1) hS217 rfl) c13 hv222.1 hv222.2.1 hv222.2.2 hv225.1 hv225.2 hv224 rfl).1; have h2 := (RdS.sub (St.rdO (i := 1) hS217 rfl) c13 hv234.1 hv234.2.1 hv234.2.2 hv237.1 hv237.2 hv236 rfl).1; simp only [List.length_append, List.length_nil, List.length_cons] at h1 h2 ⊢; omega) rfl ?_)
       intro w241 hS244 a242 hE243; clear hS217 hE239 hi1 hi3
       refine ⟨fun _ => trivial, ?_⟩
       refine d_pure (fun _ => trivial) (v := .slice b12 (((slI 2 (F_l02Own ap) (0 : Int) ((F_l01Next src srcg (((F_l02Own ap).length / 2 : Nat) : Int)).1)) ++ (slI 2 (F_l02Own ap) (((F_l01Next src srcg (((F_l02Own ap).length / 2 : Nat) : Int)).1) + 1) (((F_l02Own ap).length / 2 : Nat) : Int))).length / 2 : Nat) c13) 8 rfl hE243 (y_assign rfl) rfl (by kernel_rfl) (by kernel_rfl) (by kernel_rfl) rfl rfl (fun _ _ _ h => h) ?_; intro a246 hE247; clear hE243
       refine d_done (by kernel_rfl) ?_
       have hE248 := hE247.sub (L' := [(5, .slice b12 (((slI 2 (F_l02Own ap) (0 : Int) ((F_l01Next src srcg (((F_l02Own ap).length / 2 : Nat) : Int)).1)) ++ (slI 2 (F_l02Own ap) (((F_l01Next src srcg (((F_l02Own ap).length / 2 : Nat) : Int)).1) + 1) (((F_l02Own ap).length / 2 : Nat) : Int))).length / 2 : Nat) c13)]) ⟨rfl, trivial⟩; clear hE247
       refine p_bn ?_
       refine p_tn ?_
       refine c_seq ?_
       refine c_reg ?_
       refine q_step (v := .slice b12 (((slI 2 (F_l02Own ap) (0 : Int) ((F_l01Next src srcg (((F_l02Own ap).length / 2 : Nat) : Int)).1)) ++ (slI 2 (F_l02Own ap) (((F_l01Next src srcg (((F_l02Own ap).length / 2 : Nat) : Int)).1) + 1) (((F_l02Own ap).length / 2 : Nat) : Int))).length / 2 : Nat) c13) hE248 (y_move rfl) rfl rfl rfl ?_; intro a249 hE250; clear hE248
       refine q_step (v := .slice b12 (((slI 2 (F_l02Own ap) (0 : Int) ((F_l01Next src srcg (((F_l02Own ap).length / 2 : Nat) : Int)).1)) ++ (slI 2 (F_l02Own ap) (((F_l01Next src srcg (((F_l02Own ap).length / 2 : Nat) : Int)).1) + 1) (((F_l02Own ap).length / 2 : Nat) : Int))).length / 2 : Nat) c13) hE250 (y_assign rfl) rfl rfl rfl ?_; intro a251 hE252; clear hE250
       refine c_nil ?_
       have hE253 := hE252.sub (L' := [(4, .slice b12 (((slI 2 (F_l02Own ap) (0 : Int) ((F_l01Next src srcg (((F_l02Own ap).length / 2 : Nat) : Int)).1)) ++ (slI 2 (F_l02Own ap) (((F_l01Next src srcg (((F_l02Own ap).length / 2 : Nat) : Int)).1) + 1) (((F_l02Own ap).length / 2 : Nat) : Int))).length / 2 : Nat) c13)]) ⟨rfl, trivial⟩; clear hE252
       refine p_tn ?_
       refine wp_ret ?_
       have hF : F_l02Bend src srcg ap = ((slI 2 (F_l02Own ap) (0 : Int) ((F_l01Next src srcg (((F_l02Own ap).length / 2 : Nat) : Int)).1)) ++ (slI 2 (F_l02Own ap) (((F_l01Next src srcg (((F_l02Own ap).length / 2 : Nat) : Int)).1) + 1) (((F_l02Own ap).length / 2 : Nat) : Int)), (F_l01Next src ((F_l01Next src srcg (((F_l02Own ap).length / 2 : Nat) : Int)).2) 5).2) := by unfold F_l02Bend; rw [ht212, ht184, ht139, ht94, ht52]; first | done | rfl
       refine c_ret1 hE253 rfl rfl ?_
       have hS9 := (St.pickT (Γ := [.blk srcB #[.slice srcA src.length srcC, .int .i64 ((((F_l01Next src ((F_l01Next src srcg (((F_l02Own ap).length / 2 : Nat) : Int)).2) 5).2).1 : Nat) : Int), .int .u64 (((F_l01Next src ((F_l01Next src srcg (((F_l02Own ap).length / 2 : Nat) : Int)).2) 5).2).2)] 163, .own 94 2 b12 (((slI 2 (F_l02Own ap) (0 : Int) ((F_l01Next src srcg (((F_l02Own ap).length / 2 : Nat) : Int)).1)) ++ (slI 2 (F_l02Own ap) (((F_l01Next src srcg (((F_l02Own ap).length / 2 : Nat) : Int)).1) + 1) (((F_l02Own ap).length / 2 : Nat) : Int))).length / 2 : Nat) c13 ((slI 2 (F_l02Own ap) (0 : Int) ((F_l01Next src srcg (((F_l02Own ap).length / 2 : Nat) : Int)).1)) ++ (slI 2 (F_l02Own ap) (((F_l01Next src srcg (((F_l02Own ap).length / 2 : Nat) : Int)).1) + 1) (((F_l02Own ap).length / 2 : Nat) : Int))), .own 94 2 apA ((ap).length / 2 : Nat) apC ap]) (Γ' := [.own 94 2 b12 (((slI 2 (F_l02Own ap) (0 : Int) ((F_l01Next src srcg (((F_l02Own ap).length / 2 : Nat) : Int)).1)) ++ (slI 2 (F_l02Own ap) (((F_l01Next src srcg (((F_l02Own ap).length / 2 : Nat) : Int)).1) + 1) (((F_l02Own ap).length / 2 : Nat) : Int))).length / 2 : Nat) c13 ((slI 2 (F_l02Own ap) (0 : Int) ((F_l01Next src srcg (((F_l02Own ap).length / 2 : Nat) : Int)).1)) ++ (slI 2 (F_l02Own ap) (((F_l01Next src srcg (((F_l02Own ap).length / 2 : Nat) : Int)).1) + 1) (((F_l02Own ap).length / 2 : Nat) : Int))), .own 94 2 apA ((ap).length / 2 : Nat) apC ap, .blk srcB #[.slice srcA src.length srcC, .int .i64 ((((F_l01Next src ((F_l01Next src srcg (((F_l02Own ap).length / 2 : Nat) : Int)).2) 5).2).1 : Nat) : Int), .int .u64 (((F_l01Next src ((F_l01Next src srcg (((F_l02Own ap).length / 2 : Nat) : Int)).2) 5).2).2)] 163]) (Γ0 := Γ0) hS244 [1, 2, 0] (by decide) rfl rfl)
       exact ⟨b12, c13, (by rw [hF]), (by rw [hF]; (try dsimp only); exact hS9)⟩
      ·
       have hp254 := of_decide_eq_false ht212
       have hE255 := hE211; rw [ht212] at hE255; clear hE211
       refine wp_skip ?_
       refine p_bn ?_
       refine p_tn ?_
       refine c_seq ?_
       refine c_reg ?_
       refine q_step (v := .slice b12 ((F_l02Own ap).length / 2 : Nat) c13) hE255 (y_move rfl) rfl rfl rfl ?_; intro a256 hE257; clear hE255
       refine q_step (v := .slice b12 ((F_l02Own ap).length / 2 : Nat) c13) hE257 (y_assign rfl) rfl rfl rfl ?_; intro a258 hE259; clear hE257
       refine c_nil ?_
       have hE260 := hE259.sub (L' := [(4, .slice b12 ((F_l02Own ap).length / 2 : Nat) c13)]) ⟨rfl, trivial⟩; clear hE259
       refine p_tn ?_
       refine wp_ret ?_
       have hF : F_l02Bend src srcg ap = (F_l02Own ap, (F_l01Next src ((F_l01Next src srcg (((F_l02Own ap).length / 2 : Nat) : Int)).2) 5).2) := by unfold F_l02Bend; rw [ht212, ht184, ht139, ht94, ht52]; first | done | rfl
       refine c_ret1 hE260 rfl rfl ?_
       have hS9 := (St.pickT (Γ := [.blk srcB #[.slice srcA src.length srcC, .int .i64 ((((F_l01Next src ((F_l01Next src srcg (((F_l02Own ap).length / 2 : Nat) : Int)).2) 5).2).1 : Nat) : Int), .int .u64 (((F_l01Next src ((F_l01Next src srcg (((F_l02Own ap).length / 2 : Nat) : Int)).2) 5).2).2)] 163, .own 94 2 b12 ((F_l02Own ap).length / 2 : Nat) c13 (F_l02Own ap), .own 94 2 apA ((ap).length / 2 : Nat) apC ap]) (Γ' := [.own 94 2 b12 ((F_l02Own ap).length / 2 : Nat) c13 (F_l02Own ap), .own 94 2 apA ((ap).length / 2 : Nat) apC ap, .blk srcB #[.slice srcA src.length srcC, .int .i64 ((((F_l01Next src ((F_l01Next src srcg (((F_l02Own ap).length / 2 : Nat) : Int)).2) 5).2).1 : Nat) : Int), .int .u64 (((F_l01Next src ((F_l01Next src srcg (((F_l02Own ap).length / 2 : Nat) : Int)).2) 5).2).2)] 163]) (Γ0 := Γ0) hS42 [1, 2, 0] (by decide) rfl rfl)
       exact ⟨b12, c13, (by rw [hF]), (by rw [hF]; (try dsimp only); exact hS9)⟩
theorem slI_ev2 {xs : List Int} (he : xs.length % 2 = 0) (l h : Int) (h1 : h ≤ ((xs.length / 2 : Nat) : Int)) : (slI 2 xs l h).length % 2 = 0 := by
  rw [slI_len (n := xs.length / 2) (by omega) h1]; omega
theorem l02Bend_len {src : List Int} (hg : ∀ m : Int, 0 ≤ gI src m) (g : Nat × Int) (ap : List Int) (h2 : 2 ≤ ap.length) (he : ap.length % 2 = 0) : (F_l02Bend src g ap).1.length ≤ ap.length + 2 ∧ (F_l02Bend src g ap).1.length % 2 = 0 := by
  have ho : F_l02Own ap = ap := rfl
  unfold F_l02Bend
  rw [ho]
  have hk := l02Next_bd hg g ((ap.length / 2 : Nat) : Int)
  generalize (F_l01Next src g ((ap.length / 2 : Nat) : Int)).1 = k at *
  have hb : ∀ {c : Bool} {x y : List Int × (Nat × Int)}, (x.1.length ≤ ap.length + 2 ∧ x.1.length % 2 = 0) → (y.1.length ≤ ap.length + 2 ∧ y.1.length % 2 = 0) → (bif c then x else y).1.length ≤ ap.length + 2 ∧ (bif c then x else y).1.length % 2 = 0 := by
    intro c x y h1 h2; cases c <;> assumption
  have e1 := slI_le 2 ap 0 k
  have e2 := slI_ev2 he 0 k (by omega)
  have e3 := slI_ev2 he (k + 1) ((ap.length / 2 : Nat) : Int) (Int.le_refl _)
  have e4 : (slI 2 ap 0 k).length = (k.toNat - (0 : Int).toNat) * 2 := slI_len (n := ap.length / 2) (by omega) (by omega)
  have e5 : (slI 2 ap (k + 1) ((ap.length / 2 : Nat) : Int)).length = ((((ap.length / 2 : Nat) : Int)).toNat - (k + 1).toNat) * 2 := slI_len (n := ap.length / 2) (by omega) (Int.le_refl _)
  refine hb ?_ (hb ?_ (hb ?_ (hb ?_ (hb ?_ ?_))))
  · show (sS _ _ _ _ _).length ≤ _ ∧ (sS _ _ _ _ _).length % 2 = 0
    rw [sS_len]; omega
  · show (sS _ _ _ _ _).length ≤ _ ∧ (sS _ _ _ _ _).length % 2 = 0
    rw [sS_len]; omega
  · show (ap ++ _).length ≤ _ ∧ (ap ++ _).length % 2 = 0
    rw [List.length_append]
    simp only [List.length_cons, List.length_nil]; omega
  · exact ⟨by show (slI 2 ap 0 k).length ≤ _; omega, e2⟩
  · show (slI 2 ap 0 k ++ slI 2 ap (k + 1) ((ap.length / 2 : Nat) : Int)).length ≤ _ ∧ (slI 2 ap 0 k ++ slI 2 ap (k + 1) ((ap.length / 2 : Nat) : Int)).length % 2 = 0
    rw [List.length_append]; omega
  · exact ⟨by show ap.length ≤ _; omega, he⟩
def F_l02Any_L1b (src : List Int) (vars : Int) (modal : Bool) (rec : (List Int) → (Nat × Int) → (List Int) × (Nat × Int)) (a9 : List Int) (x2g : Nat × Int) : (List Int) × (Nat × Int) :=
  bif (decide ((((a9).length / 2 : Nat) : Int) ≤ 40)) then (bif (decide (0 < ((F_l01Next src x2g 60).1))) then (rec (F_l02Pair (2 + ((F_l01Next src ((F_l01Next src x2g 60).2) 3).1)) a9 ((F_l02Draw src ((F_l01Next src ((F_l01Next src x2g 60).2) 3).2) 6 vars modal).1)) ((F_l02Draw src ((F_l01Next src ((F_l01Next src x2g 60).2) 3).2) 6 vars modal).2)) else (a9, (F_l01Next src x2g 60).2)) else (a9, x2g)
def F_l02Any_L1 (src : List Int) (vars : Int) (modal : Bool) : Nat → (List Int) → (Nat × Int) → (List Int) × (Nat × Int)
  | 0, a9, x2g => (a9, x2g)
  | r + 1, a9, x2g => F_l02Any_L1b src vars modal (F_l02Any_L1 src vars modal r) a9 x2g
def F_l02Any (src : List Int) (srcg : Nat × Int) (size : Int) (vars : Int) (modal : Bool) : List Int × (Nat × Int) :=
  bif (decide (((F_l01Next src ((F_l02Draw src srcg size vars modal).2) 40).1) = 0)) then ((F_l02Bend src ((F_l01Next src ((F_l02Draw src srcg size vars modal).2) 40).2) ((F_l02Draw src srcg size vars modal).1)).1, (F_l02Bend src ((F_l01Next src ((F_l02Draw src srcg size vars modal).2) 40).2) ((F_l02Draw src srcg size vars modal).1)).2) else (bif (decide (((F_l01Next src ((F_l02Draw src srcg size vars modal).2) 40).1) = 1)) then ((F_l02Any_L1 src vars modal (200 - ((F_l02Draw src srcg size vars modal).1).length + 1) ((F_l02Draw src srcg size vars modal).1) ((F_l01Next src ((F_l02Draw src srcg size vars modal).2) 40).2)).1, (F_l02Any_L1 src vars modal (200 - ((F_l02Draw src srcg size vars modal).1).length + 1) ((F_l02Draw src srcg size vars modal).1) ((F_l01Next src ((F_l02Draw src srcg size vars modal).2) 40).2)).2) else ((F_l02Draw src srcg size vars modal).1, (F_l01Next src ((F_l02Draw src srcg size vars modal).2) 40).2))
theorem cf_l02Any (args : Array Value) (w : World) : (callFunc 125 args).run Try.prog w = .ok (.enter 125 args) w := by kernel_rfl
set_option maxRecDepth 100000 in
theorem c_l02Any (srcB : Nat) (srcA : Option Addr) (srcN srcC : Nat) (src : List Int) (srcg : Nat × Int) (size : Int) (vars : Int) (modal : Bool) (w : World) (w0v : World) (Γ0 : List Ent) (hS0 : St w0v w (.blk srcB #[.slice srcA srcN srcC, .int .i64 ((srcg.1 : Nat) : Int), .int .u64 (srcg.2)] 163 :: Γ0)) (srcR : RdB w0v srcA srcN srcC src) (h1 : 1 ≤ size) (h2 : size ≤ 20) (hv : 1 ≤ vars) :
    Calls Try.prog 125 #[.pointer (some ⟨srcB, 0, none⟩), .int .i64 size, .int .i64 vars, .bool modal] w (Ret fun v w' => ∃ b1 : Option Addr, ∃ c1 : Nat, v = .slice b1 (((F_l02Any src srcg size vars modal).1).length / 2 : Nat) c1 ∧ St w0v w' (.own 94 2 b1 (((F_l02Any src srcg size vars modal).1).length / 2 : Nat) c1 ((F_l02Any src srcg size vars modal).1) :: .blk srcB #[.slice srcA srcN srcC, .int .i64 ((((F_l02Any src srcg size vars modal).2).1 : Nat) : Int), .int .u64 (((F_l02Any src srcg size vars modal).2).2)] 163 :: Γ0)) := by
  obtain rfl : srcN = src.length := srcR.len
  have srcLe := srcR.le
  refine enter (args := [.pointer (some ⟨srcB, 0, none⟩), .int .i64 size, .int .i64 vars, .bool modal]) Try.func125 rfl rfl ?_
  rw [Try.ntmps125]; intro a hE
  have hE := hE.sub (L' := [(0, .pointer (some ⟨srcB, 0, none⟩)), (1, .int .i64 size), (2, .int .i64 vars), (3, .bool modal)]) ⟨rfl, rfl, rfl, rfl, trivial⟩
  refine c_seq ?_
  refine c_reg ?_
  refine q_step (v := .slice none 0 0) hE (y_assign rfl) rfl rfl rfl ?_; intro a1 hE2; clear hE
  refine c_nil ?_
  have hE3 := hE2.sub (L' := [(0, .pointer (some ⟨srcB, 0, none⟩)), (1, .int .i64 size), (2, .int .i64 vars), (3, .bool modal)]) ⟨rfl, rfl, rfl, rfl, trivial⟩; clear hE2
  refine p_tn ?_
  refine c_seq ?_
  refine c_reg ?_
  refine q_step (v := .pointer (some ⟨srcB, 0, none⟩)) hE3 (y_move rfl) rfl rfl rfl ?_; intro a4 hE5; clear hE3
  refine q_step (v := .int .i64 size) hE5 (y_move rfl) rfl rfl rfl ?_; intro a6 hE7; clear hE5
  refine q_step (v := .int .i64 vars) hE7 (y_move rfl) rfl rfl rfl ?_; intro a8 hE9; clear hE7
  refine q_step (v := .bool modal) hE9 (y_move rfl) rfl rfl rfl ?_; intro a10 hE11; clear hE9
  have hS18 := (St.pickT (Γ := [.blk srcB #[.slice srcA src.length srcC, .int .i64 ((srcg.1 : Nat) : Int), .int .u64 srcg.2] 163]) (Γ' := [.blk srcB #[.slice srcA src.length srcC, .int .i64 ((srcg.1 : Nat) : Int), .int .u64 srcg.2] 163]) (Γ0 := Γ0) hS0 [0] (by decide) rfl rfl); clear hS0
  refine l_step hE11 rfl (l_call (f := 190) (argv := [.pointer (some ⟨srcB, 0, none⟩), .int .i64 size, .int .i64 vars, .bool modal]) hE11 (fun _ => cf_l02Draw _ _) rfl rfl (c_l02Draw srcB srcA src.length srcC src srcg size vars modal w w0v (Γ0) hS18 srcR (by omega) (by omega) (by omega) (fun m => (srcR.bd m).1)) ?_)
  rintro _ w13 ⟨b19, c20, rfl, hS16⟩ a14 hE15; clear hE11 hS18
  have hf21 := l02Draw_len (fun m => (srcR.bd m).1) srcg size vars modal (by omega) (by omega) (by omega)
  refine q_step (v := .slice b19 (((F_l02Draw src srcg size vars modal).1).length / 2 : Nat) c20) hE15 (y_assign rfl) rfl rfl rfl ?_; intro a22 hE23; clear hE15
  refine c_nil ?_
  have hE24 := hE23.sub (L' := [(0, .pointer (some ⟨srcB, 0, none⟩)), (2, .int .i64 vars), (3, .bool modal), (9, .slice b19 (((F_l02Draw src srcg size vars modal).1).length / 2 : Nat) c20)]) ⟨rfl, rfl, rfl, rfl, trivial⟩; clear hE23
  refine p_tn ?_
  refine c_seq ?_
  refine c_seq ?_
  refine c_reg ?_
  refine q_step (v := .pointer (some ⟨srcB, 0, none⟩)) hE24 (y_move rfl) rfl rfl rfl ?_; intro a25 hE26; clear hE24
  have hS33 := (St.pickT (Γ := [.own 94 2 b19 (((F_l02Draw src srcg size vars modal).1).length / 2 : Nat) c20 ((F_l02Draw src srcg size vars modal).1), .blk srcB #[.slice srcA src.length srcC, .int .i64 ((((F_l02Draw src srcg size vars modal).2).1 : Nat) : Int), .int .u64 (((F_l02Draw src srcg size vars modal).2).2)] 163]) (Γ' := [.blk srcB #[.slice srcA src.length srcC, .int .i64 ((((F_l02Draw src srcg size vars modal).2).1 : Nat) : Int), .int .u64 (((F_l02Draw src srcg size vars modal).2).2)] 163, .own 94 2 b19 (((F_l02Draw src srcg size vars modal).1).length / 2 : Nat) c20 ((F_l02Draw src srcg size vars modal).1)]) (Γ0 := Γ0) hS16 [1, 0] (by decide) rfl rfl); clear hS16
  refine l_step hE26 rfl (l_call (f := 123) (argv := [.pointer (some ⟨srcB, 0, none⟩), .int .i64 40]) hE26 (fun _ => cf_l01Next0 _ _) rfl rfl (c_l01Next srcB srcA src.length srcC src ((F_l02Draw src srcg size vars modal).2) 40 w13 w0v (.own 94 2 b19 (((F_l02Draw src srcg size vars modal).1).length / 2 : Nat) c20 ((F_l02Draw src srcg size vars modal).1) :: Γ0) hS33 srcR) ?_)
  rintro _ w28 ⟨rfl, hS31⟩ a29 hE30; clear hE26 hS33
  have hf34 := l01Next_bd srcR ((F_l02Draw src srcg size vars modal).2) 40
  refine c_nil ?_
  have hE35 := hE30.sub (L' := [(0, .pointer (some ⟨srcB, 0, none⟩)), (2, .int .i64 vars), (3, .bool modal), (9, .slice b19 (((F_l02Draw src srcg size vars modal).1).length / 2 : Nat) c20), (16, .int .i64 ((F_l01Next src ((F_l02Draw src srcg size vars modal).2) 40).1))]) ⟨rfl, rfl, rfl, rfl, rfl, trivial⟩; clear hE30
  refine p_tn ?_
  refine wp_block ?_
  refine c_seq ?_
  refine c_reg ?_
  refine q_step (v := .bool (decide (((F_l01Next src ((F_l02Draw src srcg size vars modal).2) 40).1) = 0))) hE35 (y_eql rfl rfl) rfl rfl rfl ?_; intro a36 hE37; clear hE35
  refine q_step (v := .bool (decide (((F_l01Next src ((F_l02Draw src srcg size vars modal).2) 40).1) = 0))) hE37 (y_assign rfl) rfl rfl rfl ?_; intro a38 hE39; clear hE37
  refine c_nil ?_
  have hE40 := hE39.sub (L' := [(0, .pointer (some ⟨srcB, 0, none⟩)), (2, .int .i64 vars), (3, .bool modal), (9, .slice b19 (((F_l02Draw src srcg size vars modal).1).length / 2 : Nat) c20), (16, .int .i64 ((F_l01Next src ((F_l02Draw src srcg size vars modal).2) 40).1)), (17, .bool (decide (((F_l01Next src ((F_l02Draw src srcg size vars modal).2) 40).1) = 0)))]) ⟨rfl, rfl, rfl, rfl, rfl, rfl, trivial⟩; clear hE39
  refine p_tn ?_
  refine c_cond hE40 rfl (fun ht41 => ?_) (fun ht41 => ?_)
  ·
   have hp42 := of_decide_eq_true ht41
   have hE43 := hE40; rw [ht41] at hE43; clear hE40
   refine c_seq ?_
   refine c_reg ?_
   refine q_step (v := .pointer (some ⟨srcB, 0, none⟩)) hE43 (y_move rfl) rfl rfl rfl ?_; intro a44 hE45; clear hE43
   refine q_step (v := .slice b19 (((F_l02Draw src srcg size vars modal).1).length / 2 : Nat) c20) hE45 (y_move rfl) rfl rfl rfl ?_; intro a46 hE47; clear hE45
   have hS54 := (St.pickT (Γ := [.blk srcB #[.slice srcA src.length srcC, .int .i64 ((((F_l01Next src ((F_l02Draw src srcg size vars modal).2) 40).2).1 : Nat) : Int), .int .u64 (((F_l01Next src ((F_l02Draw src srcg size vars modal).2) 40).2).2)] 163, .own 94 2 b19 (((F_l02Draw src srcg size vars modal).1).length / 2 : Nat) c20 ((F_l02Draw src srcg size vars modal).1)]) (Γ' := [.own 94 2 b19 (((F_l02Draw src srcg size vars modal).1).length / 2 : Nat) c20 ((F_l02Draw src srcg size vars modal).1), .blk srcB #[.slice srcA src.length srcC, .int .i64 ((((F_l01Next src ((F_l02Draw src srcg size vars modal).2) 40).2).1 : Nat) : Int), .int .u64 (((F_l01Next src ((F_l02Draw src srcg size vars modal).2) 40).2).2)] 163]) (Γ0 := Γ0) hS31 [1, 0] (by decide) rfl rfl); clear hS31
   refine l_step hE47 rfl (l_call (f := 191) (argv := [.pointer (some ⟨srcB, 0, none⟩), .slice b19 (((F_l02Draw src srcg size vars modal).1).length / 2 : Nat) c20]) hE47 (fun _ => cf_l02Bend _ _) rfl rfl (c_l02Bend srcB srcA src.length srcC src ((F_l01Next src ((F_l02Draw src srcg size vars modal).2) 40).2) b19 (((F_l02Draw src srcg size vars modal).1).length / 2 : Nat) c20 ((F_l02Draw src srcg size vars modal).1) w28 w0v (Γ0) hS54 srcR (by omega) (by omega)) ?_)
   rintro _ w49 ⟨b55, c56, rfl, hS52⟩ a50 hE51; clear hE47 hS54
   have hf57 := l02Bend_len (fun m => (srcR.bd m).1) ((F_l01Next src ((F_l02Draw src srcg size vars modal).2) 40).2) ((F_l02Draw src srcg size vars modal).1) (by omega) (by omega)
   refine q_step (v := .slice b55 (((F_l02Bend src ((F_l01Next src ((F_l02Draw src srcg size vars modal).2) 40).2) ((F_l02Draw src srcg size vars modal).1)).1).length / 2 : Nat) c56) hE51 (y_assign rfl) rfl rfl rfl ?_; intro a58 hE59; clear hE51
   refine c_nil ?_
   have hE60 := hE59.sub (L' := [(8, .slice b55 (((F_l02Bend src ((F_l01Next src ((F_l02Draw src srcg size vars modal).2) 40).2) ((F_l02Draw src srcg size vars modal).1)).1).length / 2 : Nat) c56)]) ⟨rfl, trivial⟩; clear hE59
   refine p_tn ?_
   refine wp_ret ?_
   refine p_br ?_
   refine p_tr ?_
   have hF : F_l02Any src srcg size vars modal = ((F_l02Bend src ((F_l01Next src ((F_l02Draw src srcg size vars modal).2) 40).2) ((F_l02Draw src srcg size vars modal).1)).1, (F_l02Bend src ((F_l01Next src ((F_l02Draw src srcg size vars modal).2) 40).2) ((F_l02Draw src srcg size vars modal).1)).2) := by unfold F_l02Any; rw [ht41]; first | done | rfl
   refine c_ret1 hE60 rfl rfl ?_
   have hS9 := (St.pickT (Γ := [.own 94 2 b55 (((F_l02Bend src ((F_l01Next src ((F_l02Draw src srcg size vars modal).2) 40).2) ((F_l02Draw src srcg size vars modal).1)).1).length / 2 : Nat) c56 ((F_l02Bend src ((F_l01Next src ((F_l02Draw src srcg size vars modal).2) 40).2) ((F_l02Draw src srcg size vars modal).1)).1), .own 94 2 b19 (((F_l02Draw src srcg size vars modal).1).length / 2 : Nat) c20 ((F_l02Draw src srcg size vars modal).1), .blk srcB #[.slice srcA src.length srcC, .int .i64 ((((F_l02Bend src ((F_l01Next src ((F_l02Draw src srcg size vars modal).2) 40).2) ((F_l02Draw src srcg size vars modal).1)).2).1 : Nat) : Int), .int .u64 (((F_l02Bend src ((F_l01Next src ((F_l02Draw src srcg size vars modal).2) 40).2) ((F_l02Draw src srcg size vars modal).1)).2).2)] 163]) (Γ' := [.own 94 2 b55 (((F_l02Bend src ((F_l01Next src ((F_l02Draw src srcg size vars modal).2) 40).2) ((F_l02Draw src srcg size vars modal).1)).1).length / 2 : Nat) c56 ((F_l02Bend src ((F_l01Next src ((F_l02Draw src srcg size vars modal).2) 40).2) ((F_l02Draw src srcg size vars modal).1)).1), .blk srcB #[.slice srcA src.length srcC, .int .i64 ((((F_l02Bend src ((F_l01Next src ((F_l02Draw src srcg size vars modal).2) 40).2) ((F_l02Draw src srcg size vars modal).1)).2).1 : Nat) : Int), .int .u64 (((F_l02Bend src ((F_l01Next src ((F_l02Draw src srcg size vars modal).2) 40).2) ((F_l02Draw src srcg size vars modal).1)).2).2)] 163]) (Γ0 := Γ0) hS52 [0, 2] (by decide) rfl rfl)
   exact ⟨b55, c56, (by rw [hF]), (by rw [hF]; (try dsimp only); exact hS9)⟩
  ·
   have hp61 := of_decide_eq_false ht41
   have hE62 := hE40; rw [ht41] at hE62; clear hE40
   refine c_seq ?_
   refine c_reg ?_
   refine q_step (v := .bool (decide (((F_l01Next src ((F_l02Draw src srcg size vars modal).2) 40).1) = 1))) hE62 (y_eql rfl rfl) rfl rfl rfl ?_; intro a63 hE64; clear hE62
   refine q_step (v := .bool (decide (((F_l01Next src ((F_l02Draw src srcg size vars modal).2) 40).1) = 1))) hE64 (y_assign rfl) rfl rfl rfl ?_; intro a65 hE66; clear hE64
   refine c_nil ?_
   have hE67 := hE66.sub (L' := [(0, .pointer (some ⟨srcB, 0, none⟩)), (2, .int .i64 vars), (3, .bool modal), (9, .slice b19 (((F_l02Draw src srcg size vars modal).1).length / 2 : Nat) c20), (22, .bool (decide (((F_l01Next src ((F_l02Draw src srcg size vars modal).2) 40).1) = 1)))]) ⟨rfl, rfl, rfl, rfl, rfl, trivial⟩; clear hE66
   refine p_tn ?_
   refine c_cond hE67 rfl (fun ht68 => ?_) (fun ht68 => ?_)
   ·
    have hp69 := of_decide_eq_true ht68
    have hE70 := hE67; rw [ht68] at hE70; clear hE67
    refine c_cut1 (fun a' w' => ∃ a9A_71 : Option Addr, ∃ a9C_71 : Nat, (2 ≤ ((F_l02Any_L1 src vars modal (200 - ((F_l02Draw src srcg size vars modal).1).length + 1) ((F_l02Draw src srcg size vars modal).1) ((F_l01Next src ((F_l02Draw src srcg size vars modal).2) 40).2)).1).length) ∧ (((F_l02Any_L1 src vars modal (200 - ((F_l02Draw src srcg size vars modal).1).length + 1) ((F_l02Draw src srcg size vars modal).1) ((F_l01Next src ((F_l02Draw src srcg size vars modal).2) 40).2)).1).length ≤ 100) ∧ (((F_l02Any_L1 src vars modal (200 - ((F_l02Draw src srcg size vars modal).1).length + 1) ((F_l02Draw src srcg size vars modal).1) ((F_l01Next src ((F_l02Draw src srcg size vars modal).2) 40).2)).1).length % 2 = 0) ∧ E a' 42 [(0, .pointer (some ⟨srcB, 0, none⟩)), (2, .int .i64 vars), (3, .bool modal), (9, .slice a9A_71 (((F_l02Any_L1 src vars modal (200 - ((F_l02Draw src srcg size vars modal).1).length + 1) ((F_l02Draw src srcg size vars modal).1) ((F_l01Next src ((F_l02Draw src srcg size vars modal).2) 40).2)).1).length / 2 : Nat) a9C_71)] ∧ St w0v w' (.blk srcB #[.slice srcA src.length srcC, .int .i64 ((((F_l02Any_L1 src vars modal (200 - ((F_l02Draw src srcg size vars modal).1).length + 1) ((F_l02Draw src srcg size vars modal).1) ((F_l01Next src ((F_l02Draw src srcg size vars modal).2) 40).2)).2).1 : Nat) : Int), .int .u64 (((F_l02Any_L1 src vars modal (200 - ((F_l02Draw src srcg size vars modal).1).length + 1) ((F_l02Draw src srcg size vars modal).1) ((F_l01Next src ((F_l02Draw src srcg size vars modal).2) 40).2)).2).2)] 163 :: .own 94 2 a9A_71 (((F_l02Any_L1 src vars modal (200 - ((F_l02Draw src srcg size vars modal).1).length + 1) ((F_l02Draw src srcg size vars modal).1) ((F_l01Next src ((F_l02Draw src srcg size vars modal).2) 40).2)).1).length / 2 : Nat) a9C_71 ((F_l02Any_L1 src vars modal (200 - ((F_l02Draw src srcg size vars modal).1).length + 1) ((F_l02Draw src srcg size vars modal).1) ((F_l01Next src ((F_l02Draw src srcg size vars modal).2) 40).2)).1) :: Γ0)) ?_ ?_
    ·
     refine wp_block ?_
     refine c_loop (fun r a' w' => ∃ a9 : List Int, ∃ x2g : Nat × Int, ∃ a9A : Option Addr, ∃ a9C : Nat, F_l02Any_L1 src vars modal r a9 x2g = F_l02Any_L1 src vars modal (200 - ((F_l02Draw src srcg size vars modal).1).length + 1) ((F_l02Draw src srcg size vars modal).1) ((F_l01Next src ((F_l02Draw src srcg size vars modal).2) 40).2) ∧ 200 - a9.length < r ∧ (2 ≤ a9.length) ∧ (a9.length ≤ 100) ∧ (a9.length % 2 = 0) ∧ E a' 42 [(0, .pointer (some ⟨srcB, 0, none⟩)), (2, .int .i64 vars), (3, .bool modal), (9, .slice a9A ((a9).length / 2 : Nat) a9C)] ∧ St w0v w' (.blk srcB #[.slice srcA src.length srcC, .int .i64 ((x2g.1 : Nat) : Int), .int .u64 x2g.2] 163 :: .own 94 2 a9A ((a9).length / 2 : Nat) a9C a9 :: Γ0)) (r := (200 - ((F_l02Draw src srcg size vars modal).1).length + 1)) ?_ ?_
     · exact ⟨(F_l02Draw src srcg size vars modal).1, (F_l01Next src ((F_l02Draw src srcg size vars modal).2) 40).2, b19, c20, rfl, Nat.lt_succ_self _, (by first | omega | (simp only [sS_len, sL_len]; omega) | (simp only [List.length_replicate, sI_len]; omega) | (simp only [List.length_append, List.length_cons, List.length_nil, sI_len, cond_true, cond_false]; omega) | (simp only [List.length_append, List.length_cons, List.length_nil, sI_len, cond_eq_ite, apply_ite List.length]; split <;> simp only [List.length_append, List.length_cons, List.length_nil, sI_len] <;> omega) | grind), (by first | omega | (simp only [sS_len, sL_len]; omega) | (simp only [List.length_replicate, sI_len]; omega) | (simp only [List.length_append, List.length_cons, List.length_nil, sI_len, cond_true, cond_false]; omega) | (simp only [List.length_append, List.length_cons, List.length_nil, sI_len, cond_eq_ite, apply_ite List.length]; split <;> simp only [List.length_append, List.length_cons, List.length_nil, sI_len] <;> omega) | grind), (by first | omega | (simp only [sS_len, sL_len]; omega) | (simp only [List.length_replicate, sI_len]; omega) | (simp only [List.length_append, List.length_cons, List.length_nil, sI_len, cond_true, cond_false]; omega) | (simp only [List.length_append, List.length_cons, List.length_nil, sI_len, cond_eq_ite, apply_ite List.length]; split <;> simp only [List.length_append, List.length_cons, List.length_nil, sI_len] <;> omega) | grind), (hE70.sub (L' := [(0, .pointer (some ⟨srcB, 0, none⟩)), (2, .int .i64 vars), (3, .bool modal), (9, .slice b19 (((F_l02Draw src srcg size vars modal).1).length / 2 : Nat) c20)]) ⟨rfl, rfl, rfl, rfl, trivial⟩), (St.pickT (Γ := [.blk srcB #[.slice srcA src.length srcC, .int .i64 ((((F_l01Next src ((F_l02Draw src srcg size vars modal).2) 40).2).1 : Nat) : Int), .int .u64 (((F_l01Next src ((F_l02Draw src srcg size vars modal).2) 40).2).2)] 163, .own 94 2 b19 (((F_l02Draw src srcg size vars modal).1).length / 2 : Nat) c20 ((F_l02Draw src srcg size vars modal).1)]) (Γ' := [.blk srcB #[.slice srcA src.length srcC, .int .i64 ((((F_l01Next src ((F_l02Draw src srcg size vars modal).2) 40).2).1 : Nat) : Int), .int .u64 (((F_l01Next src ((F_l02Draw src srcg size vars modal).2) 40).2).2)] 163, .own 94 2 b19 (((F_l02Draw src srcg size vars modal).1).length / 2 : Nat) c20 ((F_l02Draw src srcg size vars modal).1)]) (Γ0 := Γ0) hS31 [0, 1] (by decide) rfl rfl)⟩
     ·
      clear hE70 hS31
      rintro r81 a72 w73 ⟨a9, x2g, a9A, a9C, hT76, hr77, hi78, hi79, hi80, hE74, hS75⟩
      obtain ⟨r81, rfl⟩ : ∃ r', r81 = r' + 1 := ⟨r81 - 1, by omega⟩
      refine c_seq ?_
      refine c_seq ?_
      refine c_reg ?_
      refine q_step (v := .slice a9A ((a9).length / 2 : Nat) a9C) hE74 (y_move rfl) rfl rfl rfl ?_; intro a82 hE83; clear hE74
      refine q_step (v := .int .i64 (((a9).length / 2 : Nat) : Int)) hE83 (y_len (e := 94) (by kernel_rfl) rfl) rfl rfl rfl ?_; intro a84 hE85; clear hE83
      refine q_step (v := .bool (decide ((((a9).length / 2 : Nat) : Int) ≤ 40))) hE85 (y_leq rfl rfl) rfl rfl rfl ?_; intro a86 hE87; clear hE85
      refine q_step (v := .bool (decide ((((a9).length / 2 : Nat) : Int) ≤ 40))) hE87 (y_move rfl) rfl rfl rfl ?_; intro a88 hE89; clear hE87
      rcases Bool.eq_false_or_eq_true (decide ((((a9).length / 2 : Nat) : Int) ≤ 40)) with hb90 | hb90
      ·
       have hE91 := hE89; (try rw [hb90] at hE91); clear hE89
       have hp92 := of_decide_eq_true hb90
       refine q_step (v := .pointer (some ⟨srcB, 0, none⟩)) hE91 (y_move rfl) rfl rfl rfl ?_; intro a93 hE94; clear hE91
       have hS101 := (St.pickT (Γ := [.blk srcB #[.slice srcA src.length srcC, .int .i64 ((x2g.1 : Nat) : Int), .int .u64 x2g.2] 163, .own 94 2 a9A ((a9).length / 2 : Nat) a9C a9]) (Γ' := [.blk srcB #[.slice srcA src.length srcC, .int .i64 ((x2g.1 : Nat) : Int), .int .u64 x2g.2] 163, .own 94 2 a9A ((a9).length / 2 : Nat) a9C a9]) (Γ0 := Γ0) hS75 [0, 1] (by decide) rfl rfl); clear hS75
       refine l_step hE94 rfl (l_call (f := 123) (argv := [.pointer (some ⟨srcB, 0, none⟩), .int .i64 60]) hE94 (fun _ => cf_l01Next0 _ _) rfl rfl (c_l01Next srcB srcA src.length srcC src x2g 60 w73 w0v (.own 94 2 a9A ((a9).length / 2 : Nat) a9C a9 :: Γ0) hS101 srcR) ?_)
       rintro _ w96 ⟨rfl, hS99⟩ a97 hE98; clear hE94 hS101
       have hf102 := l01Next_bd srcR x2g 60
       refine q_step (v := .bool (decide (0 < ((F_l01Next src x2g 60).1)))) hE98 (y_gtr rfl rfl) rfl rfl rfl ?_; intro a103 hE104; clear hE98
       refine q_step (v := .bool (decide (0 < ((F_l01Next src x2g 60).1)))) hE104 (y_pick (b := true) rfl rfl) rfl rfl rfl ?_; intro a105 hE106; clear hE104
       refine c_nil ?_
       have hE107 := hE106.sub (L' := [(0, .pointer (some ⟨srcB, 0, none⟩)), (2, .int .i64 vars), (3, .bool modal), (9, .slice a9A ((a9).length / 2 : Nat) a9C), (31, .bool (decide (0 < ((F_l01Next src x2g 60).1))))]) ⟨rfl, rfl, rfl, rfl, rfl, trivial⟩; clear hE106
       refine p_tn ?_
       refine c_cond hE107 rfl (fun ht108 => ?_) (fun ht108 => ?_)
       ·
        have hp109 := of_decide_eq_true ht108
        have hE110 := hE107; rw [ht108] at hE110; clear hE107
        refine wp_skip ?_
        refine p_tn ?_
        refine wp_block ?_
        refine c_reg ?_
        refine q_step (v := .pointer (some ⟨srcB, 0, none⟩)) hE110 (y_move rfl) rfl rfl rfl ?_; intro a111 hE112; clear hE110
        have hS119 := (St.pickT (Γ := [.blk srcB #[.slice srcA src.length srcC, .int .i64 ((((F_l01Next src x2g 60).2).1 : Nat) : Int), .int .u64 (((F_l01Next src x2g 60).2).2)] 163, .own 94 2 a9A ((a9).length / 2 : Nat) a9C a9]) (Γ' := [.blk srcB #[.slice srcA src.length srcC, .int .i64 ((((F_l01Next src x2g 60).2).1 : Nat) : Int), .int .u64 (((F_l01Next src x2g 60).2).2)] 163, .own 94 2 a9A ((a9).length / 2 : Nat) a9C a9]) (Γ0 := Γ0) hS99 [0, 1] (by decide) rfl rfl); clear hS99
        refine l_step hE112 rfl (l_call (f := 123) (argv := [.pointer (some ⟨srcB, 0, none⟩), .int .i64 3]) hE112 (fun _ => cf_l01Next0 _ _) rfl rfl (c_l01Next srcB srcA src.length srcC src ((F_l01Next src x2g 60).2) 3 w96 w0v (.own 94 2 a9A ((a9).length / 2 : Nat) a9C a9 :: Γ0) hS119 srcR) ?_)
        rintro _ w114 ⟨rfl, hS117⟩ a115 hE116; clear hE112 hS119
        have hf120 := l01Next_bd srcR ((F_l01Next src x2g 60).2) 3
        refine q_step (v := .int .i64 (2 + ((F_l01Next src ((F_l01Next src x2g 60).2) 3).1))) hE116 (y_add rfl rfl ⟨(by omega), (by omega)⟩) rfl rfl rfl ?_; intro a121 hE122; clear hE116
        refine q_step (v := .slice a9A ((a9).length / 2 : Nat) a9C) hE122 (y_move rfl) rfl rfl rfl ?_; intro a123 hE124; clear hE122
        refine q_step (v := .pointer (some ⟨srcB, 0, none⟩)) hE124 (y_move rfl) rfl rfl rfl ?_; intro a125 hE126; clear hE124
        refine q_step (v := .int .i64 vars) hE126 (y_move rfl) rfl rfl rfl ?_; intro a127 hE128; clear hE126
        refine q_step (v := .bool modal) hE128 (y_move rfl) rfl rfl rfl ?_; intro a129 hE130; clear hE128
        have hS137 := (St.pickT (Γ := [.blk srcB #[.slice srcA src.length srcC, .int .i64 ((((F_l01Next src ((F_l01Next src x2g 60).2) 3).2).1 : Nat) : Int), .int .u64 (((F_l01Next src ((F_l01Next src x2g 60).2) 3).2).2)] 163, .own 94 2 a9A ((a9).length / 2 : Nat) a9C a9]) (Γ' := [.blk srcB #[.slice srcA src.length srcC, .int .i64 ((((F_l01Next src ((F_l01Next src x2g 60).2) 3).2).1 : Nat) : Int), .int .u64 (((F_l01Next src ((F_l01Next src x2g 60).2) 3).2).2)] 163, .own 94 2 a9A ((a9).length / 2 : Nat) a9C a9]) (Γ0 := Γ0) hS117 [0, 1] (by decide) rfl rfl); clear hS117
        refine l_step hE130 rfl (l_call (f := 190) (argv := [.pointer (some ⟨srcB, 0, none⟩), .int .i64 6, .int .i64 vars, .bool modal]) hE130 (fun _ => cf_l02Draw _ _) rfl rfl (c_l02Draw srcB srcA src.length srcC src ((F_l01Next src ((F_l01Next src x2g 60).2) 3).2) 6 vars modal w114 w0v (.own 94 2 a9A ((a9).length / 2 : Nat) a9C a9 :: Γ0) hS137 srcR (by omega) (by omega) (by omega) (fun m => (srcR.bd m).1)) ?_)
        rintro _ w132 ⟨b138, c139, rfl, hS135⟩ a133 hE134; clear hE130 hS137
        have hf140 := l02Draw_len (fun m => (srcR.bd m).1) ((F_l01Next src ((F_l01Next src x2g 60).2) 3).2) 6 vars modal (by omega) (by omega) (by omega)
        refine l_step hE134 rfl (l_call (f := 128) (argv := [.int .i64 (2 + ((F_l01Next src ((F_l01Next src x2g 60).2) 3).1)), .slice a9A ((a9).length / 2 : Nat) a9C, .slice b138 (((F_l02Draw src ((F_l01Next src ((F_l01Next src x2g 60).2) 3).2) 6 vars modal).1).length / 2 : Nat) c139]) hE134 (fun _ => cf_l02Pair _ _) rfl rfl (c_l02Pair (2 + ((F_l01Next src ((F_l01Next src x2g 60).2) 3).1)) a9A ((a9).length / 2 : Nat) a9C a9 b138 (((F_l02Draw src ((F_l01Next src ((F_l01Next src x2g 60).2) 3).2) 6 vars modal).1).length / 2 : Nat) c139 ((F_l02Draw src ((F_l01Next src ((F_l01Next src x2g 60).2) 3).2) 6 vars modal).1) w132 (St.rdO (i := 2) hS135 rfl) (St.rdO (i := 0) hS135 rfl) (by omega) (by omega)) ?_)
        rintro _ w142 ⟨b147, c148, rfl, ho149, he146⟩ a143 hE144; clear hE134
        have hf150 := l02Pair_len (2 + ((F_l01Next src ((F_l01Next src x2g 60).2) 3).1)) a9 ((F_l02Draw src ((F_l01Next src ((F_l01Next src x2g 60).2) 3).2) 6 vars modal).1)
        have hS145 := St.own hS135 he146 ho149; clear hS135
        refine q_step (v := .slice b147 ((F_l02Pair (2 + ((F_l01Next src ((F_l01Next src x2g 60).2) 3).1)) a9 ((F_l02Draw src ((F_l01Next src ((F_l01Next src x2g 60).2) 3).2) 6 vars modal).1)).length / 2 : Nat) c148) hE144 (y_assign rfl) rfl rfl rfl ?_; intro a151 hE152; clear hE144
        refine c_nil ?_
        have hE153 := hE152.sub (L' := [(0, .pointer (some ⟨srcB, 0, none⟩)), (2, .int .i64 vars), (3, .bool modal), (9, .slice b147 ((F_l02Pair (2 + ((F_l01Next src ((F_l01Next src x2g 60).2) 3).1)) a9 ((F_l02Draw src ((F_l01Next src ((F_l01Next src x2g 60).2) 3).2) 6 vars modal).1)).length / 2 : Nat) c148)]) ⟨rfl, rfl, rfl, rfl, trivial⟩; clear hE152
        refine p_bn ?_
        refine p_tn ⟨r81, Nat.lt_succ_self _, F_l02Pair (2 + ((F_l01Next src ((F_l01Next src x2g 60).2) 3).1)) a9 ((F_l02Draw src ((F_l01Next src ((F_l01Next src x2g 60).2) 3).2) 6 vars modal).1), (F_l02Draw src ((F_l01Next src ((F_l01Next src x2g 60).2) 3).2) 6 vars modal).2, b147, c148, (hT76.symm.trans (show F_l02Any_L1b src vars modal (F_l02Any_L1 src vars modal r81) a9 x2g = F_l02Any_L1 src vars modal r81 (F_l02Pair (2 + ((F_l01Next src ((F_l01Next src x2g 60).2) 3).1)) a9 ((F_l02Draw src ((F_l01Next src ((F_l01Next src x2g 60).2) 3).2) 6 vars modal).1)) ((F_l02Draw src ((F_l01Next src ((F_l01Next src x2g 60).2) 3).2) 6 vars modal).2) by unfold F_l02Any_L1b; rw [ht108, hb90]; first | done | rfl)).symm, (by omega), (by first | omega | (simp only [sS_len, sL_len]; omega) | (simp only [List.length_replicate, sI_len]; omega) | (simp only [List.length_append, List.length_cons, List.length_nil, sI_len, cond_true, cond_false]; omega) | (simp only [List.length_append, List.length_cons, List.length_nil, sI_len, cond_eq_ite, apply_ite List.length]; split <;> simp only [List.length_append, List.length_cons, List.length_nil, sI_len] <;> omega) | grind), (by first | omega | (simp only [sS_len, sL_len]; omega) | (simp only [List.length_replicate, sI_len]; omega) | (simp only [List.length_append, List.length_cons, List.length_nil, sI_len, cond_true, cond_false]; omega) | (simp only [List.length_append, List.length_cons, List.length_nil, sI_len, cond_eq_ite, apply_ite List.length]; split <;> simp only [List.length_append, List.length_cons, List.length_nil, sI_len] <;> omega) | grind), (by first | omega | (simp only [sS_len, sL_len]; omega) | (simp only [List.length_replicate, sI_len]; omega) | (simp only [List.length_append, List.length_cons, List.length_nil, sI_len, cond_true, cond_false]; omega) | (simp only [List.length_append, List.length_cons, List.length_nil, sI_len, cond_eq_ite, apply_ite List.length]; split <;> simp only [List.length_append, List.length_cons, List.length_nil, sI_len] <;> omega) | grind), (hE153.sub (L' := [(0, .pointer (some ⟨srcB, 0, none⟩)), (2, .int .i64 vars), (3, .bool modal), (9, .slice b147 ((F_l02Pair (2 + ((F_l01Next src ((F_l01Next src x2g 60).2) 3).1)) a9 ((F_l02Draw src ((F_l01Next src ((F_l01Next src x2g 60).2) 3).2) 6 vars modal).1)).length / 2 : Nat) c148)]) ⟨rfl, rfl, rfl, rfl, trivial⟩), (St.pickT (Γ := [.own 94 2 b147 ((F_l02Pair (2 + ((F_l01Next src ((F_l01Next src x2g 60).2) 3).1)) a9 ((F_l02Draw src ((F_l01Next src ((F_l01Next src x2g 60).2) 3).2) 6 vars modal).1)).length / 2 : Nat) c148 (F_l02Pair (2 + ((F_l01Next src ((F_l01Next src x2g 60).2) 3).1)) a9 ((F_l02Draw src ((F_l01Next src ((F_l01Next src x2g 60).2) 3).2) 6 vars modal).1)), .own 94 2 b138 (((F_l02Draw src ((F_l01Next src ((F_l01Next src x2g 60).2) 3).2) 6 vars modal).1).length / 2 : Nat) c139 ((F_l02Draw src ((F_l01Next src ((F_l01Next src x2g 60).2) 3).2) 6 vars modal).1), .blk srcB #[.slice srcA src.length srcC, .int .i64 ((((F_l02Draw src ((F_l01Next src ((F_l01Next src x2g 60).2) 3).2) 6 vars modal).2).1 : Nat) : Int), .int .u64 (((F_l02Draw src ((F_l01Next src ((F_l01Next src x2g 60).2) 3).2) 6 vars modal).2).2)] 163, .own 94 2 a9A ((a9).length / 2 : Nat) a9C a9]) (Γ' := [.blk srcB #[.slice srcA src.length srcC, .int .i64 ((((F_l02Draw src ((F_l01Next src ((F_l01Next src x2g 60).2) 3).2) 6 vars modal).2).1 : Nat) : Int), .int .u64 (((F_l02Draw src ((F_l01Next src ((F_l01Next src x2g 60).2) 3).2) 6 vars modal).2).2)] 163, .own 94 2 b147 ((F_l02Pair (2 + ((F_l01Next src ((F_l01Next src x2g 60).2) 3).1)) a9 ((F_l02Draw src ((F_l01Next src ((F_l01Next src x2g 60).2) 3).2) 6 vars modal).1)).length / 2 : Nat) c148 (F_l02Pair (2 + ((F_l01Next src ((F_l01Next src x2g 60).2) 3).1)) a9 ((F_l02Draw src ((F_l01Next src ((F_l01Next src x2g 60).2) 3).2) 6 vars modal).1))]) (Γ0 := Γ0) hS145 [2, 0] (by decide) rfl rfl)⟩
       ·
        have hp154 := of_decide_eq_false ht108
        have hE155 := hE107; rw [ht108] at hE155; clear hE107
        refine wp_exit ?_
        refine p_te ?_
        have hX156 : F_l02Any_L1 src vars modal (200 - ((F_l02Draw src srcg size vars modal).1).length + 1) ((F_l02Draw src srcg size vars modal).1) ((F_l01Next src ((F_l02Draw src srcg size vars modal).2) 40).2) = (a9, (F_l01Next src x2g 60).2) := hT76.symm.trans (show F_l02Any_L1b src vars modal (F_l02Any_L1 src vars modal r81) a9 x2g = (a9, (F_l01Next src x2g 60).2) by unfold F_l02Any_L1b; rw [ht108, hb90]; first | done | rfl)
        refine p_te (p_be (p_tn ?_))
        exact ⟨a9A, a9C, (by rw [hX156]; exact (show 2 ≤ a9.length from (by first | omega | (simp only [sS_len, sL_len]; omega) | (simp only [List.length_replicate, sI_len]; omega) | (simp only [List.length_append, List.length_cons, List.length_nil, sI_len, cond_true, cond_false]; omega) | (simp only [List.length_append, List.length_cons, List.length_nil, sI_len, cond_eq_ite, apply_ite List.length]; split <;> simp only [List.length_append, List.length_cons, List.length_nil, sI_len] <;> omega) | grind))), (by rw [hX156]; exact (show a9.length ≤ 100 from (by first | omega | (simp only [sS_len, sL_len]; omega) | (simp only [List.length_replicate, sI_len]; omega) | (simp only [List.length_append, List.length_cons, List.length_nil, sI_len, cond_true, cond_false]; omega) | (simp only [List.length_append, List.length_cons, List.length_nil, sI_len, cond_eq_ite, apply_ite List.length]; split <;> simp only [List.length_append, List.length_cons, List.length_nil, sI_len] <;> omega) | grind))), (by rw [hX156]; exact (show a9.length % 2 = 0 from (by first | omega | (simp only [sS_len, sL_len]; omega) | (simp only [List.length_replicate, sI_len]; omega) | (simp only [List.length_append, List.length_cons, List.length_nil, sI_len, cond_true, cond_false]; omega) | (simp only [List.length_append, List.length_cons, List.length_nil, sI_len, cond_eq_ite, apply_ite List.length]; split <;> simp only [List.length_append, List.length_cons, List.length_nil, sI_len] <;> omega) | grind))), (by rw [hX156]; exact (hE155.sub (L' := [(0, .pointer (some ⟨srcB, 0, none⟩)), (2, .int .i64 vars), (3, .bool modal), (9, .slice a9A ((a9).length / 2 : Nat) a9C)]) ⟨rfl, rfl, rfl, rfl, trivial⟩)), (by rw [hX156]; exact (St.pickT (Γ := [.blk srcB #[.slice srcA src.length srcC, .int .i64 ((((F_l01Next src x2g 60).2).1 : Nat) : Int), .int .u64 (((F_l01Next src x2g 60).2).2)] 163, .own 94 2 a9A ((a9).length / 2 : Nat) a9C a9]) (Γ' := [.blk srcB #[.slice srcA src.length srcC, .int .i64 ((((F_l01Next src x2g 60).2).1 : Nat) : Int), .int .u64 (((F_l01Next src x2g 60).2).2)] 163, .own 94 2 a9A ((a9).length / 2 : Nat) a9C a9]) (Γ0 := Γ0) hS99 [0, 1] (by decide) rfl rfl))⟩
      ·
       have hE157 := hE89; (try rw [hb90] at hE157); clear hE89
       have hp158 := of_decide_eq_false hb90
       refine q_skip hE157 rfl rfl rfl ?_; intro a159 hE160; clear hE157
       refine q_skip hE160 rfl rfl rfl ?_; intro a161 hE162; clear hE160
       refine q_skip hE162 rfl rfl rfl ?_; intro a163 hE164; clear hE162
       refine q_step (v := .bool false) hE164 (y_pick (b := false) rfl rfl) rfl rfl rfl ?_; intro a165 hE166; clear hE164
       refine c_nil ?_
       have hE167 := hE166.sub (L' := [(0, .pointer (some ⟨srcB, 0, none⟩)), (2, .int .i64 vars), (3, .bool modal), (9, .slice a9A ((a9).length / 2 : Nat) a9C), (31, .bool false)]) ⟨rfl, rfl, rfl, rfl, rfl, trivial⟩; clear hE166
       refine p_tn ?_
       refine c_false hE167 rfl ?_
       refine wp_exit ?_
       refine p_te ?_
       have hX168 : F_l02Any_L1 src vars modal (200 - ((F_l02Draw src srcg size vars modal).1).length + 1) ((F_l02Draw src srcg size vars modal).1) ((F_l01Next src ((F_l02Draw src srcg size vars modal).2) 40).2) = (a9, x2g) := hT76.symm.trans (show F_l02Any_L1b src vars modal (F_l02Any_L1 src vars modal r81) a9 x2g = (a9, x2g) by unfold F_l02Any_L1b; rw [hb90]; first | done | rfl)
       refine p_te (p_be (p_tn ?_))
       exact ⟨a9A, a9C, (by rw [hX168]; exact (show 2 ≤ a9.length from (by first | omega | (simp only [sS_len, sL_len]; omega) | (simp only [List.length_replicate, sI_len]; omega) | (simp only [List.length_append, List.length_cons, List.length_nil, sI_len, cond_true, cond_false]; omega) | (simp only [List.length_append, List.length_cons, List.length_nil, sI_len, cond_eq_ite, apply_ite List.length]; split <;> simp only [List.length_append, List.length_cons, List.length_nil, sI_len] <;> omega) | grind))), (by rw [hX168]; exact (show a9.length ≤ 100 from (by first | omega | (simp only [sS_len, sL_len]; omega) | (simp only [List.length_replicate, sI_len]; omega) | (simp only [List.length_append, List.length_cons, List.length_nil, sI_len, cond_true, cond_false]; omega) | (simp only [List.length_append, List.length_cons, List.length_nil, sI_len, cond_eq_ite, apply_ite List.length]; split <;> simp only [List.length_append, List.length_cons, List.length_nil, sI_len] <;> omega) | grind))), (by rw [hX168]; exact (show a9.length % 2 = 0 from (by first | omega | (simp only [sS_len, sL_len]; omega) | (simp only [List.length_replicate, sI_len]; omega) | (simp only [List.length_append, List.length_cons, List.length_nil, sI_len, cond_true, cond_false]; omega) | (simp only [List.length_append, List.length_cons, List.length_nil, sI_len, cond_eq_ite, apply_ite List.length]; split <;> simp only [List.length_append, List.length_cons, List.length_nil, sI_len] <;> omega) | grind))), (by rw [hX168]; exact (hE167.sub (L' := [(0, .pointer (some ⟨srcB, 0, none⟩)), (2, .int .i64 vars), (3, .bool modal), (9, .slice a9A ((a9).length / 2 : Nat) a9C)]) ⟨rfl, rfl, rfl, rfl, trivial⟩)), (by rw [hX168]; exact (St.pickT (Γ := [.blk srcB #[.slice srcA src.length srcC, .int .i64 ((x2g.1 : Nat) : Int), .int .u64 x2g.2] 163, .own 94 2 a9A ((a9).length / 2 : Nat) a9C a9]) (Γ' := [.blk srcB #[.slice srcA src.length srcC, .int .i64 ((x2g.1 : Nat) : Int), .int .u64 x2g.2] 163, .own 94 2 a9A ((a9).length / 2 : Nat) a9C a9]) (Γ0 := Γ0) hS75 [0, 1] (by decide) rfl rfl))⟩
    ·
     rintro a169 w170 ⟨a9A_71, a9C_71, hi174, hi175, hi176, hE171, hS172⟩; clear hE70 hS31
     refine p_bn ?_
     refine p_tn ?_
     refine c_seq ?_
     refine c_reg ?_
     refine q_step (v := .slice a9A_71 (((F_l02Any_L1 src vars modal (200 - ((F_l02Draw src srcg size vars modal).1).length + 1) ((F_l02Draw src srcg size vars modal).1) ((F_l01Next src ((F_l02Draw src srcg size vars modal).2) 40).2)).1).length / 2 : Nat) a9C_71) hE171 (y_move rfl) rfl rfl rfl ?_; intro a177 hE178; clear hE171
     refine q_step (v := .slice a9A_71 (((F_l02Any_L1 src vars modal (200 - ((F_l02Draw src srcg size vars modal).1).length + 1) ((F_l02Draw src srcg size vars modal).1) ((F_l01Next src ((F_l02Draw src srcg size vars modal).2) 40).2)).1).length / 2 : Nat) a9C_71) hE178 (y_assign rfl) rfl rfl rfl ?_; intro a179 hE180; clear hE178
     refine c_nil ?_
     have hE181 := hE180.sub (L' := [(8, .slice a9A_71 (((F_l02Any_L1 src vars modal (200 - ((F_l02Draw src srcg size vars modal).1).length + 1) ((F_l02Draw src srcg size vars modal).1) ((F_l01Next src ((F_l02Draw src srcg size vars modal).2) 40).2)).1).length / 2 : Nat) a9C_71)]) ⟨rfl, trivial⟩; clear hE180
     refine p_tn ?_
     refine wp_ret ?_
     have hF : F_l02Any src srcg size vars modal = ((F_l02Any_L1 src vars modal (200 - ((F_l02Draw src srcg size vars modal).1).length + 1) ((F_l02Draw src srcg size vars modal).1) ((F_l01Next src ((F_l02Draw src srcg size vars modal).2) 40).2)).1, (F_l02Any_L1 src vars modal (200 - ((F_l02Draw src srcg size vars modal).1).length + 1) ((F_l02Draw src srcg size vars modal).1) ((F_l01Next src ((F_l02Draw src srcg size vars modal).2) 40).2)).2) := by unfold F_l02Any; rw [ht68, ht41]; first | done | rfl
     refine c_ret1 hE181 rfl rfl ?_
     have hS9 := (St.pickT (Γ := [.blk srcB #[.slice srcA src.length srcC, .int .i64 ((((F_l02Any_L1 src vars modal (200 - ((F_l02Draw src srcg size vars modal).1).length + 1) ((F_l02Draw src srcg size vars modal).1) ((F_l01Next src ((F_l02Draw src srcg size vars modal).2) 40).2)).2).1 : Nat) : Int), .int .u64 (((F_l02Any_L1 src vars modal (200 - ((F_l02Draw src srcg size vars modal).1).length + 1) ((F_l02Draw src srcg size vars modal).1) ((F_l01Next src ((F_l02Draw src srcg size vars modal).2) 40).2)).2).2)] 163, .own 94 2 a9A_71 (((F_l02Any_L1 src vars modal (200 - ((F_l02Draw src srcg size vars modal).1).length + 1) ((F_l02Draw src srcg size vars modal).1) ((F_l01Next src ((F_l02Draw src srcg size vars modal).2) 40).2)).1).length / 2 : Nat) a9C_71 ((F_l02Any_L1 src vars modal (200 - ((F_l02Draw src srcg size vars modal).1).length + 1) ((F_l02Draw src srcg size vars modal).1) ((F_l01Next src ((F_l02Draw src srcg size vars modal).2) 40).2)).1)]) (Γ' := [.own 94 2 a9A_71 (((F_l02Any_L1 src vars modal (200 - ((F_l02Draw src srcg size vars modal).1).length + 1) ((F_l02Draw src srcg size vars modal).1) ((F_l01Next src ((F_l02Draw src srcg size vars modal).2) 40).2)).1).length / 2 : Nat) a9C_71 ((F_l02Any_L1 src vars modal (200 - ((F_l02Draw src srcg size vars modal).1).length + 1) ((F_l02Draw src srcg size vars modal).1) ((F_l01Next src ((F_l02Draw src srcg size vars modal).2) 40).2)).1), .blk srcB #[.slice srcA src.length srcC, .int .i64 ((((F_l02Any_L1 src vars modal (200 - ((F_l02Draw src srcg size vars modal).1).length + 1) ((F_l02Draw src srcg size vars modal).1) ((F_l01Next src ((F_l02Draw src srcg size vars modal).2) 40).2)).2).1 : Nat) : Int), .int .u64 (((F_l02Any_L1 src vars modal (200 - ((F_l02Draw src srcg size vars modal).1).length + 1) ((F_l02Draw src srcg size vars modal).1) ((F_l01Next src ((F_l02Draw src srcg size vars modal).2) 40).2)).2).2)] 163]) (Γ0 := Γ0) hS172 [1, 0] (by decide) rfl rfl)
     exact ⟨a9A_71, a9C_71, (by rw [hF]), (by rw [hF]; (try dsimp only); exact hS9)⟩
   ·
    have hp182 := of_decide_eq_false ht68
    have hE183 := hE67; rw [ht68] at hE183; clear hE67
    refine wp_skip ?_
    refine p_bn ?_
    refine p_tn ?_
    refine c_seq ?_
    refine c_reg ?_
    refine q_step (v := .slice b19 (((F_l02Draw src srcg size vars modal).1).length / 2 : Nat) c20) hE183 (y_move rfl) rfl rfl rfl ?_; intro a184 hE185; clear hE183
    refine q_step (v := .slice b19 (((F_l02Draw src srcg size vars modal).1).length / 2 : Nat) c20) hE185 (y_assign rfl) rfl rfl rfl ?_; intro a186 hE187; clear hE185
    refine c_nil ?_
    have hE188 := hE187.sub (L' := [(8, .slice b19 (((F_l02Draw src srcg size vars modal).1).length / 2 : Nat) c20)]) ⟨rfl, trivial⟩; clear hE187
    refine p_tn ?_
    refine wp_ret ?_
    have hF : F_l02Any src srcg size vars modal = ((F_l02Draw src srcg size vars modal).1, (F_l01Next src ((F_l02Draw src srcg size vars modal).2) 40).2) := by unfold F_l02Any; rw [ht68, ht41]; first | done | rfl
    refine c_ret1 hE188 rfl rfl ?_
    have hS9 := (St.pickT (Γ := [.blk srcB #[.slice srcA src.length srcC, .int .i64 ((((F_l01Next src ((F_l02Draw src srcg size vars modal).2) 40).2).1 : Nat) : Int), .int .u64 (((F_l01Next src ((F_l02Draw src srcg size vars modal).2) 40).2).2)] 163, .own 94 2 b19 (((F_l02Draw src srcg size vars modal).1).length / 2 : Nat) c20 ((F_l02Draw src srcg size vars modal).1)]) (Γ' := [.own 94 2 b19 (((F_l02Draw src srcg size vars modal).1).length / 2 : Nat) c20 ((F_l02Draw src srcg size vars modal).1), .blk srcB #[.slice srcA src.length srcC, .int .i64 ((((F_l01Next src ((F_l02Draw src srcg size vars modal).2) 40).2).1 : Nat) : Int), .int .u64 (((F_l01Next src ((F_l02Draw src srcg size vars modal).2) 40).2).2)] 163]) (Γ0 := Γ0) hS31 [1, 0] (by decide) rfl rfl)
    exact ⟨b19, c20, (by rw [hF]), (by rw [hF]; (try dsimp only); exact hS9)⟩
theorem l02Any_L1_len {src : List Int} (hg : ∀ m : Int, 0 ≤ gI src m) (vars : Int) (modal : Bool) (hv : 1 ≤ vars) : ∀ (r : Nat) (x : List Int) (g : Nat × Int), 2 ≤ x.length → x.length ≤ 100 → x.length % 2 = 0 → 2 ≤ (F_l02Any_L1 src vars modal r x g).1.length ∧ (F_l02Any_L1 src vars modal r x g).1.length ≤ 100 ∧ (F_l02Any_L1 src vars modal r x g).1.length % 2 = 0 := by
  intro r
  induction r with
  | zero => intro x g h1 h2 h3; exact ⟨h1, h2, h3⟩
  | succ r ih =>
    intro x g h1 h2 h3
    show 2 ≤ (F_l02Any_L1b src vars modal (F_l02Any_L1 src vars modal r) x g).1.length ∧ (F_l02Any_L1b src vars modal (F_l02Any_L1 src vars modal r) x g).1.length ≤ 100 ∧ (F_l02Any_L1b src vars modal (F_l02Any_L1 src vars modal r) x g).1.length % 2 = 0
    unfold F_l02Any_L1b
    by_cases hb : ((x.length / 2 : Nat) : Int) ≤ 40
    · rw [decide_eq_true hb, cond_true]
      cases decide (0 < (F_l01Next src g 60).1)
      · rw [cond_false]; exact ⟨h1, h2, h3⟩
      · rw [cond_true]
        have hd := l02Draw_len hg (F_l01Next src (F_l01Next src g 60).2 3).2 6 vars modal (by omega) (by omega) hv
        refine ih _ _ ?_ ?_ ?_ <;> rw [l02Pair_len] <;> omega
    · rw [decide_eq_false hb, cond_false]; exact ⟨h1, h2, h3⟩
theorem l02Any_len {src : List Int} (hg : ∀ m : Int, 0 ≤ gI src m) (g : Nat × Int) (size vars : Int) (modal : Bool) (h1 : 1 ≤ size) (h2 : size ≤ 20) (hv : 1 ≤ vars) : (F_l02Any src g size vars modal).1.length ≤ 100 ∧ (F_l02Any src g size vars modal).1.length % 2 = 0 := by
  have hd := l02Draw_len hg g size vars modal h1 (by omega) hv
  unfold F_l02Any
  cases decide ((F_l01Next src (F_l02Draw src g size vars modal).2 40).1 = 0)
  · rw [cond_false]
    cases decide ((F_l01Next src (F_l02Draw src g size vars modal).2 40).1 = 1)
    · rw [cond_false]; exact ⟨by show (F_l02Draw src g size vars modal).1.length ≤ _; omega, hd.2.2⟩
    · rw [cond_true]
      have h := l02Any_L1_len hg vars modal hv (200 - (F_l02Draw src g size vars modal).1.length + 1) (F_l02Draw src g size vars modal).1 (F_l01Next src (F_l02Draw src g size vars modal).2 40).2 hd.1 (by omega) hd.2.2
      exact h.2
  · rw [cond_true]
    have h := l02Bend_len hg (F_l01Next src (F_l02Draw src g size vars modal).2 40).2 (F_l02Draw src g size vars modal).1 hd.1 hd.2.2
    exact ⟨by show (F_l02Bend src _ _).1.length ≤ _; omega, h.2⟩
def F_s_DrawJoinFormulas (code : List Int) : (Int) × (List Int) × (List Int) :=
  bif (decide (((F_l01Next code ((F_l01Next code (F_l01From code) 3).2) 20).1) = 0)) then ((F_l01Pick code ((F_l01Next code ((F_l01Next code (F_l01From code) 3).2) 20).2) ([-1, 1, 5, 7])).1, (F_l02Any code ((F_l01Pick code ((F_l01Next code ((F_l01Next code (F_l01From code) 3).2) 20).2) ([-1, 1, 5, 7])).2) 20 6 true).1, (F_l02Any code ((F_l02Any code ((F_l01Pick code ((F_l01Next code ((F_l01Next code (F_l01From code) 3).2) 20).2) ([-1, 1, 5, 7])).2) 20 6 true).2) 20 6 true).1) else (2 + ((F_l01Next code (F_l01From code) 3).1), (F_l02Any code ((F_l01Next code ((F_l01Next code (F_l01From code) 3).2) 20).2) 20 6 true).1, (F_l02Any code ((F_l02Any code ((F_l01Next code ((F_l01Next code (F_l01From code) 3).2) 20).2) 20 6 true).2) 20 6 true).1)
theorem cf_s_DrawJoinFormulas (args : Array Value) (w : World) : (callFunc 60 args).run Try.prog w = .ok (.enter 60 args) w := by kernel_rfl
set_option maxRecDepth 100000 in
theorem c_s_DrawJoinFormulas (codeA : Option Addr) (codeN codeC : Nat) (code : List Int) (w : World) (codeR : RdB w codeA codeN codeC code) :
    Calls Try.prog 60 #[.slice codeA code.length codeC] w (Ret fun v w' => ∃ b1 : Option Addr, ∃ c1 : Nat, ∃ b2 : Option Addr, ∃ c2 : Nat, v = .tuple #[.int .i64 ((F_s_DrawJoinFormulas code).1), .slice b1 (((F_s_DrawJoinFormulas code).2.1).length / 2 : Nat) c1, .slice b2 (((F_s_DrawJoinFormulas code).2.2).length / 2 : Nat) c2] ∧ St w w' (.own 94 2 b1 (((F_s_DrawJoinFormulas code).2.1).length / 2 : Nat) c1 ((F_s_DrawJoinFormulas code).2.1) :: .own 94 2 b2 (((F_s_DrawJoinFormulas code).2.2).length / 2 : Nat) c2 ((F_s_DrawJoinFormulas code).2.2) :: [])) := by
  obtain rfl : codeN = code.length := codeR.len
  have codeLe := codeR.le
  have hS := St.nil w
  refine enter (args := [.slice codeA code.length codeC]) Try.func60 rfl rfl ?_
  rw [Try.ntmps60]; intro a hE
  have hE := hE.sub (L' := [(0, .slice codeA code.length codeC)]) ⟨rfl, trivial⟩
  refine c_seq ?_
  refine c_reg ?_
  refine q_step (v := .int .i64 0) hE (y_assign rfl) rfl rfl rfl ?_; intro a1 hE2; clear hE
  refine q_step (v := .slice none 0 0) hE2 (y_assign rfl) rfl rfl rfl ?_; intro a3 hE4; clear hE2
  refine q_step (v := .slice none 0 0) hE4 (y_assign rfl) rfl rfl rfl ?_; intro a5 hE6; clear hE4
  refine c_nil ?_
  have hE7 := hE6.sub (L' := [(0, .slice codeA code.length codeC)]) ⟨rfl, trivial⟩; clear hE6
  refine p_tn ?_
  refine c_seq ?_
  refine c_reg ?_
  refine q_step (v := .slice codeA code.length codeC) hE7 (y_move rfl) rfl rfl rfl ?_; intro a8 hE9; clear hE7
  refine l_step hE9 rfl (l_call (f := 122) (argv := [.slice codeA code.length codeC]) hE9 (fun _ => cf_l01From _ _) rfl rfl (c_l01From codeA code.length codeC code w (codeR.ext hS.ext)) ?_)
  rintro _ w11 ⟨b16, rfl, ho17⟩ a12 hE13; clear hE9
  have he15 := ho17.ext
  have hS14 := St.comp hS ho17 rfl; clear hS
  simp only [List.cons_append, List.nil_append] at hS14
  refine q_step (v := .pointer (some ⟨b16, 0, none⟩)) hE13 (y_assign rfl) rfl rfl rfl ?_; intro a18 hE19; clear hE13
  refine c_nil ?_
  have hE20 := hE19.sub (L' := [(5, .pointer (some ⟨b16, 0, none⟩))]) ⟨rfl, trivial⟩; clear hE19
  refine p_tn ?_
  refine c_seq ?_
  refine c_reg ?_
  refine q_step (v := .pointer (some ⟨b16, 0, none⟩)) hE20 (y_move rfl) rfl rfl rfl ?_; intro a21 hE22; clear hE20
  have hS29 := (St.pick (Γ' := [.blk b16 #[.slice codeA code.length codeC, .int .i64 (((F_l01From code).1 : Nat) : Int), .int .u64 ((F_l01From code).2)] 163]) hS14 [0] (by decide) rfl); clear hS14
  refine l_step hE22 rfl (l_call (f := 123) (argv := [.pointer (some ⟨b16, 0, none⟩), .int .i64 3]) hE22 (fun _ => cf_l01Next0 _ _) rfl rfl (c_l01Next b16 codeA code.length codeC code (F_l01From code) 3 w11 w [] hS29 codeR) ?_)
  rintro _ w24 ⟨rfl, hS27⟩ a25 hE26; clear hE22 hS29
  have hf30 := l01Next_bd codeR (F_l01From code) 3
  refine q_step (v := .int .i64 (2 + ((F_l01Next code (F_l01From code) 3).1))) hE26 (y_add rfl rfl ⟨(by omega), (by omega)⟩) rfl rfl rfl ?_; intro a31 hE32; clear hE26
  refine q_step (v := .int .i64 (2 + ((F_l01Next code (F_l01From code) 3).1))) hE32 (y_assign rfl) rfl rfl rfl ?_; intro a33 hE34; clear hE32
  refine c_nil ?_
  have hE35 := hE34.sub (L' := [(5, .pointer (some ⟨b16, 0, none⟩)), (6, .int .i64 (2 + ((F_l01Next code (F_l01From code) 3).1)))]) ⟨rfl, rfl, trivial⟩; clear hE34
  refine p_tn ?_
  refine c_seq ?_
  refine c_seq ?_
  refine c_reg ?_
  refine q_step (v := .pointer (some ⟨b16, 0, none⟩)) hE35 (y_move rfl) rfl rfl rfl ?_; intro a36 hE37; clear hE35
  have hS44 := (St.pick (Γ' := [.blk b16 #[.slice codeA code.length codeC, .int .i64 ((((F_l01Next code (F_l01From code) 3).2).1 : Nat) : Int), .int .u64 (((F_l01Next code (F_l01From code) 3).2).2)] 163]) hS27 [0] (by decide) rfl); clear hS27
  refine l_step hE37 rfl (l_call (f := 123) (argv := [.pointer (some ⟨b16, 0, none⟩), .int .i64 20]) hE37 (fun _ => cf_l01Next0 _ _) rfl rfl (c_l01Next b16 codeA code.length codeC code ((F_l01Next code (F_l01From code) 3).2) 20 w24 w [] hS44 codeR) ?_)
  rintro _ w39 ⟨rfl, hS42⟩ a40 hE41; clear hE37 hS44
  have hf45 := l01Next_bd codeR ((F_l01Next code (F_l01From code) 3).2) 20
  refine q_step (v := .bool (decide (((F_l01Next code ((F_l01Next code (F_l01From code) 3).2) 20).1) = 0))) hE41 (y_eql rfl rfl) rfl rfl rfl ?_; intro a46 hE47; clear hE41
  refine c_nil ?_
  have hE48 := hE47.sub (L' := [(5, .pointer (some ⟨b16, 0, none⟩)), (6, .int .i64 (2 + ((F_l01Next code (F_l01From code) 3).1))), (15, .bool (decide (((F_l01Next code ((F_l01Next code (F_l01From code) 3).2) 20).1) = 0)))]) ⟨rfl, rfl, rfl, trivial⟩; clear hE47
  refine p_tn ?_
  refine c_cond hE48 rfl (fun ht49 => ?_) (fun ht49 => ?_)
  ·
   have hp50 := of_decide_eq_true ht49
   have hE51 := hE48; rw [ht49] at hE51; clear hE48
   refine c_reg ?_
   refine q_step (v := .pointer (some ⟨b16, 0, none⟩)) hE51 (y_move rfl) rfl rfl rfl ?_; intro a52 hE53; clear hE51
   refine l_step hE53 rfl (l_lit (e := 2) (s := 1) (xs := [-1, 1, 5, 7]) (vs := [.int .i64 (-1), .int .i64 1, .int .i64 5, .int .i64 7]) hS42 hE53 rfl (fun _ => by kernel_rfl) rfl rfl rfl ?_)
   intro b54 w55 hS58 he59 a56 hE57; clear hS42 hE53
   have hS66 := (St.pick (Γ' := [.own 2 1 (some ⟨b54, 0, none⟩) 4 4 ([-1, 1, 5, 7]), .blk b16 #[.slice codeA code.length codeC, .int .i64 ((((F_l01Next code ((F_l01Next code (F_l01From code) 3).2) 20).2).1 : Nat) : Int), .int .u64 (((F_l01Next code ((F_l01Next code (F_l01From code) 3).2) 20).2).2)] 163]) hS58 [0, 1] (by decide) rfl); clear hS58
   refine l_step hE57 rfl (l_call (f := 124) (argv := [.pointer (some ⟨b16, 0, none⟩), .slice (some ⟨b54, 0, none⟩) 4 4]) hE57 (fun _ => cf_l01Pick _ _) rfl rfl (c_l01Pick b16 codeA code.length codeC code ((F_l01Next code ((F_l01Next code (F_l01From code) 3).2) 20).2) (some ⟨b54, 0, none⟩) 4 4 ([-1, 1, 5, 7]) w55 w [] hS66 codeR (by simp)) ?_)
   rintro _ w61 ⟨rfl, hS64⟩ a62 hE63; clear hE57 hS66
   refine q_step (v := .int .i64 ((F_l01Pick code ((F_l01Next code ((F_l01Next code (F_l01From code) 3).2) 20).2) ([-1, 1, 5, 7])).1)) hE63 (y_assign rfl) rfl rfl rfl ?_; intro a67 hE68; clear hE63
   refine c_nil ?_
   have hE69 := hE68.sub (L' := [(5, .pointer (some ⟨b16, 0, none⟩)), (6, .int .i64 ((F_l01Pick code ((F_l01Next code ((F_l01Next code (F_l01From code) 3).2) 20).2) ([-1, 1, 5, 7])).1))]) ⟨rfl, rfl, trivial⟩; clear hE68
   refine p_tn ?_
   refine c_seq ?_
   refine c_reg ?_
   refine q_step (v := .pointer (some ⟨b16, 0, none⟩)) hE69 (y_move rfl) rfl rfl rfl ?_; intro a70 hE71; clear hE69
   have hS78 := (St.pick (Γ' := [.blk b16 #[.slice codeA code.length codeC, .int .i64 ((((F_l01Pick code ((F_l01Next code ((F_l01Next code (F_l01From code) 3).2) 20).2) ([-1, 1, 5, 7])).2).1 : Nat) : Int), .int .u64 (((F_l01Pick code ((F_l01Next code ((F_l01Next code (F_l01From code) 3).2) 20).2) ([-1, 1, 5, 7])).2).2)] 163, .own 2 1 (some ⟨b54, 0, none⟩) 4 4 ([-1, 1, 5, 7])]) hS64 [1, 0] (by decide) rfl); clear hS64
   refine l_step hE71 rfl (l_call (f := 125) (argv := [.pointer (some ⟨b16, 0, none⟩), .int .i64 20, .int .i64 6, .bool true]) hE71 (fun _ => cf_l02Any _ _) rfl rfl (c_l02Any b16 codeA code.length codeC code ((F_l01Pick code ((F_l01Next code ((F_l01Next code (F_l01From code) 3).2) 20).2) ([-1, 1, 5, 7])).2) 20 6 true w61 w [.own 2 1 (some ⟨b54, 0, none⟩) 4 4 ([-1, 1, 5, 7])] hS78 codeR (by omega) (by omega) (by omega)) ?_)
   rintro _ w73 ⟨b79, c80, rfl, hS76⟩ a74 hE75; clear hE71 hS78
   have hf81 := l02Any_len (fun m => (codeR.bd m).1) ((F_l01Pick code ((F_l01Next code ((F_l01Next code (F_l01From code) 3).2) 20).2) ([-1, 1, 5, 7])).2) 20 6 true (by omega) (by omega) (by omega)
   refine q_step (v := .slice b79 (((F_l02Any code ((F_l01Pick code ((F_l01Next code ((F_l01Next code (F_l01From code) 3).2) 20).2) ([-1, 1, 5, 7])).2) 20 6 true).1).length / 2 : Nat) c80) hE75 (y_assign rfl) rfl rfl rfl ?_; intro a82 hE83; clear hE75
   refine c_nil ?_
   have hE84 := hE83.sub (L' := [(5, .pointer (some ⟨b16, 0, none⟩)), (6, .int .i64 ((F_l01Pick code ((F_l01Next code ((F_l01Next code (F_l01From code) 3).2) 20).2) ([-1, 1, 5, 7])).1)), (7, .slice b79 (((F_l02Any code ((F_l01Pick code ((F_l01Next code ((F_l01Next code (F_l01From code) 3).2) 20).2) ([-1, 1, 5, 7])).2) 20 6 true).1).length / 2 : Nat) c80)]) ⟨rfl, rfl, rfl, trivial⟩; clear hE83
   refine p_tn ?_
   refine c_seq ?_
   refine c_reg ?_
   refine q_step (v := .int .i64 ((F_l01Pick code ((F_l01Next code ((F_l01Next code (F_l01From code) 3).2) 20).2) ([-1, 1, 5, 7])).1)) hE84 (y_move rfl) rfl rfl rfl ?_; intro a85 hE86; clear hE84
   refine q_step (v := .slice b79 (((F_l02Any code ((F_l01Pick code ((F_l01Next code ((F_l01Next code (F_l01From code) 3).2) 20).2) ([-1, 1, 5, 7])).2) 20 6 true).1).length / 2 : Nat) c80) hE86 (y_move rfl) rfl rfl rfl ?_; intro a87 hE88; clear hE86
   refine q_step (v := .pointer (some ⟨b16, 0, none⟩)) hE88 (y_move rfl) rfl rfl rfl ?_; intro a89 hE90; clear hE88
   have hS97 := (St.pick (Γ' := [.blk b16 #[.slice codeA code.length codeC, .int .i64 ((((F_l02Any code ((F_l01Pick code ((F_l01Next code ((F_l01Next code (F_l01From code) 3).2) 20).2) ([-1, 1, 5, 7])).2) 20 6 true).2).1 : Nat) : Int), .int .u64 (((F_l02Any code ((F_l01Pick code ((F_l01Next code ((F_l01Next code (F_l01From code) 3).2) 20).2) ([-1, 1, 5, 7])).2) 20 6 true).2).2)] 163, .own 94 2 b79 (((F_l02Any code ((F_l01Pick code ((F_l01Next code ((F_l01Next code (F_l01From code) 3).2) 20).2) ([-1, 1, 5, 7])).2) 20 6 true).1).length / 2 : Nat) c80 ((F_l02Any code ((F_l01Pick code ((F_l01Next code ((F_l01Next code (F_l01From code) 3).2) 20).2) ([-1, 1, 5, 7])).2) 20 6 true).1), .own 2 1 (some ⟨b54, 0, none⟩) 4 4 ([-1, 1, 5, 7])]) hS76 [1, 0, 2] (by decide) rfl); clear hS76
   refine l_step hE90 rfl (l_call (f := 125) (argv := [.pointer (some ⟨b16, 0, none⟩), .int .i64 20, .int .i64 6, .bool true]) hE90 (fun _ => cf_l02Any _ _) rfl rfl (c_l02Any b16 codeA code.length codeC code ((F_l02Any code ((F_l01Pick code ((F_l01Next code ((F_l01Next code (F_l01From code) 3).2) 20).2) ([-1, 1, 5, 7])).2) 20 6 true).2) 20 6 true w73 w [.own 94 2 b79 (((F_l02Any code ((F_l01Pick code ((F_l01Next code ((F_l01Next code (F_l01From code) 3).2) 20).2) ([-1, 1, 5, 7])).2) 20 6 true).1).length / 2 : Nat) c80 ((F_l02Any code ((F_l01Pick code ((F_l01Next code ((F_l01Next code (F_l01From code) 3).2) 20).2) ([-1, 1, 5, 7])).2) 20 6 true).1), .own 2 1 (some ⟨b54, 0, none⟩) 4 4 ([-1, 1, 5, 7])] hS97 codeR (by omega) (by omega) (by omega)) ?_)
   rintro _ w92 ⟨b98, c99, rfl, hS95⟩ a93 hE94; clear hE90 hS97
   have hf100 := l02Any_len (fun m => (codeR.bd m).1) ((F_l02Any code ((F_l01Pick code ((F_l01Next code ((F_l01Next code (F_l01From code) 3).2) 20).2) ([-1, 1, 5, 7])).2) 20 6 true).2) 20 6 true (by omega) (by omega) (by omega)
   refine q_step (v := .int .i64 ((F_l01Pick code ((F_l01Next code ((F_l01Next code (F_l01From code) 3).2) 20).2) ([-1, 1, 5, 7])).1)) hE94 (y_assign rfl) rfl rfl rfl ?_; intro a101 hE102; clear hE94
   refine q_step (v := .slice b79 (((F_l02Any code ((F_l01Pick code ((F_l01Next code ((F_l01Next code (F_l01From code) 3).2) 20).2) ([-1, 1, 5, 7])).2) 20 6 true).1).length / 2 : Nat) c80) hE102 (y_assign rfl) rfl rfl rfl ?_; intro a103 hE104; clear hE102
   refine q_step (v := .slice b98 (((F_l02Any code ((F_l02Any code ((F_l01Pick code ((F_l01Next code ((F_l01Next code (F_l01From code) 3).2) 20).2) ([-1, 1, 5, 7])).2) 20 6 true).2) 20 6 true).1).length / 2 : Nat) c99) hE104 (y_assign rfl) rfl rfl rfl ?_; intro a105 hE106; clear hE104
   refine c_nil ?_
   have hE107 := hE106.sub (L' := [(2, .int .i64 ((F_l01Pick code ((F_l01Next code ((F_l01Next code (F_l01From code) 3).2) 20).2) ([-1, 1, 5, 7])).1)), (3, .slice b79 (((F_l02Any code ((F_l01Pick code ((F_l01Next code ((F_l01Next code (F_l01From code) 3).2) 20).2) ([-1, 1, 5, 7])).2) 20 6 true).1).length / 2 : Nat) c80), (4, .slice b98 (((F_l02Any code ((F_l02Any code ((F_l01Pick code ((F_l01Next code ((F_l01Next code (F_l01From code) 3).2) 20).2) ([-1, 1, 5, 7])).2) 20 6 true).2) 20 6 true).1).length / 2 : Nat) c99)]) ⟨rfl, rfl, rfl, trivial⟩; clear hE106
   refine p_tn ?_
   refine wp_ret ?_
   have hF : F_s_DrawJoinFormulas code = ((F_l01Pick code ((F_l01Next code ((F_l01Next code (F_l01From code) 3).2) 20).2) ([-1, 1, 5, 7])).1, (F_l02Any code ((F_l01Pick code ((F_l01Next code ((F_l01Next code (F_l01From code) 3).2) 20).2) ([-1, 1, 5, 7])).2) 20 6 true).1, (F_l02Any code ((F_l02Any code ((F_l01Pick code ((F_l01Next code ((F_l01Next code (F_l01From code) 3).2) 20).2) ([-1, 1, 5, 7])).2) 20 6 true).2) 20 6 true).1) := by unfold F_s_DrawJoinFormulas; rw [ht49]; first | done | rfl
   refine c_ret3 hE107 rfl rfl rfl rfl ?_
   have hS9 := (St.pick (Γ' := [.own 94 2 b79 (((F_l02Any code ((F_l01Pick code ((F_l01Next code ((F_l01Next code (F_l01From code) 3).2) 20).2) ([-1, 1, 5, 7])).2) 20 6 true).1).length / 2 : Nat) c80 ((F_l02Any code ((F_l01Pick code ((F_l01Next code ((F_l01Next code (F_l01From code) 3).2) 20).2) ([-1, 1, 5, 7])).2) 20 6 true).1), .own 94 2 b98 (((F_l02Any code ((F_l02Any code ((F_l01Pick code ((F_l01Next code ((F_l01Next code (F_l01From code) 3).2) 20).2) ([-1, 1, 5, 7])).2) 20 6 true).2) 20 6 true).1).length / 2 : Nat) c99 ((F_l02Any code ((F_l02Any code ((F_l01Pick code ((F_l01Next code ((F_l01Next code (F_l01From code) 3).2) 20).2) ([-1, 1, 5, 7])).2) 20 6 true).2) 20 6 true).1)]) hS95 [2, 0] (by decide) rfl)
   exact ⟨b79, c80, b98, c99, (by rw [hF]; first | done | (dsimp only; done) | rfl), (by rw [hF]; (try dsimp only); exact hS9)⟩
  ·
   have hp108 := of_decide_eq_false ht49
   have hE109 := hE48; rw [ht49] at hE109; clear hE48
   refine wp_skip ?_
   refine p_tn ?_
   refine c_seq ?_
   refine c_reg ?_
   refine q_step (v := .pointer (some ⟨b16, 0, none⟩)) hE109 (y_move rfl) rfl rfl rfl ?_; intro a110 hE111; clear hE109
   have hS118 := (St.pick (Γ' := [.blk b16 #[.slice codeA code.length codeC, .int .i64 ((((F_l01Next code ((F_l01Next code (F_l01From code) 3).2) 20).2).1 : Nat) : Int), .int .u64 (((F_l01Next code ((F_l01Next code (F_l01From code) 3).2) 20).2).2)] 163]) hS42 [0] (by decide) rfl); clear hS42
   refine l_step hE111 rfl (l_call (f := 125) (argv := [.pointer (some ⟨b16, 0, none⟩), .int .i64 20, .int .i64 6, .bool true]) hE111 (fun _ => cf_l02Any _ _) rfl rfl (c_l02Any b16 codeA code.length codeC code ((F_l01Next code ((F_l01Next code (F_l01From code) 3).2) 20).2) 20 6 true w39 w [] hS118 codeR (by omega) (by omega) (by omega)) ?_)
   rintro _ w113 ⟨b119, c120, rfl, hS116⟩ a114 hE115; clear hE111 hS118
   have hf121 := l02Any_len (fun m => (codeR.bd m).1) ((F_l01Next code ((F_l01Next code (F_l01From code) 3).2) 20).2) 20 6 true (by omega) (by omega) (by omega)
   refine q_step (v := .slice b119 (((F_l02Any code ((F_l01Next code ((F_l01Next code (F_l01From code) 3).2) 20).2) 20 6 true).1).length / 2 : Nat) c120) hE115 (y_assign rfl) rfl rfl rfl ?_; intro a122 hE123; clear hE115
   refine c_nil ?_
   have hE124 := hE123.sub (L' := [(5, .pointer (some ⟨b16, 0, none⟩)), (6, .int .i64 (2 + ((F_l01Next code (F_l01From code) 3).1))), (7, .slice b119 (((F_l02Any code ((F_l01Next code ((F_l01Next code (F_l01From code) 3).2) 20).2) 20 6 true).1).length / 2 : Nat) c120)]) ⟨rfl, rfl, rfl, trivial⟩; clear hE123
   refine p_tn ?_
   refine c_seq ?_
   refine c_reg ?_
   refine q_step (v := .int .i64 (2 + ((F_l01Next code (F_l01From code) 3).1))) hE124 (y_move rfl) rfl rfl rfl ?_; intro a125 hE126; clear hE124
   refine q_step (v := .slice b119 (((F_l02Any code ((F_l01Next code ((F_l01Next code (F_l01From code) 3).2) 20).2) 20 6 true).1).length / 2 : Nat) c120) hE126 (y_move rfl) rfl rfl rfl ?_; intro a127 hE128; clear hE126
   refine q_step (v := .pointer (some ⟨b16, 0, none⟩)) hE128 (y_move rfl) rfl rfl rfl ?_; intro a129 hE130; clear hE128
   have hS137 := (St.pick (Γ' := [.blk b16 #[.slice codeA code.length codeC, .int .i64 ((((F_l02Any code ((F_l01Next code ((F_l01Next code (F_l01From code) 3).2) 20).2) 20 6 true).2).1 : Nat) : Int), .int .u64 (((F_l02Any code ((F_l01Next code ((F_l01Next code (F_l01From code) 3).2) 20).2) 20 6 true).2).2)] 163, .own 94 2 b119 (((F_l02Any code ((F_l01Next code ((F_l01Next code (F_l01From code) 3).2) 20).2) 20 6 true).1).length / 2 : Nat) c120 ((F_l02Any code ((F_l01Next code ((F_l01Next code (F_l01From code) 3).2) 20).2) 20 6 true).1)]) hS116 [1, 0] (by decide) rfl); clear hS116
   refine l_step hE130 rfl (l_call (f := 125) (argv := [.pointer (some ⟨b16, 0, none⟩), .int .i64 20, .int .i64 6, .bool true]) hE130 (fun _ => cf_l02Any _ _) rfl rfl (c_l02Any b16 codeA code.length codeC code ((F_l02Any code ((F_l01Next code ((F_l01Next code (F_l01From code) 3).2) 20).2) 20 6 true).2) 20 6 true w113 w [.own 94 2 b119 (((F_l02Any code ((F_l01Next code ((F_l01Next code (F_l01From code) 3).2) 20).2) 20 6 true).1).length / 2 : Nat) c120 ((F_l02Any code ((F_l01Next code ((F_l01Next code (F_l01From code) 3).2) 20).2) 20 6 true).1)] hS137 codeR (by omega) (by omega) (by omega)) ?_)
   rintro _ w132 ⟨b138, c139, rfl, hS135⟩ a133 hE134; clear hE130 hS137
   have hf140 := l02Any_len (fun m => (codeR.bd m).1) ((F_l02Any code ((F_l01Next code ((F_l01Next code (F_l01From code) 3).2) 20).2) 20 6 true).2) 20 6 true (by omega) (by omega) (by omega)
   refine q_step (v := .int .i64 (2 + ((F_l01Next code (F_l01From code) 3).1))) hE134 (y_assign rfl) rfl rfl rfl ?_; intro a141 hE142; clear hE134
   refine q_step (v := .slice b119 (((F_l02Any code ((F_l01Next code ((F_l01Next code (F_l01From code) 3).2) 20).2) 20 6 true).1).length / 2 : Nat) c120) hE142 (y_assign rfl) rfl rfl rfl ?_; intro a143 hE144; clear hE142
   refine q_step (v := .slice b138 (((F_l02Any code ((F_l02Any code ((F_l01Next code ((F_l01Next code (F_l01From code) 3).2) 20).2) 20 6 true).2) 20 6 true).1).length / 2 : Nat) c139) hE144 (y_assign rfl) rfl rfl rfl ?_; intro a145 hE146; clear hE144
   refine c_nil ?_
   have hE147 := hE146.sub (L' := [(2, .int .i64 (2 + ((F_l01Next code (F_l01From code) 3).1))), (3, .slice b119 (((F_l02Any code ((F_l01Next code ((F_l01Next code (F_l01From code) 3).2) 20).2) 20 6 true).1).length / 2 : Nat) c120), (4, .slice b138 (((F_l02Any code ((F_l02Any code ((F_l01Next code ((F_l01Next code (F_l01From code) 3).2) 20).2) 20 6 true).2) 20 6 true).1).length / 2 : Nat) c139)]) ⟨rfl, rfl, rfl, trivial⟩; clear hE146
   refine p_tn ?_
   refine wp_ret ?_
   have hF : F_s_DrawJoinFormulas code = (2 + ((F_l01Next code (F_l01From code) 3).1), (F_l02Any code ((F_l01Next code ((F_l01Next code (F_l01From code) 3).2) 20).2) 20 6 true).1, (F_l02Any code ((F_l02Any code ((F_l01Next code ((F_l01Next code (F_l01From code) 3).2) 20).2) 20 6 true).2) 20 6 true).1) := by unfold F_s_DrawJoinFormulas; rw [ht49]; first | done | rfl
   refine c_ret3 hE147 rfl rfl rfl rfl ?_
   have hS9 := (St.pick (Γ' := [.own 94 2 b119 (((F_l02Any code ((F_l01Next code ((F_l01Next code (F_l01From code) 3).2) 20).2) 20 6 true).1).length / 2 : Nat) c120 ((F_l02Any code ((F_l01Next code ((F_l01Next code (F_l01From code) 3).2) 20).2) 20 6 true).1), .own 94 2 b138 (((F_l02Any code ((F_l02Any code ((F_l01Next code ((F_l01Next code (F_l01From code) 3).2) 20).2) 20 6 true).2) 20 6 true).1).length / 2 : Nat) c139 ((F_l02Any code ((F_l02Any code ((F_l01Next code ((F_l01Next code (F_l01From code) 3).2) 20).2) 20 6 true).2) 20 6 true).1)]) hS135 [2, 0] (by decide) rfl)
   exact ⟨b119, c120, b138, c139, (by rw [hF]; first | done | (dsimp only; done) | rfl), (by rw [hF]; (try dsimp only); exact hS9)⟩
theorem DrawJoin_len {code : List Int} (hg : ∀ m : Int, 0 ≤ gI code m) : ((F_s_DrawJoinFormulas code).2.1.length ≤ 100 ∧ (F_s_DrawJoinFormulas code).2.1.length % 2 = 0) ∧ ((F_s_DrawJoinFormulas code).2.2.length ≤ 100 ∧ (F_s_DrawJoinFormulas code).2.2.length % 2 = 0) := by
  unfold F_s_DrawJoinFormulas
  cases decide ((F_l01Next code (F_l01Next code (F_l01From code) 3).2 20).1 = 0)
  · exact ⟨l02Any_len hg _ _ _ _ (by omega) (by omega) (by omega), l02Any_len hg _ _ _ _ (by omega) (by omega) (by omega)⟩
  · exact ⟨l02Any_len hg _ _ _ _ (by omega) (by omega) (by omega), l02Any_len hg _ _ _ _ (by omega) (by omega) (by omega)⟩
end Go.Proofs.Ytkilkfhjfobcdaa
