/- GAC: models and contracts, printed by wip/gen/gen.py -/
import Derived.Test.YtlbonhloeefnmaaKCNGAD
set_option linter.unusedVariables false
set_option linter.unusedSimpArgs false
namespace Go.Proofs.Ytlbonhloeefnmaa
open Go.RowKit
def F_l08Parts_L1b (np : Int) (classes : List Int) (top : Int) (self : Int → List Int → Int → List (List Int) → (List (List Int))) (rec : (List (List Int)) → Int → (List (List Int)) × Int) (found3 : List (List Int)) (k9 : Int) : (List (List Int)) × Int :=
  bif (decide (k9 ≤ top)) then (rec (self np (classes ++ ([k9])) (max top (k9 + 1)) found3) (k9 + 1)) else (found3, k9)
def F_l08Parts_L1 (np : Int) (classes : List Int) (top : Int) (self : Int → List Int → Int → List (List Int) → (List (List Int))) : Nat → (List (List Int)) → Int → (List (List Int)) × Int
  | 0, found3, k9 => (found3, k9)
  | r + 1, found3, k9 => F_l08Parts_L1b np classes top self (F_l08Parts_L1 np classes top self r) found3 k9
def F_l08Parts_b (self : Int → List Int → Int → List (List Int) → (List (List Int))) (np : Int) (classes : List Int) (top : Int) (found : List (List Int)) : List (List Int) :=
  bif (decide ((classes.length : Int) = np)) then (found ++ ([classes])) else ((F_l08Parts_L1 np classes top self (Int.toNat (top + 1 - 0) + 1) found 0).1)
def F_l08Parts_r : Nat → Int → List Int → Int → List (List Int) → (List (List Int))
  | 0 => fun _ _ _ _ => default
  | r + 1 => F_l08Parts_b (F_l08Parts_r r)
def F_l08Parts (np : Int) (classes : List Int) (top : Int) (found : List (List Int)) : List (List Int) := F_l08Parts_r ((np - (classes.length : Int)).toNat + 1) np classes top found
theorem l08Parts_dfs (np : Int) : ∀ (d r : Nat) (classes : List Int) (top : Int) (found : List (List Int)), np - (classes.length : Int) = (d : Int) → 0 ≤ top → d < r → F_l08Parts_r r np classes top found = found ++ Dfs d classes top.toNat := by
  intro d
  induction d with
  | zero =>
    intro r classes top found hd h0 hr
    obtain ⟨r, rfl⟩ : ∃ r', r = r' + 1 := ⟨r - 1, by omega⟩
    show F_l08Parts_b (F_l08Parts_r r) np classes top found = _
    unfold F_l08Parts_b
    rw [decide_eq_true (by omega)]; rfl
  | succ d ih =>
    intro r classes top found hd h0 hr
    obtain ⟨r, rfl⟩ : ∃ r', r = r' + 1 := ⟨r - 1, by omega⟩
    show F_l08Parts_b (F_l08Parts_r r) np classes top found = _
    unfold F_l08Parts_b
    rw [decide_eq_false (by omega), cond_false, rangeLoopLe top (by omega) (fun o k => F_l08Parts_r r np (classes ++ [k]) (max top (k + 1)) o) (F_l08Parts_L1 np classes top (F_l08Parts_r r)) (fun _ _ _ => rfl),
      foldl_ext' _ (fun o (k : Nat) => o ++ Dfs d (classes ++ [(k : Int)]) (max top.toNat (k + 1))) _ _ (fun k _ o => by
        rw [ih r (classes ++ [(k : Int)]) _ o (by rw [app1_len']; omega) (by omega) (by omega)]
        congr 2
        omega), foldl_fm, show (top + 1).toNat = top.toNat + 1 by omega]
    rfl
theorem l08PartsLen : ∀ (r : Nat) (np : Int) (classes : List Int) (top : Int) (found : List (List Int)) (hn : 0 ≤ np ∧ np ≤ 8) (hl : (classes.length : Int) ≤ np) (ht : 0 ≤ top ∧ top ≤ (classes.length : Int)) (hb : found.length + Lf (np - (classes.length : Int)).toNat top.toNat ≤ 10000) (hm : (np - (classes.length : Int)).toNat < r), (F_l08Parts_r r np classes top found).length = found.length + Lf (np - (classes.length : Int)).toNat top.toNat := by
  intro r np classes top found _ hl ht _ hm
  rw [l08Parts_dfs np (np - (classes.length : Int)).toNat r classes top found (by omega) ht.1 hm, List.length_append, Dfs_len]
theorem cf_l08Parts (args : Array Value) (w : World) : (callFunc 189 args).run Try.prog w = .ok (.enter 189 args) w := by kernel_rfl
set_option maxRecDepth 100000 in
theorem cb_l08Parts (self : Int → List Int → Int → List (List Int) → (List (List Int))) (mu : Nat) (hpost : ∀ (np : Int) (classes : List Int) (top : Int) (found : List (List Int)) (hn : 0 ≤ np ∧ np ≤ 8) (hl : (classes.length : Int) ≤ np) (ht : 0 ≤ top ∧ top ≤ (classes.length : Int)) (hb : found.length + Lf (np - (classes.length : Int)).toNat top.toNat ≤ 10000) (hm : (np - (classes.length : Int)).toNat < mu), (self np classes top found).length = found.length + Lf (np - (classes.length : Int)).toNat top.toNat) (np : Int) (classesA : Option Addr) (classesN classesC : Nat) (classes : List Int) (top : Int) (foundA : Option Addr) (foundC : Nat) (foundQ : List Hd) (found : List (List Int)) (w : World) (w0v : World) (Γ0 : List Ent) (hS0 : St w0v w (.own 2 1 classesA classesN classesC classes :: .nest 22 1 (some 2) foundA foundC foundQ found :: Γ0)) (hn : 0 ≤ np ∧ np ≤ 8) (hl : (classes.length : Int) ≤ np) (ht : 0 ≤ top ∧ top ≤ (classes.length : Int)) (hb : found.length + Lf (np - (classes.length : Int)).toNat top.toNat ≤ 10000) (hmu : mu = (np - (classes.length : Int)).toNat) (ih : ∀ (np : Int) (classesA : Option Addr) (classesN classesC : Nat) (classes : List Int) (top : Int) (foundA : Option Addr) (foundC : Nat) (foundQ : List Hd) (found : List (List Int)) (w : World) (w0v : World) (Γ0 : List Ent) (hS0 : St w0v w (.own 2 1 classesA classesN classesC classes :: .nest 22 1 (some 2) foundA foundC foundQ found :: Γ0)) (hn : 0 ≤ np ∧ np ≤ 8) (hl : (classes.length : Int) ≤ np) (ht : 0 ≤ top ∧ top ≤ (classes.length : Int)) (hb : found.length + Lf (np - (classes.length : Int)).toNat top.toNat ≤ 10000) (hdec : (np - (classes.length : Int)).toNat < mu), Calls Try.prog 189 #[.int .i64 np, .slice classesA classesN classesC, .int .i64 top, .slice foundA (found).length foundC] w (Ret fun v w' => ∃ b1 : Option Addr, ∃ c1 : Nat, ∃ h1 : List Hd, v = .slice b1 (self np classes top found).length c1 ∧ St w0v w' (.nest 22 1 (some 2) b1 c1 h1 (self np classes top found) :: Γ0))) :
    Calls Try.prog 189 #[.int .i64 np, .slice classesA classesN classesC, .int .i64 top, .slice foundA (found).length foundC] w (Ret fun v w' => ∃ b1 : Option Addr, ∃ c1 : Nat, ∃ h1 : List Hd, v = .slice b1 (F_l08Parts_b self np classes top found).length c1 ∧ St w0v w' (.nest 22 1 (some 2) b1 c1 h1 (F_l08Parts_b self np classes top found) :: Γ0)) := by
  obtain rfl : classesN = classes.length := (St.rdO (i := 0) hS0 rfl).len1.symm
  have classesLe := (St.rdO (i := 0) hS0 rfl).le
  have foundLe := (St.rdNo (i := 1) hS0 rfl).le
  refine enter (args := [.int .i64 np, .slice classesA classes.length classesC, .int .i64 top, .slice foundA ((found).length) foundC]) Try.func189 rfl rfl ?_
  rw [Try.ntmps189]; intro a hE
  have hE := hE.sub (L' := [(0, .int .i64 np), (1, .slice classesA classes.length classesC), (2, .int .i64 top), (3, .slice foundA ((found).length) foundC)]) ⟨rfl, rfl, rfl, rfl, trivial⟩
  refine c_seq ?_
  refine c_reg ?_
  refine q_step (v := .slice none 0 0) hE (y_assign rfl) rfl rfl rfl ?_; intro a1 hE2; clear hE
  refine c_nil ?_
  have hE3 := hE2.sub (L' := [(0, .int .i64 np), (1, .slice classesA classes.length classesC), (2, .int .i64 top), (3, .slice foundA ((found).length) foundC)]) ⟨rfl, rfl, rfl, rfl, trivial⟩; clear hE2
  refine p_tn ?_
  refine c_seq ?_
  refine c_seq ?_
  refine c_reg ?_
  refine q_step (v := .slice classesA classes.length classesC) hE3 (y_move rfl) rfl rfl rfl ?_; intro a4 hE5; clear hE3
  refine q_step (v := .int .i64 (classes.length : Int)) hE5 (y_len (e := 2) (by kernel_rfl) rfl) rfl rfl rfl ?_; intro a6 hE7; clear hE5
  refine q_step (v := .int .i64 np) hE7 (y_move rfl) rfl rfl rfl ?_; intro a8 hE9; clear hE7
  refine q_step (v := .bool (decide ((classes.length : Int) = np))) hE9 (y_eql rfl rfl) rfl rfl rfl ?_; intro a10 hE11; clear hE9
  refine c_nil ?_
  have hE12 := hE11.sub (L' := [(0, .int .i64 np), (1, .slice classesA classes.length classesC), (2, .int .i64 top), (3, .slice foundA ((found).length) foundC), (13, .bool (decide ((classes.length : Int) = np)))]) ⟨rfl, rfl, rfl, rfl, rfl, trivial⟩; clear hE11
  refine p_tn ?_
  refine c_cond hE12 rfl (fun ht13 => ?_) (fun ht13 => ?_)
  ·
   have hp14 := of_decide_eq_true ht13
   have hE15 := hE12; rw [ht13] at hE15; clear hE12
   refine c_seq ?_
   refine c_reg ?_
   refine q_step (v := .slice foundA ((found).length) foundC) hE15 (y_move rfl) rfl rfl rfl ?_; intro a16 hE17; clear hE15
   refine q_step (v := .slice classesA classes.length classesC) hE17 (y_move rfl) rfl rfl rfl ?_; intro a18 hE19; clear hE17
   have hS26 := (St.pickT (Γ := [.own 2 1 classesA classes.length classesC classes, .nest 22 1 (some 2) foundA foundC foundQ found]) (Γ' := [.own 2 1 classesA classes.length classesC classes, .nest 22 1 (some 2) foundA foundC foundQ found]) (Γ0 := Γ0) hS0 [0, 1] (by decide) rfl rfl); clear hS0
   refine l_step hE19 rfl (l_litO1 (e := 22) hS26 hE19 rfl (fun _ => by kernel_rfl) rfl ?_)
   intro b20 w21 hS24 he25 a22 hE23; clear hS26 hE19
   have hS33 := (St.pickT (Γ := [.nest 22 1 (some 2) (some ⟨b20, 0, none⟩) 1 ([⟨classesA, classes.length, classesC⟩]) ([classes]), .nest 22 1 (some 2) foundA foundC foundQ found]) (Γ' := [.nest 22 1 (some 2) (some ⟨b20, 0, none⟩) 1 ([⟨classesA, classes.length, classesC⟩]) ([classes]), .nest 22 1 (some 2) foundA foundC foundQ found]) (Γ0 := Γ0) hS24 [0, 1] (by decide) rfl rfl); clear hS24
   obtain ⟨_, hi1, hi2, hi3, hi4⟩ := info_parts (show (Try.prog.info? 22).map (fun i => (i.zero, i.size, i.bytes)) = some (some (.slice none 0 0), 1, 24) by kernel_rfl)
   refine l_step hE23 rfl (l_appendN (k := 0) hS33 hE23 (by kernel_rfl) hi1 hi2 hi3 rfl (by rw [hi4]; decide) rfl rfl rfl rfl rfl rfl (by first | omega | (simp only [List.length_append, List.length_cons, List.length_nil]; omega)) rfl ?_)
   intro b27 c34 w28 hS31 a29 hE30; clear hS33 hE23 hi1 hi2 hi3 hi4
   refine q_step (v := .slice b27 ((found ++ ([classes])).length) c34) hE30 (y_assign rfl) rfl rfl rfl ?_; intro a35 hE36; clear hE30
   refine c_nil ?_
   have hE37 := hE36.sub (L' := [(8, .slice b27 ((found ++ ([classes])).length) c34)]) ⟨rfl, trivial⟩; clear hE36
   refine p_tn ?_
   refine wp_ret ?_
   refine p_tr ?_
   have hF : F_l08Parts_b self np classes top found = found ++ ([classes]) := by unfold F_l08Parts_b; rw [ht13]; first | done | rfl
   refine c_ret1 hE37 rfl rfl ?_
   have hS9 := (St.pickT (Γ := [.nest 22 1 (some 2) b27 c34 (foundQ ++ ([⟨classesA, classes.length, classesC⟩])) (found ++ ([classes]))]) (Γ' := [.nest 22 1 (some 2) b27 c34 (foundQ ++ ([⟨classesA, classes.length, classesC⟩])) (found ++ ([classes]))]) (Γ0 := Γ0) hS31 [0] (by decide) rfl rfl)
   exact ⟨b27, c34, foundQ ++ ([⟨classesA, classes.length, classesC⟩]), (by rw [hF]), (by rw [hF]; (try dsimp only); exact hS9)⟩
  ·
   have hp38 := of_decide_eq_false ht13
   have hE39 := hE12; rw [ht13] at hE39; clear hE12
   refine wp_skip ?_
   refine p_tn ?_
   refine c_seq ?_
   refine c_seq ?_
   refine c_reg ?_
   refine q_step (v := .int .i64 0) hE39 (y_assign rfl) rfl rfl rfl ?_; intro a40 hE41; clear hE39
   refine c_nil ?_
   have hE42 := hE41.sub (L' := [(0, .int .i64 np), (1, .slice classesA classes.length classesC), (2, .int .i64 top), (3, .slice foundA ((found).length) foundC), (9, .int .i64 0)]) ⟨rfl, rfl, rfl, rfl, rfl, trivial⟩; clear hE41
   refine p_tn ?_
   refine c_cut1 (fun a' w' => ∃ found3A_43 : Option Addr, ∃ found3C_43 : Nat, ∃ found3H_43 : List Hd, (0 ≤ ((F_l08Parts_L1 np classes top self (Int.toNat (top + 1 - 0) + 1) found 0).2)) ∧ (((F_l08Parts_L1 np classes top self (Int.toNat (top + 1 - 0) + 1) found 0).2) ≤ top + 1) ∧ ((((F_l08Parts_L1 np classes top self (Int.toNat (top + 1 - 0) + 1) found 0).1).length : Int) = (found.length : Int) + (LfS ((np - (classes.length : Int)).toNat - 1) top.toNat ((F_l08Parts_L1 np classes top self (Int.toNat (top + 1 - 0) + 1) found 0).2).toNat : Int)) ∧ E a' 36 [(0, .int .i64 np), (1, .slice classesA classes.length classesC), (2, .int .i64 top), (3, .slice found3A_43 (((F_l08Parts_L1 np classes top self (Int.toNat (top + 1 - 0) + 1) found 0).1).length) found3C_43), (9, .int .i64 ((F_l08Parts_L1 np classes top self (Int.toNat (top + 1 - 0) + 1) found 0).2))] ∧ St w0v w' (.own 2 1 classesA classes.length classesC classes :: .nest 22 1 (some 2) found3A_43 found3C_43 found3H_43 ((F_l08Parts_L1 np classes top self (Int.toNat (top + 1 - 0) + 1) found 0).1) :: Γ0)) ?_ ?_
   ·
    refine wp_block ?_
    refine c_loop (fun r a' w' => ∃ found3 : List (List Int), ∃ k9 : Int, ∃ found3A : Option Addr, ∃ found3C : Nat, ∃ found3H : List Hd, F_l08Parts_L1 np classes top self r found3 k9 = F_l08Parts_L1 np classes top self (Int.toNat (top + 1 - 0) + 1) found 0 ∧ Int.toNat (top + 1 - k9) < r ∧ (0 ≤ k9) ∧ (k9 ≤ top + 1) ∧ ((found3.length : Int) = (found.length : Int) + (LfS ((np - (classes.length : Int)).toNat - 1) top.toNat k9.toNat : Int)) ∧ E a' 36 [(0, .int .i64 np), (1, .slice classesA classes.length classesC), (2, .int .i64 top), (3, .slice found3A ((found3).length) found3C), (9, .int .i64 k9)] ∧ St w0v w' (.own 2 1 classesA classes.length classesC classes :: .nest 22 1 (some 2) found3A found3C found3H found3 :: Γ0)) (r := (Int.toNat (top + 1 - 0) + 1)) ?_ ?_
    · exact ⟨found, 0, foundA, foundC, foundQ, rfl, Nat.lt_succ_self _, (by first | omega | (simp only [sS_len, sL_len]; omega) | (simp only [List.length_replicate, sI_len]; omega) | (simp only [List.length_append, List.length_cons, List.length_nil, sI_len, cond_true, cond_false]; omega) | (simp only [List.length_append, List.length_cons, List.length_nil, sI_len, cond_eq_ite, apply_ite List.length]; split <;> simp only [List.length_append, List.length_cons, List.length_nil, sI_len] <;> omega) | grind), (by first | omega | (simp only [sS_len, sL_len]; omega) | (simp only [List.length_replicate, sI_len]; omega) | (simp only [List.length_append, List.length_cons, List.length_nil, sI_len, cond_true, cond_false]; omega) | (simp only [List.length_append, List.length_cons, List.length_nil, sI_len, cond_eq_ite, apply_ite List.length]; split <;> simp only [List.length_append, List.length_cons, List.length_nil, sI_len] <;> omega) | grind), (by simp [LfS]), (hE42.sub (L' := [(0, .int .i64 np), (1, .slice classesA classes.length classesC), (2, .int .i64 top), (3, .slice foundA ((found).length) foundC), (9, .int .i64 0)]) ⟨rfl, rfl, rfl, rfl, rfl, trivial⟩), (St.pickT (Γ := [.own 2 1 classesA classes.length classesC classes, .nest 22 1 (some 2) foundA foundC foundQ found]) (Γ' := [.own 2 1 classesA classes.length classesC classes, .nest 22 1 (some 2) foundA foundC foundQ found]) (Γ0 := Γ0) hS0 [0, 1] (by decide) rfl rfl)⟩
    ·
     clear hE42 hS0
     rintro r53 a44 w45 ⟨found3, k9, found3A, found3C, found3H, hT48, hr49, hi50, hi51, hi52, hE46, hS47⟩
     obtain ⟨r53, rfl⟩ : ∃ r', r53 = r' + 1 := ⟨r53 - 1, by omega⟩
     refine c_seq ?_
     refine c_seq ?_
     refine c_reg ?_
     refine q_step (v := .int .i64 k9) hE46 (y_move rfl) rfl rfl rfl ?_; intro a54 hE55; clear hE46
     refine q_step (v := .int .i64 top) hE55 (y_move rfl) rfl rfl rfl ?_; intro a56 hE57; clear hE55
     refine q_step (v := .bool (decide (k9 ≤ top))) hE57 (y_leq rfl rfl) rfl rfl rfl ?_; intro a58 hE59; clear hE57
     refine c_nil ?_
     have hE60 := hE59.sub (L' := [(0, .int .i64 np), (1, .slice classesA classes.length classesC), (2, .int .i64 top), (3, .slice found3A ((found3).length) found3C), (9, .int .i64 k9), (20, .bool (decide (k9 ≤ top)))]) ⟨rfl, rfl, rfl, rfl, rfl, rfl, trivial⟩; clear hE59
     refine p_tn ?_
     refine c_cond hE60 rfl (fun ht61 => ?_) (fun ht61 => ?_)
     ·
      have hp62 := of_decide_eq_true ht61
      have hE63 := hE60; rw [ht61] at hE63; clear hE60
      have hal := app1_len' classes k9
      have hrm := Lf_room (n := np) (l := classes.length) (l' := (classes ++ [k9]).length) (top := top) (k := k9) (by omega) (by omega) (by omega) (app1_len' _ _)
      refine wp_skip ?_
      refine p_tn ?_
      refine c_seq ?_
      refine wp_block ?_
      refine c_reg ?_
      refine q_step (v := .int .i64 np) hE63 (y_move rfl) rfl rfl rfl ?_; intro a64 hE65; clear hE63
      refine q_step (v := .slice classesA classes.length classesC) hE65 (y_move rfl) rfl rfl rfl ?_; intro a66 hE67; clear hE65
      have hc74 := d_l01Own classesA classes.length classesC classes w45 (St.rdO (i := 0) hS47 rfl) (by omega)
      refine l_step hE67 rfl (l_call (f := 140) (argv := [.slice classesA classes.length classesC]) hE67 (fun _ => cf_l01Own _ _) rfl rfl (by exact hc74) ?_)
      rintro _ w69 ⟨b75, c76, rfl, ho77, he73⟩ a70 hE71; clear hE67
      have hS72 := St.own hS47 he73 ho77; clear hS47
      refine q_step (v := .int .i64 k9) hE71 (y_move rfl) rfl rfl rfl ?_; intro a78 hE79; clear hE71
      refine l_step hE79 rfl (l_lit (e := 2) (s := 1) (xs := [k9]) (vs := [.int .i64 k9]) hS72 hE79 rfl (fun _ => by kernel_rfl) rfl rfl rfl ?_)
      intro b80 w81 hS84 he85 a82 hE83; clear hS72 hE79
      obtain ⟨_, hi1, hi2, hi3, hi4⟩ := info_parts (show (Try.prog.info? 2).map (fun i => (i.zero, i.size, i.bytes)) = some (some (.int .i64 0), 1, 8) by kernel_rfl)
      refine l_step hE83 rfl (l_append (k := 1) (n' := (classes ++ ([k9])).length) hS84 hE83 (by kernel_rfl) hi1 hi2 hi3 rfl (by decide) (by rw [hi4]; decide) rfl rfl rfl (St.rdO (i := 0) hS84 rfl) (by first | omega | (simp only [List.length_append, List.length_cons, List.length_nil]; omega)) (by have h1 := (St.rdO (i := 1) hS84 rfl).len1; have h2 := (St.rdO (i := 0) hS84 rfl).len1; first | rw [List.length_append, h1, h2] | (simp only [List.length_append])) rfl ?_)
      intro b86 c92 w87 hS90 a88 hE89; clear hS84 hE83 hi1 hi2 hi3 hi4
      refine q_step (v := .int .i64 top) hE89 (y_move rfl) rfl rfl rfl ?_; intro a93 hE94; clear hE89
      refine q_step (v := .int .i64 k9) hE94 (y_move rfl) rfl rfl rfl ?_; intro a95 hE96; clear hE94
      refine q_step (v := .int .i64 (k9 + 1)) hE96 (y_add rfl rfl ⟨(by omega), (by omega)⟩) rfl rfl rfl ?_; intro a97 hE98; clear hE96
      refine q_step (v := .int .i64 (max top (k9 + 1))) hE98 (y_max rfl rfl) rfl rfl rfl ?_; intro a99 hE100; clear hE98
      refine q_step (v := .slice found3A ((found3).length) found3C) hE100 (y_move rfl) rfl rfl rfl ?_; intro a101 hE102; clear hE100
      have hS109 := (St.pickT (Γ := [.own 2 1 (some ⟨b80, 0, none⟩) 1 1 ([k9]), .own 2 1 b86 ((classes ++ ([k9])).length) c92 (classes ++ ([k9])), .own 2 1 classesA classes.length classesC classes, .nest 22 1 (some 2) found3A found3C found3H found3]) (Γ' := [.own 2 1 b86 ((classes ++ ([k9])).length) c92 (classes ++ ([k9])), .nest 22 1 (some 2) found3A found3C found3H found3, .own 2 1 (some ⟨b80, 0, none⟩) 1 1 ([k9]), .own 2 1 classesA classes.length classesC classes]) (Γ0 := Γ0) hS90 [1, 3, 0, 2] (by decide) rfl rfl); clear hS90
      have hc110 := ih np b86 ((classes ++ ([k9])).length) c92 (classes ++ ([k9])) (max top (k9 + 1)) found3A found3C found3H found3 w87 w0v (.own 2 1 (some ⟨b80, 0, none⟩) 1 1 ([k9]) :: .own 2 1 classesA classes.length classesC classes :: Γ0) hS109 (by omega) (by omega) (by omega) (by omega) (by omega)
      refine l_step hE102 rfl (l_call (f := 189) (argv := [.int .i64 np, .slice b86 ((classes ++ ([k9])).length) c92, .int .i64 (max top (k9 + 1)), .slice found3A ((found3).length) found3C]) hE102 (fun _ => cf_l08Parts _ _) rfl rfl (by exact hc110) ?_)
      rintro _ w104 ⟨b111, c112, h113, rfl, hS107⟩ a105 hE106; clear hE102 hc110
      have hf114 := hpost np (classes ++ ([k9])) (max top (k9 + 1)) found3 (by omega) (by rw [app1_len']; omega) (by rw [app1_len']; omega) (by first | omega | (have h := hrm; rw [app1_len'] at *; omega)) (by rw [app1_len']; omega)
      refine q_step (v := .slice b111 (((self np (classes ++ ([k9])) (max top (k9 + 1)) found3)).length) c112) hE106 (y_assign rfl) rfl rfl rfl ?_; intro a115 hE116; clear hE106
      refine c_nil ?_
      have hE117 := hE116.sub (L' := [(0, .int .i64 np), (1, .slice classesA classes.length classesC), (2, .int .i64 top), (3, .slice b111 (((self np (classes ++ ([k9])) (max top (k9 + 1)) found3)).length) c112), (9, .int .i64 k9)]) ⟨rfl, rfl, rfl, rfl, rfl, trivial⟩; clear hE116
      refine p_bn ?_
      refine p_tn ?_
      refine c_reg ?_
      refine q_step (v := .int .i64 k9) hE117 (y_move rfl) rfl rfl rfl ?_; intro a118 hE119; clear hE117
      refine q_step (v := .int .i64 (k9 + 1)) hE119 (y_add rfl rfl ⟨(by omega), (by omega)⟩) rfl rfl rfl ?_; intro a120 hE121; clear hE119
      refine q_step (v := .int .i64 (k9 + 1)) hE121 (y_assign rfl) rfl rfl rfl ?_; intro a122 hE123; clear hE121
      refine c_nil ?_
      have hE124 := hE123.sub (L' := [(0, .int .i64 np), (1, .slice classesA classes.length classesC), (2, .int .i64 top), (3, .slice b111 (((self np (classes ++ ([k9])) (max top (k9 + 1)) found3)).length) c112), (9, .int .i64 (k9 + 1))]) ⟨rfl, rfl, rfl, rfl, rfl, trivial⟩; clear hE123
      refine p_tn ⟨r53, Nat.lt_succ_self _, (self np (classes ++ ([k9])) (max top (k9 + 1)) found3), k9 + 1, b111, c112, h113, (hT48.symm.trans (show F_l08Parts_L1b np classes top self (F_l08Parts_L1 np classes top self r53) found3 k9 = F_l08Parts_L1 np classes top self r53 (self np (classes ++ ([k9])) (max top (k9 + 1)) found3) (k9 + 1) by unfold F_l08Parts_L1b; rw [ht61]; first | done | rfl)).symm, (by omega), (by first | omega | (simp only [sS_len, sL_len]; omega) | (simp only [List.length_replicate, sI_len]; omega) | (simp only [List.length_append, List.length_cons, List.length_nil, sI_len, cond_true, cond_false]; omega) | (simp only [List.length_append, List.length_cons, List.length_nil, sI_len, cond_eq_ite, apply_ite List.length]; split <;> simp only [List.length_append, List.length_cons, List.length_nil, sI_len] <;> omega) | grind), (by first | omega | (simp only [sS_len, sL_len]; omega) | (simp only [List.length_replicate, sI_len]; omega) | (simp only [List.length_append, List.length_cons, List.length_nil, sI_len, cond_true, cond_false]; omega) | (simp only [List.length_append, List.length_cons, List.length_nil, sI_len, cond_eq_ite, apply_ite List.length]; split <;> simp only [List.length_append, List.length_cons, List.length_nil, sI_len] <;> omega) | grind), (by first | omega | (simp only [sS_len, sL_len]; omega) | (simp only [List.length_replicate, sI_len]; omega) | (simp only [List.length_append, List.length_cons, List.length_nil, sI_len, cond_true, cond_false]; omega) | (simp only [List.length_append, List.length_cons, List.length_nil, sI_len, cond_eq_ite, apply_ite List.length]; split <;> simp only [List.length_append, List.length_cons, List.length_nil, sI_len] <;> omega) | grind), (hE124.sub (L' := [(0, .int .i64 np), (1, .slice classesA classes.length classesC), (2, .int .i64 top), (3, .slice b111 (((self np (classes ++ ([k9])) (max top (k9 + 1)) found3)).length) c112), (9, .int .i64 (k9 + 1))]) ⟨rfl, rfl, rfl, rfl, rfl, trivial⟩), (St.pickT (Γ := [.nest 22 1 (some 2) b111 c112 h113 (self np (classes ++ ([k9])) (max top (k9 + 1)) found3), .own 2 1 (some ⟨b80, 0, none⟩) 1 1 ([k9]), .own 2 1 classesA classes.length classesC classes]) (Γ' := [.own 2 1 classesA classes.length classesC classes, .nest 22 1 (some 2) b111 c112 h113 (self np (classes ++ ([k9])) (max top (k9 + 1)) found3)]) (Γ0 := Γ0) hS107 [2, 0] (by decide) rfl rfl)⟩
     ·
      have hp125 := of_decide_eq_false ht61
      have hE126 := hE60; rw [ht61] at hE126; clear hE60
      refine wp_exit ?_
      refine p_te ?_
      have hX127 : F_l08Parts_L1 np classes top self (Int.toNat (top + 1 - 0) + 1) found 0 = (found3, k9) := hT48.symm.trans (show F_l08Parts_L1b np classes top self (F_l08Parts_L1 np classes top self r53) found3 k9 = (found3, k9) by unfold F_l08Parts_L1b; rw [ht61]; first | done | rfl)
      refine p_te (p_be (p_tn ?_))
      exact ⟨found3A, found3C, found3H, (by rw [hX127]; exact (show 0 ≤ k9 from (by first | omega | (simp only [sS_len, sL_len]; omega) | (simp only [List.length_replicate, sI_len]; omega) | (simp only [List.length_append, List.length_cons, List.length_nil, sI_len, cond_true, cond_false]; omega) | (simp only [List.length_append, List.length_cons, List.length_nil, sI_len, cond_eq_ite, apply_ite List.length]; split <;> simp only [List.length_append, List.length_cons, List.length_nil, sI_len] <;> omega) | grind))), (by rw [hX127]; exact (show k9 ≤ top + 1 from (by first | omega | (simp only [sS_len, sL_len]; omega) | (simp only [List.length_replicate, sI_len]; omega) | (simp only [List.length_append, List.length_cons, List.length_nil, sI_len, cond_true, cond_false]; omega) | (simp only [List.length_append, List.length_cons, List.length_nil, sI_len, cond_eq_ite, apply_ite List.length]; split <;> simp only [List.length_append, List.length_cons, List.length_nil, sI_len] <;> omega) | grind))), (by rw [hX127]; exact (show (found3.length : Int) = (found.length : Int) + (LfS ((np - (classes.length : Int)).toNat - 1) top.toNat k9.toNat : Int) from (by first | omega | (simp only [sS_len, sL_len]; omega) | (simp only [List.length_replicate, sI_len]; omega) | (simp only [List.length_append, List.length_cons, List.length_nil, sI_len, cond_true, cond_false]; omega) | (simp only [List.length_append, List.length_cons, List.length_nil, sI_len, cond_eq_ite, apply_ite List.length]; split <;> simp only [List.length_append, List.length_cons, List.length_nil, sI_len] <;> omega) | grind))), (by rw [hX127]; exact (hE126.sub (L' := [(0, .int .i64 np), (1, .slice classesA classes.length classesC), (2, .int .i64 top), (3, .slice found3A ((found3).length) found3C), (9, .int .i64 k9)]) ⟨rfl, rfl, rfl, rfl, rfl, trivial⟩)), (by rw [hX127]; exact (St.pickT (Γ := [.own 2 1 classesA classes.length classesC classes, .nest 22 1 (some 2) found3A found3C found3H found3]) (Γ' := [.own 2 1 classesA classes.length classesC classes, .nest 22 1 (some 2) found3A found3C found3H found3]) (Γ0 := Γ0) hS47 [0, 1] (by decide) rfl rfl))⟩
   ·
    rintro a128 w129 ⟨found3A_43, found3C_43, found3H_43, hi133, hi134, hi135, hE130, hS131⟩; clear hE42 hS0
    refine p_tn ?_
    refine c_seq ?_
    refine c_reg ?_
    refine q_step (v := .slice found3A_43 (((F_l08Parts_L1 np classes top self (Int.toNat (top + 1 - 0) + 1) found 0).1).length) found3C_43) hE130 (y_move rfl) rfl rfl rfl ?_; intro a136 hE137; clear hE130
    refine q_step (v := .slice found3A_43 (((F_l08Parts_L1 np classes top self (Int.toNat (top + 1 - 0) + 1) found 0).1).length) found3C_43) hE137 (y_assign rfl) rfl rfl rfl ?_; intro a138 hE139; clear hE137
    refine c_nil ?_
    have hE140 := hE139.sub (L' := [(8, .slice found3A_43 (((F_l08Parts_L1 np classes top self (Int.toNat (top + 1 - 0) + 1) found 0).1).length) found3C_43)]) ⟨rfl, trivial⟩; clear hE139
    refine p_tn ?_
    refine wp_ret ?_
    have hF : F_l08Parts_b self np classes top found = (F_l08Parts_L1 np classes top self (Int.toNat (top + 1 - 0) + 1) found 0).1 := by unfold F_l08Parts_b; rw [ht13]; first | done | rfl
    refine c_ret1 hE140 rfl rfl ?_
    have hS9 := (St.pickT (Γ := [.own 2 1 classesA classes.length classesC classes, .nest 22 1 (some 2) found3A_43 found3C_43 found3H_43 ((F_l08Parts_L1 np classes top self (Int.toNat (top + 1 - 0) + 1) found 0).1)]) (Γ' := [.nest 22 1 (some 2) found3A_43 found3C_43 found3H_43 ((F_l08Parts_L1 np classes top self (Int.toNat (top + 1 - 0) + 1) found 0).1)]) (Γ0 := Γ0) hS131 [1] (by decide) rfl rfl)
    exact ⟨found3A_43, found3C_43, found3H_43, (by rw [hF]), (by rw [hF]; (try dsimp only); exact hS9)⟩
theorem c_l08Parts_r : ∀ (r : Nat) (np : Int) (classesA : Option Addr) (classesN classesC : Nat) (classes : List Int) (top : Int) (foundA : Option Addr) (foundC : Nat) (foundQ : List Hd) (found : List (List Int)) (w : World) (w0v : World) (Γ0 : List Ent) (hS0 : St w0v w (.own 2 1 classesA classesN classesC classes :: .nest 22 1 (some 2) foundA foundC foundQ found :: Γ0)) (hn : 0 ≤ np ∧ np ≤ 8) (hl : (classes.length : Int) ≤ np) (ht : 0 ≤ top ∧ top ≤ (classes.length : Int)) (hb : found.length + Lf (np - (classes.length : Int)).toNat top.toNat ≤ 10000) (hlt : (np - (classes.length : Int)).toNat < r), Calls Try.prog 189 #[.int .i64 np, .slice classesA classesN classesC, .int .i64 top, .slice foundA (found).length foundC] w (Ret fun v w' => ∃ b1 : Option Addr, ∃ c1 : Nat, ∃ h1 : List Hd, v = .slice b1 ((F_l08Parts_r r) np classes top found).length c1 ∧ St w0v w' (.nest 22 1 (some 2) b1 c1 h1 ((F_l08Parts_r r) np classes top found) :: Γ0)) := by
  intro r
  induction r with
  | zero => intros; omega
  | succ r ih =>
    intro np classesA classesN classesC classes top foundA foundC foundQ found w w0v Γ0 hS0 hn hl ht hb hlt
    exact cb_l08Parts (F_l08Parts_r r) ((np - (classes.length : Int)).toNat) (fun np classes top found hn hl ht hb hm => l08PartsLen r np classes top found hn hl ht hb (by omega)) np classesA classesN classesC classes top foundA foundC foundQ found w w0v Γ0 hS0 hn hl ht hb rfl (fun np classesA classesN classesC classes top foundA foundC foundQ found w w0v Γ0 hS0 hn hl ht hb hdec => ih np classesA classesN classesC classes top foundA foundC foundQ found w w0v Γ0 hS0 hn hl ht hb (by omega))
theorem c_l08Parts (np : Int) (classesA : Option Addr) (classesN classesC : Nat) (classes : List Int) (top : Int) (foundA : Option Addr) (foundC : Nat) (foundQ : List Hd) (found : List (List Int)) (w : World) (w0v : World) (Γ0 : List Ent) (hS0 : St w0v w (.own 2 1 classesA classesN classesC classes :: .nest 22 1 (some 2) foundA foundC foundQ found :: Γ0)) (hn : 0 ≤ np ∧ np ≤ 8) (hl : (classes.length : Int) ≤ np) (ht : 0 ≤ top ∧ top ≤ (classes.length : Int)) (hb : found.length + Lf (np - (classes.length : Int)).toNat top.toNat ≤ 10000) :
    Calls Try.prog 189 #[.int .i64 np, .slice classesA classesN classesC, .int .i64 top, .slice foundA (found).length foundC] w (Ret fun v w' => ∃ b1 : Option Addr, ∃ c1 : Nat, ∃ h1 : List Hd, v = .slice b1 (F_l08Parts np classes top found).length c1 ∧ St w0v w' (.nest 22 1 (some 2) b1 c1 h1 (F_l08Parts np classes top found) :: Γ0)) := c_l08Parts_r ((np - (classes.length : Int)).toNat + 1) np classesA classesN classesC classes top foundA foundC foundQ found w w0v Γ0 hS0 hn hl ht hb (Nat.lt_succ_self _)
theorem l08Parts_eq {n : Int} (h0 : 0 ≤ n) : F_l08Parts n [] 0 [] = Dfs n.toNat [] 0 := by
  show F_l08Parts_r _ n [] 0 [] = _
  rw [l08Parts_dfs n n.toNat _ [] 0 [] (by simp; omega) (by omega) (by simp)]
  rfl
theorem l08Parts_len {n : Int} (h0 : 0 ≤ n) (h1 : n ≤ 8) : (F_l08Parts n [] 0 []).length ≤ 4140 := by
  rw [l08Parts_eq h0, Dfs_len]
  exact Lf8 h0 h1
theorem Dfs_row : ∀ (d : Nat) (cs : List Int) (t : Nat) (x : List Int), x ∈ Dfs d cs t → x.length = cs.length + d := by
  intro d
  induction d with
  | zero =>
    intro cs t x hx
    rw [show Dfs 0 cs t = [cs] from rfl, List.mem_singleton] at hx
    rw [hx]; rfl
  | succ d ih =>
    intro cs t x hx
    rw [show Dfs (d + 1) cs t = (List.range (t + 1)).flatMap fun (k : Nat) => Dfs d (cs ++ [(k : Int)]) (max t (k + 1)) from rfl, List.mem_flatMap] at hx
    obtain ⟨k, _, hk⟩ := hx
    rw [ih _ _ _ hk, app1_len']; omega
theorem gL_mem {xs : List (List Int)} {i : Int} (h0 : 0 ≤ i) (h1 : i < (xs.length : Int)) : gL xs i ∈ xs := by
  have h := List.mem_of_getElem? (getD_some (l := xs) (k := i.toNat) (d := []) (by omega))
  exact h
theorem l08Parts_row {n i : Int} (h0 : 0 ≤ n) (hi : 0 ≤ i) (h1 : i < ((F_l08Parts n [] 0 []).length : Int)) : ((gL (F_l08Parts n [] 0 []) i).length : Int) = n := by
  have h := gL_mem hi h1
  rw [l08Parts_eq h0] at h
  have := Dfs_row _ _ _ _ h
  rw [l08Parts_eq h0]
  simp at this
  omega
def F_l08Congruences_L1b (f0 : Int) (f1 : List Int) (rec : (List (List Int)) → Int → (List (List Int)) × Int) (out4 : List (List Int)) (i5 : Int) : (List (List Int)) × Int :=
  bif (decide (i5 < (((F_l08Parts f0 ([]) 0 ([]))).length : Int))) then (bif (F_l08Congruence f0 f1 (gL (F_l08Parts f0 ([]) 0 ([])) i5)) then (rec (out4 ++ ([gL (F_l08Parts f0 ([]) 0 ([])) i5])) (i5 + 1)) else (rec out4 (i5 + 1))) else (out4, i5)
def F_l08Congruences_L1 (f0 : Int) (f1 : List Int) : Nat → (List (List Int)) → Int → (List (List Int)) × Int
  | 0, out4, i5 => (out4, i5)
  | r + 1, out4, i5 => F_l08Congruences_L1b f0 f1 (F_l08Congruences_L1 f0 f1 r) out4 i5
def F_l08Congruences (f0 : Int) (f1 : List Int) : List (List Int) :=
  (F_l08Congruences_L1 f0 f1 (Int.toNat ((((F_l08Parts f0 ([]) 0 ([]))).length : Int) - 0) + 1) ([]) 0).1
theorem cf_l08Congruences (args : Array Value) (w : World) : (callFunc 108 args).run Try.prog w = .ok (.enter 108 args) w := by kernel_rfl
set_option maxRecDepth 100000 in
theorem c_l08Congruences (f0 : Int) (f1A : Option Addr) (f1N f1C : Nat) (f1 : List Int) (w : World) (f1R : RdS w 1 f1A f1N f1C f1) (hf : 0 ≤ f0 ∧ f0 ≤ 8) (hfl : (f1.length : Int) = f0) (hfm : ∀ m : Int, 0 ≤ m → m < (f1.length : Int) → 0 ≤ gI f1 m ∧ gI f1 m ≤ fullI f0) :
    Calls Try.prog 108 #[.agg #[.int .i64 f0, .slice f1A f1N f1C]] w (Ret fun v w' => ∃ b1 : Option Addr, ∃ c1 : Nat, ∃ h1 : List Hd, v = .slice b1 (F_l08Congruences f0 f1).length c1 ∧ FrH w.heap.size h1 ∧ St w w' (.nest 22 1 none b1 c1 h1 (F_l08Congruences f0 f1) :: [])) := by
  obtain rfl : f1N = f1.length := f1R.len1.symm
  have f1Le := f1R.le
  have hS := St.nil w
  have hS1 := St.rd0 hS rfl f1R; clear hS
  refine enter (args := [.agg #[.int .i64 f0, .slice f1A f1.length f1C]]) Try.func108 rfl rfl ?_
  rw [Try.ntmps108]; intro a hE
  have hE := hE.sub (L' := [(0, .agg #[.int .i64 f0, .slice f1A f1.length f1C])]) ⟨rfl, trivial⟩
  refine c_seq ?_
  refine c_reg ?_
  refine l_step hE rfl (l_box (v := .agg #[.int .i64 f0, .slice f1A f1.length f1C]) (cs := #[.int .i64 f0, .slice f1A f1.length f1C]) hS1 hE rfl rfl rfl ?_)
  intro b2 w3 hS6 he7 a4 hE5; clear hS1 hE
  refine q_step (v := .slice none 0 0) hE5 (y_assign rfl) rfl rfl rfl ?_; intro a8 hE9; clear hE5
  refine c_nil ?_
  have hE10 := hE9.sub (L' := [(1, .pointer (some ⟨b2, 0, none⟩))]) ⟨rfl, trivial⟩; clear hE9
  refine p_tn ?_
  refine c_seq ?_
  refine c_reg ?_
  refine q_step (v := .pointer (some ⟨b2, 0, none⟩)) hE10 (y_field rfl (fun _ => by kernel_rfl)) rfl rfl rfl ?_; intro a11 hE12; clear hE10
  refine q_step (v := .int .i64 f0) hE12 (y_load (fun _ => by kernel_rfl) rfl (St.cell (i := 0) hS6 rfl rfl)) rfl rfl rfl ?_; intro a13 hE14; clear hE12
  refine l_step hE14 rfl (l_lit (e := 2) (s := 1) (xs := []) (vs := []) hS6 hE14 rfl (fun _ => by kernel_rfl) rfl rfl rfl ?_)
  intro b15 w16 hS19 he20 a17 hE18; clear hS6 hE14
  refine l_step hE18 rfl (l_lit0N (e := 22) (t' := 2) (s := 1) hS19 hE18 (fun _ => by kernel_rfl) rfl ?_)
  intro b21 w22 hS25 he26 a23 hE24; clear hS19 hE18
  have hS33 := (St.pick (Γ' := [.own 2 1 (some ⟨b15, 0, none⟩) 0 0 ([]), .nest 22 1 (some 2) (some ⟨b21, 0, none⟩) 0 ([]) ([]), .blk b2 #[.int .i64 f0, .slice f1A f1.length f1C] 30, .rd 1 f1A f1.length f1C f1]) hS25 [1, 0, 2, 3] (by decide) rfl); clear hS25
  have hc34 := c_l08Parts f0 (some ⟨b15, 0, none⟩) 0 0 ([]) 0 (some ⟨b21, 0, none⟩) 0 ([]) ([]) w22 w [.blk b2 #[.int .i64 f0, .slice f1A f1.length f1C] 30, .rd 1 f1A f1.length f1C f1] hS33 (by omega) (by simp; omega) (by simp) (by have h8 := Lf8 hf.1 hf.2; simp; omega)
  refine l_step hE24 rfl (l_call (f := 189) (argv := [.int .i64 f0, .slice (some ⟨b15, 0, none⟩) 0 0, .int .i64 0, .slice (some ⟨b21, 0, none⟩) 0 0]) hE24 (fun _ => cf_l08Parts _ _) rfl rfl (by exact hc34) ?_)
  rintro _ w28 ⟨b35, c36, h37, rfl, hS31⟩ a29 hE30; clear hE24 hc34
  have hpl := l08Parts_len hf.1 hf.2
  have hfrz := St.frH (i := 0) hS31 rfl
  have hS38 := St.freezeN (i := 0) hS31 rfl; clear hS31
  refine l_step hE30 rfl (l_litN (e := 22) (s := 1) (rows := []) (hs := []) (xss := []) (vs := []) hS38 hE30 rfl rfl rfl rfl (fun _ => by kernel_rfl) trivial rfl rfl rfl ?_)
  intro b39 w40 hS43 he44 a41 hE42; clear hS38 hE30
  refine q_step (v := .slice b35 (((F_l08Parts f0 ([]) 0 ([]))).length) c36) hE42 (y_assign rfl) rfl rfl rfl ?_; intro a45 hE46; clear hE42
  refine q_step (v := .slice (some ⟨b39, 0, none⟩) 0 0) hE46 (y_assign rfl) rfl rfl rfl ?_; intro a47 hE48; clear hE46
  refine c_nil ?_
  have hE49 := hE48.sub (L' := [(1, .pointer (some ⟨b2, 0, none⟩)), (3, .slice b35 (((F_l08Parts f0 ([]) 0 ([]))).length) c36), (4, .slice (some ⟨b39, 0, none⟩) 0 0)]) ⟨rfl, rfl, rfl, trivial⟩; clear hE48
  refine p_tn ?_
  refine c_seq ?_
  refine c_seq ?_
  refine c_reg ?_
  refine q_step (v := .int .i64 0) hE49 (y_assign rfl) rfl rfl rfl ?_; intro a50 hE51; clear hE49
  refine c_nil ?_
  have hE52 := hE51.sub (L' := [(1, .pointer (some ⟨b2, 0, none⟩)), (3, .slice b35 (((F_l08Parts f0 ([]) 0 ([]))).length) c36), (4, .slice (some ⟨b39, 0, none⟩) 0 0), (5, .int .i64 0)]) ⟨rfl, rfl, rfl, rfl, trivial⟩; clear hE51
  refine p_tn ?_
  refine c_cut1 (fun a' w' => ∃ out4A_53 : Option Addr, ∃ out4C_53 : Nat, ∃ out4H_53 : List Hd, (0 ≤ ((F_l08Congruences_L1 f0 f1 (Int.toNat ((((F_l08Parts f0 ([]) 0 ([]))).length : Int) - 0) + 1) ([]) 0).2)) ∧ (FrH w.heap.size out4H_53) ∧ ((((F_l08Congruences_L1 f0 f1 (Int.toNat ((((F_l08Parts f0 ([]) 0 ([]))).length : Int) - 0) + 1) ([]) 0).1).length : Int) ≤ ((F_l08Congruences_L1 f0 f1 (Int.toNat ((((F_l08Parts f0 ([]) 0 ([]))).length : Int) - 0) + 1) ([]) 0).2)) ∧ (((F_l08Congruences_L1 f0 f1 (Int.toNat ((((F_l08Parts f0 ([]) 0 ([]))).length : Int) - 0) + 1) ([]) 0).2) ≤ (((F_l08Parts f0 ([]) 0 ([]))).length : Int)) ∧ E a' 32 [(1, .pointer (some ⟨b2, 0, none⟩)), (3, .slice b35 (((F_l08Parts f0 ([]) 0 ([]))).length) c36), (4, .slice out4A_53 (((F_l08Congruences_L1 f0 f1 (Int.toNat ((((F_l08Parts f0 ([]) 0 ([]))).length : Int) - 0) + 1) ([]) 0).1).length) out4C_53), (5, .int .i64 ((F_l08Congruences_L1 f0 f1 (Int.toNat ((((F_l08Parts f0 ([]) 0 ([]))).length : Int) - 0) + 1) ([]) 0).2))] ∧ St w w' [.nest 22 1 none out4A_53 out4C_53 out4H_53 ((F_l08Congruences_L1 f0 f1 (Int.toNat ((((F_l08Parts f0 ([]) 0 ([]))).length : Int) - 0) + 1) ([]) 0).1), .nest 22 1 none b35 c36 h37 (F_l08Parts f0 ([]) 0 ([])), .blk b2 #[.int .i64 f0, .slice f1A f1.length f1C] 30, .rd 1 f1A f1.length f1C f1]) ?_ ?_
  ·
   refine wp_block ?_
   refine c_loop (fun r a' w' => ∃ out4 : List (List Int), ∃ i5 : Int, ∃ out4A : Option Addr, ∃ out4C : Nat, ∃ out4H : List Hd, F_l08Congruences_L1 f0 f1 r out4 i5 = F_l08Congruences_L1 f0 f1 (Int.toNat ((((F_l08Parts f0 ([]) 0 ([]))).length : Int) - 0) + 1) ([]) 0 ∧ Int.toNat ((((F_l08Parts f0 ([]) 0 ([]))).length : Int) - i5) < r ∧ (0 ≤ i5) ∧ (FrH w.heap.size out4H) ∧ ((out4.length : Int) ≤ i5) ∧ (i5 ≤ (((F_l08Parts f0 ([]) 0 ([]))).length : Int)) ∧ E a' 32 [(1, .pointer (some ⟨b2, 0, none⟩)), (3, .slice b35 (((F_l08Parts f0 ([]) 0 ([]))).length) c36), (4, .slice out4A ((out4).length) out4C), (5, .int .i64 i5)] ∧ St w w' [.nest 22 1 none out4A out4C out4H out4, .nest 22 1 none b35 c36 h37 (F_l08Parts f0 ([]) 0 ([])), .blk b2 #[.int .i64 f0, .slice f1A f1.length f1C] 30, .rd 1 f1A f1.length f1C f1]) (r := (Int.toNat ((((F_l08Parts f0 ([]) 0 ([]))).length : Int) - 0) + 1)) ?_ ?_
   · exact ⟨[], 0, some ⟨b39, 0, none⟩, 0, [], rfl, Nat.lt_succ_self _, (by first | omega | (simp only [sS_len, sL_len]; omega) | (simp only [List.length_replicate, sI_len]; omega) | (simp only [List.length_append, List.length_cons, List.length_nil, sI_len, cond_true, cond_false]; omega) | (simp only [List.length_append, List.length_cons, List.length_nil, sI_len, cond_eq_ite, apply_ite List.length]; split <;> simp only [List.length_append, List.length_cons, List.length_nil, sI_len] <;> omega) | grind), (FrH.nil _), (by first | omega | (simp only [sS_len, sL_len]; omega) | (simp only [List.length_replicate, sI_len]; omega) | (simp only [List.length_append, List.length_cons, List.length_nil, sI_len, cond_true, cond_false]; omega) | (simp only [List.length_append, List.length_cons, List.length_nil, sI_len, cond_eq_ite, apply_ite List.length]; split <;> simp only [List.length_append, List.length_cons, List.length_nil, sI_len] <;> omega) | grind), (by first | omega | (simp only [sS_len, sL_len]; omega) | (simp only [List.length_replicate, sI_len]; omega) | (simp only [List.length_append, List.length_cons, List.length_nil, sI_len, cond_true, cond_false]; omega) | (simp only [List.length_append, List.length_cons, List.length_nil, sI_len, cond_eq_ite, apply_ite List.length]; split <;> simp only [List.length_append, List.length_cons, List.length_nil, sI_len] <;> omega) | grind), (hE52.sub (L' := [(1, .pointer (some ⟨b2, 0, none⟩)), (3, .slice b35 (((F_l08Parts f0 ([]) 0 ([]))).length) c36), (4, .slice (some ⟨b39, 0, none⟩) 0 0), (5, .int .i64 0)]) ⟨rfl, rfl, rfl, rfl, trivial⟩), (St.pick (Γ' := [.nest 22 1 none (some ⟨b39, 0, none⟩) 0 ([]) ([]), .nest 22 1 none b35 c36 h37 (F_l08Parts f0 ([]) 0 ([])), .blk b2 #[.int .i64 f0, .slice f1A f1.length f1C] 30, .rd 1 f1A f1.length f1C f1]) hS43 [0, 1, 2, 3] (by decide) rfl)⟩
   ·
    clear hE52 hS43
    rintro r64 a54 w55 ⟨out4, i5, out4A, out4C, out4H, hT58, hr59, hi60, hi61, hi62, hi63, hE56, hS57⟩
    obtain ⟨r64, rfl⟩ : ∃ r', r64 = r' + 1 := ⟨r64 - 1, by omega⟩
    refine c_seq ?_
    refine c_seq ?_
    refine c_reg ?_
    refine q_step (v := .int .i64 i5) hE56 (y_move rfl) rfl rfl rfl ?_; intro a65 hE66; clear hE56
    refine q_step (v := .slice b35 (((F_l08Parts f0 ([]) 0 ([]))).length) c36) hE66 (y_move rfl) rfl rfl rfl ?_; intro a67 hE68; clear hE66
    refine q_step (v := .int .i64 (((F_l08Parts f0 ([]) 0 ([]))).length : Int)) hE68 (y_len (e := 22) (by kernel_rfl) rfl) rfl rfl rfl ?_; intro a69 hE70; clear hE68
    refine q_step (v := .bool (decide (i5 < (((F_l08Parts f0 ([]) 0 ([]))).length : Int)))) hE70 (y_lss rfl rfl) rfl rfl rfl ?_; intro a71 hE72; clear hE70
    refine c_nil ?_
    have hE73 := hE72.sub (L' := [(1, .pointer (some ⟨b2, 0, none⟩)), (3, .slice b35 (((F_l08Parts f0 ([]) 0 ([]))).length) c36), (4, .slice out4A ((out4).length) out4C), (5, .int .i64 i5), (15, .bool (decide (i5 < (((F_l08Parts f0 ([]) 0 ([]))).length : Int))))]) ⟨rfl, rfl, rfl, rfl, rfl, trivial⟩; clear hE72
    refine p_tn ?_
    refine c_cond hE73 rfl (fun ht74 => ?_) (fun ht74 => ?_)
    ·
     have hp75 := of_decide_eq_true ht74
     have hE76 := hE73; rw [ht74] at hE76; clear hE73
     have hrow := l08Parts_row hf.1 (i := i5) (by omega) (by omega)
     refine wp_skip ?_
     refine p_tn ?_
     refine c_seq ?_
     refine wp_block ?_
     refine c_seq ?_
     refine d_start (fun w w' => (fun w' => w'.heap[b2]? = some (.cells #[.int .i64 f0, .slice f1A f1.length f1C] 30 (0, 0)) ∧ w'.cell? (adr b35 (Int.toNat i5)) = some (.slice (hdA h37 i5) (gL (F_l08Parts f0 ([]) 0 ([])) i5).length (hdC h37 i5)) ∧ True) w → (fun w' => w'.heap[b2]? = some (.cells #[.int .i64 f0, .slice f1A f1.length f1C] 30 (0, 0)) ∧ w'.cell? (adr b35 (Int.toNat i5)) = some (.slice (hdA h37 i5) (gL (F_l08Parts f0 ([]) 0 ([])) i5).length (hdC h37 i5)) ∧ True) w') [0, 4] 6 (by kernel_rfl) rfl ?_
     intro w77 he78; have hS79 := St.go hS57 he78; clear hS57
     refine d_take (fun _ h => h) (fun _ _ h k => h k) (v := .agg #[.int .i64 f0, .slice f1A f1.length f1C]) 0 rfl hE76 (S := fun w' => w'.heap[b2]? = some (.cells #[.int .i64 f0, .slice f1A f1.length f1C] 30 (0, 0)) ∧ w'.cell? (adr b35 (Int.toNat i5)) = some (.slice (hdA h37 i5) (gL (F_l08Parts f0 ([]) 0 ([])) i5).length (hdC h37 i5)) ∧ True) ⟨(St.row (i := 2) hS79 rfl _ (Ext.refl _)), (RdN.elt1 (St.rdNo (i := 1) hS79 rfl) (by omega) (by omega) _ (Ext.refl _)), trivial⟩ (y_loadS Try.underlying30 rfl (by kernel_rfl) rfl (fun _ h => h.1)) rfl rfl (by kernel_rfl) (by kernel_rfl) (by kernel_rfl) (by kernel_rfl) rfl rfl (fun _ _ _ h => h) ?_; intro a80 hE81; clear hE76
     refine d_pure (fun _ h => h) (v := .slice b35 (((F_l08Parts f0 ([]) 0 ([]))).length) c36) 1 rfl hE81 (y_move rfl) rfl (by kernel_rfl) (by kernel_rfl) (by kernel_rfl) rfl rfl (fun _ _ _ h => h) ?_; intro a82 hE83; clear hE81
     refine d_pure (fun _ h => h) (v := .int .i64 i5) 2 rfl hE83 (y_move rfl) rfl (by kernel_rfl) (by kernel_rfl) (by kernel_rfl) rfl rfl (fun _ _ _ h => h) ?_; intro a84 hE85; clear hE83
     refine d_pure (fun _ h => h) (v := .pointer (some (adr b35 (Int.toNat i5)))) 3 rfl hE85 (y_idx (by kernel_rfl) (fun _ => by kernel_rfl) rfl rfl (RdN.isS (m := i5) (St.rdNo (i := 1) hS79 rfl) (by omega) (by omega)) (by omega) (by omega) (Nat.mul_one _).symm) rfl (by kernel_rfl) (by kernel_rfl) (by kernel_rfl) rfl rfl (fun _ _ _ h => h) ?_; intro a86 hE87; clear hE85
     have hv88 : (0 : Int) ≤ i5 ∧ i5 < (((F_l08Parts f0 ([]) 0 ([]))).length : Int) := ⟨(by omega), (by omega)⟩
     refine d_take (fun _ h => h) (fun _ _ h k => h k) (v := .slice (hdA h37 i5) ((gL (F_l08Parts f0 ([]) 0 ([])) i5).length) (hdC h37 i5)) 4 rfl hE87 (S := fun w' => w'.heap[b2]? = some (.cells #[.int .i64 f0, .slice f1A f1.length f1C] 30 (0, 0)) ∧ w'.cell? (adr b35 (Int.toNat i5)) = some (.slice (hdA h37 i5) (gL (F_l08Parts f0 ([]) 0 ([])) i5).length (hdC h37 i5)) ∧ True) ⟨(St.row (i := 2) hS79 rfl _ (Ext.refl _)), (RdN.elt1 (St.rdNo (i := 1) hS79 rfl) (by omega) (by omega) _ (Ext.refl _)), trivial⟩ (y_load (fun _ => by kernel_rfl) rfl (fun _ h => h.2.1)) rfl rfl (by kernel_rfl) (by kernel_rfl) (by kernel_rfl) (by kernel_rfl) rfl rfl (fun _ _ _ h => h) ?_; intro a90 hE91; clear hE87
     refine d_only 5 (by kernel_rfl) rfl hE91 rfl (l_call (f := 113) (argv := [.agg #[.int .i64 f0, .slice f1A f1.length f1C], .slice (hdA h37 i5) ((gL (F_l08Parts f0 ([]) 0 ([])) i5).length) (hdC h37 i5)]) hE91 (fun _ => cf_l08Congruence _ _) rfl rfl (c_l08Congruence f0 f1A f1.length f1C f1 (hdA h37 i5) ((gL (F_l08Parts f0 ([]) 0 ([])) i5).length) (hdC h37 i5) (gL (F_l08Parts f0 ([]) 0 ([])) i5) w77 (St.rdR (i := 3) hS79 rfl) (RdN.row1 (St.rdNo (i := 1) hS79 rfl) hv88.1 hv88.2) (by omega) (by omega) (by omega) (by omega)) ?_)
     rintro _ w93 ⟨rfl, he97⟩ a94 hE95; clear hE91
     have hS96 := St.go hS79 he97; clear hS79
     refine ⟨fun h => Bool.noConfusion (h.symm.trans (show exm _ _ _ = true by kernel_rfl)), ?_⟩
     refine d_done (by kernel_rfl) ?_
     have hE98 := hE95.sub (L' := [(1, .pointer (some ⟨b2, 0, none⟩)), (3, .slice b35 (((F_l08Parts f0 ([]) 0 ([]))).length) c36), (4, .slice out4A ((out4).length) out4C), (5, .int .i64 i5), (23, .bool (F_l08Congruence f0 f1 (gL (F_l08Parts f0 ([]) 0 ([])) i5)))]) ⟨rfl, rfl, rfl, rfl, rfl, trivial⟩; clear hE95
     refine p_tn ?_
     refine c_cond hE98 rfl (fun ht99 => ?_) (fun ht99 => ?_)
     ·
      have hE100 := hE98; rw [ht99] at hE100; clear hE98
      refine c_reg ?_
      refine q_step (v := .slice out4A ((out4).length) out4C) hE100 (y_move rfl) rfl rfl rfl ?_; intro a101 hE102; clear hE100
      refine q_step (v := .slice b35 (((F_l08Parts f0 ([]) 0 ([]))).length) c36) hE102 (y_move rfl) rfl rfl rfl ?_; intro a103 hE104; clear hE102
      refine q_step (v := .int .i64 i5) hE104 (y_move rfl) rfl rfl rfl ?_; intro a105 hE106; clear hE104
      refine q_step (v := .pointer (some (adr b35 (Int.toNat i5)))) hE106 (y_idx (by kernel_rfl) (fun _ => by kernel_rfl) rfl rfl (RdN.isS (m := i5) (St.rdNo (i := 1) hS96 rfl) (by omega) (by omega)) (by omega) (by omega) (Nat.mul_one _).symm) rfl rfl rfl ?_; intro a107 hE108; clear hE106
      refine q_step (v := .slice (hdA h37 i5) ((gL (F_l08Parts f0 ([]) 0 ([])) i5).length) (hdC h37 i5)) hE108 (y_load (fun _ => by kernel_rfl) rfl (RdN.elt1 (St.rdNo (i := 1) hS96 rfl) (by omega) (by omega))) rfl rfl rfl ?_; intro a109 hE110; clear hE108
      refine l_step hE110 rfl (l_litN (e := 22) (s := 1) (rows := [(⟨hdA h37 i5, (gL (F_l08Parts f0 ([]) 0 ([])) i5).length, hdC h37 i5⟩, gL (F_l08Parts f0 ([]) 0 ([])) i5)]) (hs := [⟨hdA h37 i5, (gL (F_l08Parts f0 ([]) 0 ([])) i5).length, hdC h37 i5⟩]) (xss := [gL (F_l08Parts f0 ([]) 0 ([])) i5]) (vs := [.slice (hdA h37 i5) ((gL (F_l08Parts f0 ([]) 0 ([])) i5).length) (hdC h37 i5)]) hS96 hE110 rfl rfl rfl rfl (fun _ => by kernel_rfl) ⟨⟨(RdN.row1 (St.rdNo (i := 1) hS96 rfl) hv88.1 hv88.2), (St.robO (i := 1) hS96 rfl hv88.1 hv88.2)⟩, trivial⟩ rfl rfl rfl ?_)
      intro b111 w112 hS115 he116 a113 hE114; clear hS96 hE110
      have hS123 := (St.pick (Γ' := [.nest 22 1 none (some ⟨b111, 0, none⟩) 1 ([⟨hdA h37 i5, (gL (F_l08Parts f0 ([]) 0 ([])) i5).length, hdC h37 i5⟩]) ([gL (F_l08Parts f0 ([]) 0 ([])) i5]), .nest 22 1 none out4A out4C out4H out4, .nest 22 1 none b35 c36 h37 (F_l08Parts f0 ([]) 0 ([])), .blk b2 #[.int .i64 f0, .slice f1A f1.length f1C] 30, .rd 1 f1A f1.length f1C f1]) hS115 [0, 1, 2, 3, 4] (by decide) rfl); clear hS115
      obtain ⟨_, hi1, hi2, hi3, hi4⟩ := info_parts (show (Try.prog.info? 22).map (fun i => (i.zero, i.size, i.bytes)) = some (some (.slice none 0 0), 1, 24) by kernel_rfl)
      refine l_step hE114 rfl (l_appendN (k := 0) hS123 hE114 (by kernel_rfl) hi1 hi2 hi3 rfl (by rw [hi4]; decide) rfl rfl rfl rfl rfl rfl (by first | omega | (simp only [List.length_append, List.length_cons, List.length_nil]; omega)) rfl ?_)
      intro b117 c124 w118 hS121 a119 hE120; clear hS123 hE114 hi1 hi2 hi3 hi4
      refine q_step (v := .slice b117 ((out4 ++ ([gL (F_l08Parts f0 ([]) 0 ([])) i5])).length) c124) hE120 (y_assign rfl) rfl rfl rfl ?_; intro a125 hE126; clear hE120
      refine c_nil ?_
      have hE127 := hE126.sub (L' := [(1, .pointer (some ⟨b2, 0, none⟩)), (3, .slice b35 (((F_l08Parts f0 ([]) 0 ([]))).length) c36), (4, .slice b117 ((out4 ++ ([gL (F_l08Parts f0 ([]) 0 ([])) i5])).length) c124), (5, .int .i64 i5)]) ⟨rfl, rfl, rfl, rfl, trivial⟩; clear hE126
      refine p_bn ?_
      refine p_tn ?_
      refine c_reg ?_
      refine q_step (v := .int .i64 i5) hE127 (y_move rfl) rfl rfl rfl ?_; intro a128 hE129; clear hE127
      refine q_step (v := .int .i64 (i5 + 1)) hE129 (y_add rfl rfl ⟨(by omega), (by omega)⟩) rfl rfl rfl ?_; intro a130 hE131; clear hE129
      refine q_step (v := .int .i64 (i5 + 1)) hE131 (y_assign rfl) rfl rfl rfl ?_; intro a132 hE133; clear hE131
      refine c_nil ?_
      have hE134 := hE133.sub (L' := [(1, .pointer (some ⟨b2, 0, none⟩)), (3, .slice b35 (((F_l08Parts f0 ([]) 0 ([]))).length) c36), (4, .slice b117 ((out4 ++ ([gL (F_l08Parts f0 ([]) 0 ([])) i5])).length) c124), (5, .int .i64 (i5 + 1))]) ⟨rfl, rfl, rfl, rfl, trivial⟩; clear hE133
      refine p_tn ⟨r64, Nat.lt_succ_self _, out4 ++ ([gL (F_l08Parts f0 ([]) 0 ([])) i5]), i5 + 1, b117, c124, out4H ++ ([⟨hdA h37 i5, (gL (F_l08Parts f0 ([]) 0 ([])) i5).length, hdC h37 i5⟩]), (hT58.symm.trans (show F_l08Congruences_L1b f0 f1 (F_l08Congruences_L1 f0 f1 r64) out4 i5 = F_l08Congruences_L1 f0 f1 r64 (out4 ++ ([gL (F_l08Parts f0 ([]) 0 ([])) i5])) (i5 + 1) by unfold F_l08Congruences_L1b; rw [ht99, ht74]; first | done | rfl)).symm, (by omega), (by first | omega | (simp only [sS_len, sL_len]; omega) | (simp only [List.length_replicate, sI_len]; omega) | (simp only [List.length_append, List.length_cons, List.length_nil, sI_len, cond_true, cond_false]; omega) | (simp only [List.length_append, List.length_cons, List.length_nil, sI_len, cond_eq_ite, apply_ite List.length]; split <;> simp only [List.length_append, List.length_cons, List.length_nil, sI_len] <;> omega) | grind), (by first | assumption | exact FrH.app (by assumption) (FrH.at hfrz _ _ _)), (by first | omega | (simp only [sS_len, sL_len]; omega) | (simp only [List.length_replicate, sI_len]; omega) | (simp only [List.length_append, List.length_cons, List.length_nil, sI_len, cond_true, cond_false]; omega) | (simp only [List.length_append, List.length_cons, List.length_nil, sI_len, cond_eq_ite, apply_ite List.length]; split <;> simp only [List.length_append, List.length_cons, List.length_nil, sI_len] <;> omega) | grind), (by first | omega | (simp only [sS_len, sL_len]; omega) | (simp only [List.length_replicate, sI_len]; omega) | (simp only [List.length_append, List.length_cons, List.length_nil, sI_len, cond_true, cond_false]; omega) | (simp only [List.length_append, List.length_cons, List.length_nil, sI_len, cond_eq_ite, apply_ite List.length]; split <;> simp only [List.length_append, List.length_cons, List.length_nil, sI_len] <;> omega) | grind), (hE134.sub (L' := [(1, .pointer (some ⟨b2, 0, none⟩)), (3, .slice b35 (((F_l08Parts f0 ([]) 0 ([]))).length) c36), (4, .slice b117 ((out4 ++ ([gL (F_l08Parts f0 ([]) 0 ([])) i5])).length) c124), (5, .int .i64 (i5 + 1))]) ⟨rfl, rfl, rfl, rfl, trivial⟩), (St.pick (Γ' := [.nest 22 1 none b117 c124 (out4H ++ ([⟨hdA h37 i5, (gL (F_l08Parts f0 ([]) 0 ([])) i5).length, hdC h37 i5⟩])) (out4 ++ ([gL (F_l08Parts f0 ([]) 0 ([])) i5])), .nest 22 1 none b35 c36 h37 (F_l08Parts f0 ([]) 0 ([])), .blk b2 #[.int .i64 f0, .slice f1A f1.length f1C] 30, .rd 1 f1A f1.length f1C f1]) hS121 [0, 1, 2, 3] (by decide) rfl)⟩
     ·
      have hE135 := hE98; rw [ht99] at hE135; clear hE98
      refine wp_skip ?_
      refine p_bn ?_
      refine p_tn ?_
      refine c_reg ?_
      refine q_step (v := .int .i64 i5) hE135 (y_move rfl) rfl rfl rfl ?_; intro a136 hE137; clear hE135
      refine q_step (v := .int .i64 (i5 + 1)) hE137 (y_add rfl rfl ⟨(by omega), (by omega)⟩) rfl rfl rfl ?_; intro a138 hE139; clear hE137
      refine q_step (v := .int .i64 (i5 + 1)) hE139 (y_assign rfl) rfl rfl rfl ?_; intro a140 hE141; clear hE139
      refine c_nil ?_
      have hE142 := hE141.sub (L' := [(1, .pointer (some ⟨b2, 0, none⟩)), (3, .slice b35 (((F_l08Parts f0 ([]) 0 ([]))).length) c36), (4, .slice out4A ((out4).length) out4C), (5, .int .i64 (i5 + 1))]) ⟨rfl, rfl, rfl, rfl, trivial⟩; clear hE141
      refine p_tn ⟨r64, Nat.lt_succ_self _, out4, i5 + 1, out4A, out4C, out4H, (hT58.symm.trans (show F_l08Congruences_L1b f0 f1 (F_l08Congruences_L1 f0 f1 r64) out4 i5 = F_l08Congruences_L1 f0 f1 r64 out4 (i5 + 1) by unfold F_l08Congruences_L1b; rw [ht99, ht74]; first | done | rfl)).symm, (by omega), (by first | omega | (simp only [sS_len, sL_len]; omega) | (simp only [List.length_replicate, sI_len]; omega) | (simp only [List.length_append, List.length_cons, List.length_nil, sI_len, cond_true, cond_false]; omega) | (simp only [List.length_append, List.length_cons, List.length_nil, sI_len, cond_eq_ite, apply_ite List.length]; split <;> simp only [List.length_append, List.length_cons, List.length_nil, sI_len] <;> omega) | grind), (by first | assumption | exact FrH.app (by assumption) (FrH.at hfrz _ _ _)), (by first | omega | (simp only [sS_len, sL_len]; omega) | (simp only [List.length_replicate, sI_len]; omega) | (simp only [List.length_append, List.length_cons, List.length_nil, sI_len, cond_true, cond_false]; omega) | (simp only [List.length_append, List.length_cons, List.length_nil, sI_len, cond_eq_ite, apply_ite List.length]; split <;> simp only [List.length_append, List.length_cons, List.length_nil, sI_len] <;> omega) | grind), (by first | omega | (simp only [sS_len, sL_len]; omega) | (simp only [List.length_replicate, sI_len]; omega) | (simp only [List.length_append, List.length_cons, List.length_nil, sI_len, cond_true, cond_false]; omega) | (simp only [List.length_append, List.length_cons, List.length_nil, sI_len, cond_eq_ite, apply_ite List.length]; split <;> simp only [List.length_append, List.length_cons, List.length_nil, sI_len] <;> omega) | grind), (hE142.sub (L' := [(1, .pointer (some ⟨b2, 0, none⟩)), (3, .slice b35 (((F_l08Parts f0 ([]) 0 ([]))).length) c36), (4, .slice out4A ((out4).length) out4C), (5, .int .i64 (i5 + 1))]) ⟨rfl, rfl, rfl, rfl, trivial⟩), (St.pick (Γ' := [.nest 22 1 none out4A out4C out4H out4, .nest 22 1 none b35 c36 h37 (F_l08Parts f0 ([]) 0 ([])), .blk b2 #[.int .i64 f0, .slice f1A f1.length f1C] 30, .rd 1 f1A f1.length f1C f1]) hS96 [0, 1, 2, 3] (by decide) rfl)⟩
    ·
     have hp143 := of_decide_eq_false ht74
     have hE144 := hE73; rw [ht74] at hE144; clear hE73
     refine wp_exit ?_
     refine p_te ?_
     have hX145 : F_l08Congruences_L1 f0 f1 (Int.toNat ((((F_l08Parts f0 ([]) 0 ([]))).length : Int) - 0) + 1) ([]) 0 = (out4, i5) := hT58.symm.trans (show F_l08Congruences_L1b f0 f1 (F_l08Congruences_L1 f0 f1 r64) out4 i5 = (out4, i5) by unfold F_l08Congruences_L1b; rw [ht74]; first | done | rfl)
     refine p_te (p_be (p_tn ?_))
     exact ⟨out4A, out4C, out4H, (by rw [hX145]; exact (show 0 ≤ i5 from (by first | omega | (simp only [sS_len, sL_len]; omega) | (simp only [List.length_replicate, sI_len]; omega) | (simp only [List.length_append, List.length_cons, List.length_nil, sI_len, cond_true, cond_false]; omega) | (simp only [List.length_append, List.length_cons, List.length_nil, sI_len, cond_eq_ite, apply_ite List.length]; split <;> simp only [List.length_append, List.length_cons, List.length_nil, sI_len] <;> omega) | grind))), (show FrH w.heap.size out4H from (by first | omega | (simp only [sS_len, sL_len]; omega) | (simp only [List.length_replicate, sI_len]; omega) | (simp only [List.length_append, List.length_cons, List.length_nil, sI_len, cond_true, cond_false]; omega) | (simp only [List.length_append, List.length_cons, List.length_nil, sI_len, cond_eq_ite, apply_ite List.length]; split <;> simp only [List.length_append, List.length_cons, List.length_nil, sI_len] <;> omega) | grind)), (by rw [hX145]; exact (show (out4.length : Int) ≤ i5 from (by first | omega | (simp only [sS_len, sL_len]; omega) | (simp only [List.length_replicate, sI_len]; omega) | (simp only [List.length_append, List.length_cons, List.length_nil, sI_len, cond_true, cond_false]; omega) | (simp only [List.length_append, List.length_cons, List.length_nil, sI_len, cond_eq_ite, apply_ite List.length]; split <;> simp only [List.length_append, List.length_cons, List.length_nil, sI_len] <;> omega) | grind))), (by rw [hX145]; exact (show i5 ≤ (((F_l08Parts f0 ([]) 0 ([]))).length : Int) from (by first | omega | (simp only [sS_len, sL_len]; omega) | (simp only [List.length_replicate, sI_len]; omega) | (simp only [List.length_append, List.length_cons, List.length_nil, sI_len, cond_true, cond_false]; omega) | (simp only [List.length_append, List.length_cons, List.length_nil, sI_len, cond_eq_ite, apply_ite List.length]; split <;> simp only [List.length_append, List.length_cons, List.length_nil, sI_len] <;> omega) | grind))), (by rw [hX145]; exact (hE144.sub (L' := [(1, .pointer (some ⟨b2, 0, none⟩)), (3, .slice b35 (((F_l08Parts f0 ([]) 0 ([]))).length) c36), (4, .slice out4A ((out4).length) out4C), (5, .int .i64 i5)]) ⟨rfl, rfl, rfl, rfl, trivial⟩)), (by rw [hX145]; exact (St.pick (Γ' := [.nest 22 1 none out4A out4C out4H out4, .nest 22 1 none b35 c36 h37 (F_l08Parts f0 ([]) 0 ([])), .blk b2 #[.int .i64 f0, .slice f1A f1.length f1C] 30, .rd 1 f1A f1.length f1C f1]) hS57 [0, 1, 2, 3] (by decide) rfl))⟩
  ·
   rintro a146 w147 ⟨out4A_53, out4C_53, out4H_53, hi151, hi152, hi153, hi154, hE148, hS149⟩; clear hE52 hS43
   refine p_tn ?_
   refine c_seq ?_
   refine c_reg ?_
   refine q_step (v := .slice out4A_53 (((F_l08Congruences_L1 f0 f1 (Int.toNat ((((F_l08Parts f0 ([]) 0 ([]))).length : Int) - 0) + 1) ([]) 0).1).length) out4C_53) hE148 (y_move rfl) rfl rfl rfl ?_; intro a155 hE156; clear hE148
   refine q_step (v := .slice out4A_53 (((F_l08Congruences_L1 f0 f1 (Int.toNat ((((F_l08Parts f0 ([]) 0 ([]))).length : Int) - 0) + 1) ([]) 0).1).length) out4C_53) hE156 (y_assign rfl) rfl rfl rfl ?_; intro a157 hE158; clear hE156
   refine c_nil ?_
   have hE159 := hE158.sub (L' := [(2, .slice out4A_53 (((F_l08Congruences_L1 f0 f1 (Int.toNat ((((F_l08Parts f0 ([]) 0 ([]))).length : Int) - 0) + 1) ([]) 0).1).length) out4C_53)]) ⟨rfl, trivial⟩; clear hE158
   refine p_tn ?_
   refine wp_ret ?_
   have hF : F_l08Congruences f0 f1 = (F_l08Congruences_L1 f0 f1 (Int.toNat ((((F_l08Parts f0 ([]) 0 ([]))).length : Int) - 0) + 1) ([]) 0).1 := by unfold F_l08Congruences; rfl
   refine c_ret1 hE159 rfl rfl ?_
   have hS9 := (St.pick (Γ' := [.nest 22 1 none out4A_53 out4C_53 out4H_53 ((F_l08Congruences_L1 f0 f1 (Int.toNat ((((F_l08Parts f0 ([]) 0 ([]))).length : Int) - 0) + 1) ([]) 0).1)]) hS149 [0] (by decide) rfl)
   exact ⟨out4A_53, out4C_53, out4H_53, (by rw [hF]; first | done | (dsimp only; done) | rfl), (by first | assumption | exact FrH.nil _), (by rw [hF]; (try dsimp only); exact hS9)⟩
theorem l08Congruences_len (f0 : Int) (f1 : List Int) : True := trivial
def F_s_AllCongruences (f0 : Int) (f1 : List Int) : (List (List Int)) × (Int) :=
  bif (!(F_l05Is f0 f1)) then ([], 1) else (bif (decide (200 < ((F_l08Congruences f0 f1).length : Int))) then ([], 3) else (F_l08Congruences f0 f1, 0))
theorem cf_s_AllCongruences (args : Array Value) (w : World) : (callFunc 44 args).run Try.prog w = .ok (.enter 44 args) w := by kernel_rfl
set_option maxRecDepth 100000 in
theorem c_s_AllCongruences (f0 : Int) (f1A : Option Addr) (f1N f1C : Nat) (f1 : List Int) (w : World) (f1R : RdS w 1 f1A f1N f1C f1) :
    Calls Try.prog 44 #[.agg #[.int .i64 f0, .slice f1A f1N f1C]] w (Ret fun v w' => ∃ b1 : Option Addr, ∃ c1 : Nat, ∃ h1 : List Hd, v = .tuple #[.slice b1 ((F_s_AllCongruences f0 f1).1).length c1, .int .i64 ((F_s_AllCongruences f0 f1).2)] ∧ FrH w.heap.size h1 ∧ St w w' (.nest 22 1 none b1 c1 h1 ((F_s_AllCongruences f0 f1).1) :: [])) := by
  obtain rfl : f1N = f1.length := f1R.len1.symm
  have f1Le := f1R.le
  have hS := St.nil w
  have hS1 := St.rd0 hS rfl f1R; clear hS
  refine enter (args := [.agg #[.int .i64 f0, .slice f1A f1.length f1C]]) Try.func44 rfl rfl ?_
  rw [Try.ntmps44]; intro a hE
  have hE := hE.sub (L' := [(0, .agg #[.int .i64 f0, .slice f1A f1.length f1C])]) ⟨rfl, trivial⟩
  refine c_seq ?_
  refine c_reg ?_
  refine l_step hE rfl (l_box (v := .agg #[.int .i64 f0, .slice f1A f1.length f1C]) (cs := #[.int .i64 f0, .slice f1A f1.length f1C]) hS1 hE rfl rfl rfl ?_)
  intro b2 w3 hS6 he7 a4 hE5; clear hS1 hE
  refine q_step (v := .slice none 0 0) hE5 (y_assign rfl) rfl rfl rfl ?_; intro a8 hE9; clear hE5
  refine q_step (v := .int .i64 0) hE9 (y_assign rfl) rfl rfl rfl ?_; intro a10 hE11; clear hE9
  refine c_nil ?_
  have hE12 := hE11.sub (L' := [(1, .pointer (some ⟨b2, 0, none⟩))]) ⟨rfl, trivial⟩; clear hE11
  refine p_tn ?_
  refine c_seq ?_
  refine c_seq ?_
  refine c_reg ?_
  refine q_step (v := .agg #[.int .i64 f0, .slice f1A f1.length f1C]) hE12 (y_loadS Try.underlying30 rfl (by kernel_rfl) rfl (St.row (i := 0) hS6 rfl)) rfl rfl rfl ?_; intro a13 hE14; clear hE12
  refine l_step hE14 rfl (l_call (f := 94) (argv := [.agg #[.int .i64 f0, .slice f1A f1.length f1C]]) hE14 (fun _ => cf_l05Is _ _) rfl rfl (c_l05Is f0 f1A f1.length f1C f1 w3 (St.rdR (i := 1) hS6 rfl)) ?_)
  rintro _ w16 ⟨rfl, he20⟩ a17 hE18; clear hE14
  have hS19 := St.go hS6 he20; clear hS6
  refine q_step (v := .bool (!(F_l05Is f0 f1))) hE18 (y_not rfl) rfl rfl rfl ?_; intro a21 hE22; clear hE18
  refine c_nil ?_
  have hE23 := hE22.sub (L' := [(1, .pointer (some ⟨b2, 0, none⟩)), (7, .bool (!(F_l05Is f0 f1)))]) ⟨rfl, rfl, trivial⟩; clear hE22
  refine p_tn ?_
  refine c_cond hE23 rfl (fun ht24 => ?_) (fun ht24 => ?_)
  ·
   have ht25 := bn_t ht24
   have hE26 := hE23; rw [ht24] at hE26; clear hE23
   refine c_seq ?_
   refine c_reg ?_
   refine q_step (v := .slice none 0 0) hE26 (y_assign rfl) rfl rfl rfl ?_; intro a27 hE28; clear hE26
   refine q_step (v := .int .i64 1) hE28 (y_assign rfl) rfl rfl rfl ?_; intro a29 hE30; clear hE28
   refine c_nil ?_
   have hE31 := hE30.sub (L' := [(2, .slice none 0 0), (3, .int .i64 1)]) ⟨rfl, rfl, trivial⟩; clear hE30
   refine p_tn ?_
   refine wp_ret ?_
   refine p_tr ?_
   have hF : F_s_AllCongruences f0 f1 = ([], 1) := by unfold F_s_AllCongruences; rw [ht24]; first | done | rfl
   refine c_ret2 hE31 rfl rfl rfl ?_
   have hS32 := St.nilsN hS19 22 1 none; clear hS19
   have hS9 := (St.pick (Γ' := [.nest 22 1 none none 0 ([]) ([])]) hS32 [0] (by decide) rfl)
   exact ⟨none, 0, [], (by rw [hF]; (try dsimp only); rw [(show 0 = ([]).length by first | omega | (simp only [sS_len, sL_len]; omega) | (simp only [List.length_replicate, sI_len]; omega) | (simp only [List.length_append, List.length_cons, List.length_nil, sI_len, cond_true, cond_false]; omega) | (simp only [List.length_append, List.length_cons, List.length_nil, sI_len, cond_eq_ite, apply_ite List.length]; split <;> simp only [List.length_append, List.length_cons, List.length_nil, sI_len] <;> omega) | grind)]), (by first | assumption | exact FrH.nil _), (by rw [hF]; (try dsimp only); exact hS9)⟩
  ·
   have ht33 := bn_f ht24
   have hp34 := l05Is_t ht33
   have hE35 := hE23; rw [ht24] at hE35; clear hE23
   refine wp_skip ?_
   refine p_tn ?_
   refine c_seq ?_
   refine c_reg ?_
   refine q_step (v := .agg #[.int .i64 f0, .slice f1A f1.length f1C]) hE35 (y_loadS Try.underlying30 rfl (by kernel_rfl) rfl (St.row (i := 0) hS19 rfl)) rfl rfl rfl ?_; intro a36 hE37; clear hE35
   refine l_step hE37 rfl (l_call (f := 108) (argv := [.agg #[.int .i64 f0, .slice f1A f1.length f1C]]) hE37 (fun _ => cf_l08Congruences _ _) rfl rfl (c_l08Congruences f0 f1A f1.length f1C f1 w16 (St.rdR (i := 1) hS19 rfl) (by omega) (by omega) (l05Is_m (by assumption))) ?_)
   rintro _ w39 ⟨b44, c45, h46, rfl, hf48, ho47⟩ a40 hE41; clear hE37
   have he43 := ho47.ext
   have hf49 := l08Congruences_len f0 f1
   have hf50 := FrH.mono hf48 (hS19.ext.size)
   have hS42 := St.compF hS19 ho47 hf48; clear hS19
   refine q_step (v := .slice b44 ((F_l08Congruences f0 f1).length) c45) hE41 (y_assign rfl) rfl rfl rfl ?_; intro a51 hE52; clear hE41
   refine c_nil ?_
   have hE53 := hE52.sub (L' := [(4, .slice b44 ((F_l08Congruences f0 f1).length) c45)]) ⟨rfl, trivial⟩; clear hE52
   refine p_tn ?_
   refine c_seq ?_
   refine c_seq ?_
   refine c_reg ?_
   refine q_step (v := .slice b44 ((F_l08Congruences f0 f1).length) c45) hE53 (y_move rfl) rfl rfl rfl ?_; intro a54 hE55; clear hE53
   refine q_step (v := .int .i64 ((F_l08Congruences f0 f1).length : Int)) hE55 (y_len (e := 22) (by kernel_rfl) rfl) rfl rfl rfl ?_; intro a56 hE57; clear hE55
   refine q_step (v := .bool (decide (200 < ((F_l08Congruences f0 f1).length : Int)))) hE57 (y_gtr rfl rfl) rfl rfl rfl ?_; intro a58 hE59; clear hE57
   refine c_nil ?_
   have hE60 := hE59.sub (L' := [(4, .slice b44 ((F_l08Congruences f0 f1).length) c45), (12, .bool (decide (200 < ((F_l08Congruences f0 f1).length : Int))))]) ⟨rfl, rfl, trivial⟩; clear hE59
   refine p_tn ?_
   refine c_cond hE60 rfl (fun ht61 => ?_) (fun ht61 => ?_)
   ·
    have hp62 := of_decide_eq_true ht61
    have hE63 := hE60; rw [ht61] at hE63; clear hE60
    refine c_seq ?_
    refine c_reg ?_
    refine q_step (v := .slice none 0 0) hE63 (y_assign rfl) rfl rfl rfl ?_; intro a64 hE65; clear hE63
    refine q_step (v := .int .i64 3) hE65 (y_assign rfl) rfl rfl rfl ?_; intro a66 hE67; clear hE65
    refine c_nil ?_
    have hE68 := hE67.sub (L' := [(2, .slice none 0 0), (3, .int .i64 3)]) ⟨rfl, rfl, trivial⟩; clear hE67
    refine p_tn ?_
    refine wp_ret ?_
    refine p_tr ?_
    have hF : F_s_AllCongruences f0 f1 = ([], 3) := by unfold F_s_AllCongruences; rw [ht61, ht24]; first | done | rfl
    refine c_ret2 hE68 rfl rfl rfl ?_
    have hS69 := St.nilsN hS42 22 1 none; clear hS42
    have hS9 := (St.pick (Γ' := [.nest 22 1 none none 0 ([]) ([])]) hS69 [0] (by decide) rfl)
    exact ⟨none, 0, [], (by rw [hF]; (try dsimp only); rw [(show 0 = ([]).length by first | omega | (simp only [sS_len, sL_len]; omega) | (simp only [List.length_replicate, sI_len]; omega) | (simp only [List.length_append, List.length_cons, List.length_nil, sI_len, cond_true, cond_false]; omega) | (simp only [List.length_append, List.length_cons, List.length_nil, sI_len, cond_eq_ite, apply_ite List.length]; split <;> simp only [List.length_append, List.length_cons, List.length_nil, sI_len] <;> omega) | grind)]), (by first | assumption | exact FrH.nil _), (by rw [hF]; (try dsimp only); exact hS9)⟩
   ·
    have hp70 := of_decide_eq_false ht61
    have hE71 := hE60; rw [ht61] at hE71; clear hE60
    refine wp_skip ?_
    refine p_tn ?_
    refine c_seq ?_
    refine c_reg ?_
    refine q_step (v := .slice b44 ((F_l08Congruences f0 f1).length) c45) hE71 (y_move rfl) rfl rfl rfl ?_; intro a72 hE73; clear hE71
    refine q_step (v := .slice b44 ((F_l08Congruences f0 f1).length) c45) hE73 (y_assign rfl) rfl rfl rfl ?_; intro a74 hE75; clear hE73
    refine q_step (v := .int .i64 0) hE75 (y_assign rfl) rfl rfl rfl ?_; intro a76 hE77; clear hE75
    refine c_nil ?_
    have hE78 := hE77.sub (L' := [(2, .slice b44 ((F_l08Congruences f0 f1).length) c45), (3, .int .i64 0)]) ⟨rfl, rfl, trivial⟩; clear hE77
    refine p_tn ?_
    refine wp_ret ?_
    have hF : F_s_AllCongruences f0 f1 = (F_l08Congruences f0 f1, 0) := by unfold F_s_AllCongruences; rw [ht61, ht24]; first | done | rfl
    refine c_ret2 hE78 rfl rfl rfl ?_
    have hS9 := (St.pick (Γ' := [.nest 22 1 none b44 c45 h46 (F_l08Congruences f0 f1)]) hS42 [0] (by decide) rfl)
    exact ⟨b44, c45, h46, (by rw [hF]; first | done | (dsimp only; done) | rfl), (by first | assumption | exact FrH.nil _), (by rw [hF]; (try dsimp only); exact hS9)⟩
end Go.Proofs.Ytlbonhloeefnmaa
