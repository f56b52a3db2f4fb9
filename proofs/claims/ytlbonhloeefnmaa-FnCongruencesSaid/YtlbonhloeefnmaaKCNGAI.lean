/- GAI: models and contracts, printed by wip/gen/gen.py -/
import Derived.Test.YtlbonhloeefnmaaKCNGAD
set_option linter.unusedVariables false
set_option linter.unusedSimpArgs false
namespace Go.Proofs.Ytlbonhloeefnmaa
open Go.RowKit
def F_congruences_k1 (classes : List Int) (f0 : Int) (f1 : List Int) (out : List (List Int)) : List (List Int) :=
  bif (F_isCongruence f0 f1 classes) then (out ++ ([classes])) else out
theorem cf_congruences_k1 (args : Array Value) (w : World) : (callFunc 191 args).run Try.prog w = .ok (.enter 191 args) w := by kernel_rfl
set_option maxRecDepth 100000 in
theorem c_congruences_k1 (classesA : Option Addr) (classesN classesC : Nat) (classes : List Int) (fB : Nat) (f0 : Int) (f1A : Option Addr) (f1N f1C : Nat) (f1 : List Int) (outB : Nat) (outA : Option Addr) (outC : Nat) (outQ : List Hd) (out : List (List Int)) (w : World) (w0v : World) (Γ0 : List Ent) (hS0 : St w0v w (.own 2 1 classesA classesN classesC classes :: .blk fB #[.int .i64 f0, .slice f1A f1N f1C] 30 :: .rd 1 f1A f1N f1C f1 :: .blk outB #[.slice outA ((out).length) outC] 60 :: .nest 22 1 (some 2) outA outC outQ out :: Γ0)) (hf : 0 ≤ f0 ∧ f0 ≤ 8) (hfl : (f1.length : Int) = f0) (hfm : ∀ m : Int, 0 ≤ m → m < (f1.length : Int) → 0 ≤ gI f1 m ∧ gI f1 m ≤ fullI f0) (hl : (classes.length : Int) ≤ 8) (ho : out.length ≤ 10000) :
    Calls Try.prog 191 #[.slice classesA classesN classesC, .pointer (some ⟨fB, 0, none⟩), .pointer (some ⟨outB, 0, none⟩)] w (Ret fun v w' => ∃ outA1 : Option Addr, ∃ outC1 : Nat, ∃ outQ1 : List Hd, v = .tuple #[] ∧ St w0v w' (.own 2 1 classesA classesN classesC classes :: .blk fB #[.int .i64 f0, .slice f1A f1N f1C] 30 :: .rd 1 f1A f1N f1C f1 :: .blk outB #[.slice outA1 ((F_congruences_k1 classes f0 f1 out).length) outC1] 60 :: .nest 22 1 (some 2) outA1 outC1 outQ1 (F_congruences_k1 classes f0 f1 out) :: Γ0)) := by
  obtain rfl : classesN = classes.length := (St.rdO (i := 0) hS0 rfl).len1.symm
  have classesLe := (St.rdO (i := 0) hS0 rfl).le
  obtain rfl : f1N = f1.length := (St.rdR (i := 2) hS0 rfl).len1.symm
  have f1Le := (St.rdR (i := 2) hS0 rfl).le
  have outLe := (St.rdNo (i := 4) hS0 rfl).le
  refine enter (args := [.slice classesA classes.length classesC, .pointer (some ⟨fB, 0, none⟩), .pointer (some ⟨outB, 0, none⟩)]) Try.func191 rfl rfl ?_
  rw [Try.ntmps191]; intro a hE
  have hE := hE.sub (L' := [(0, .slice classesA classes.length classesC), (1, .pointer (some ⟨fB, 0, none⟩)), (2, .pointer (some ⟨outB, 0, none⟩))]) ⟨rfl, rfl, rfl, trivial⟩
  refine c_seq ?_
  refine c_reg ?_
  refine q_step (v := .agg #[.int .i64 f0, .slice f1A f1.length f1C]) hE (y_loadS Try.underlying30 rfl (by kernel_rfl) rfl (St.row (i := 1) hS0 rfl)) rfl rfl rfl ?_; intro a1 hE2; clear hE
  refine q_step (v := .slice classesA classes.length classesC) hE2 (y_move rfl) rfl rfl rfl ?_; intro a3 hE4; clear hE2
  refine l_step hE4 rfl (l_call (f := 111) (argv := [.agg #[.int .i64 f0, .slice f1A f1.length f1C], .slice classesA classes.length classesC]) hE4 (fun _ => cf_isCongruence _ _) rfl rfl (c_isCongruence f0 f1A f1.length f1C f1 classesA classes.length classesC classes w (St.rdR (i := 2) hS0 rfl) (St.rdO (i := 0) hS0 rfl) (by omega) (by omega) (by omega) (by omega)) ?_)
  rintro _ w6 ⟨rfl, he10⟩ a7 hE8; clear hE4
  have hS9 := St.go hS0 he10; clear hS0
  refine c_nil ?_
  have hE11 := hE8.sub (L' := [(0, .slice classesA classes.length classesC), (2, .pointer (some ⟨outB, 0, none⟩)), (6, .bool (F_isCongruence f0 f1 classes))]) ⟨rfl, rfl, rfl, trivial⟩; clear hE8
  refine p_tn ?_
  refine c_cond hE11 rfl (fun ht12 => ?_) (fun ht12 => ?_)
  ·
   have hE13 := hE11; rw [ht12] at hE13; clear hE11
   refine d_start (fun w w' => (fun w' => w'.cell? ⟨outB, 0, none⟩ = some (.slice outA ((out).length) outC) ∧ True) w → (fun w' => w'.cell? ⟨outB, 0, none⟩ = some (.slice outA ((out).length) outC) ∧ True) w') [0] 6 (by kernel_rfl) rfl ?_
   intro w14 he15; have hS16 := St.go hS9 he15; clear hS9
   refine d_take (fun _ h => h) (fun _ _ h k => h k) (v := .slice outA ((out).length) outC) 0 rfl hE13 (S := fun w' => w'.cell? ⟨outB, 0, none⟩ = some (.slice outA ((out).length) outC) ∧ True) ⟨(St.cell (i := 3) hS16 rfl rfl _ (Ext.refl _)), trivial⟩ (y_load (fun _ => by kernel_rfl) rfl (fun _ h => h.1)) rfl rfl (by kernel_rfl) (by kernel_rfl) (by kernel_rfl) (by kernel_rfl) rfl rfl (fun _ _ _ h => h) ?_; intro a17 hE18; clear hE13
   refine d_pure (fun _ h => h) (v := .slice classesA classes.length classesC) 1 rfl hE18 (y_move rfl) rfl (by kernel_rfl) (by kernel_rfl) (by kernel_rfl) rfl rfl (fun _ _ _ h => h) ?_; intro a19 hE20; clear hE18
   refine d_only 2 (by kernel_rfl) rfl hE20 rfl (l_call (f := 184) (argv := [.slice classesA classes.length classesC]) hE20 (fun _ => cf_z_CloneS _ _) rfl rfl (c_z_Clone classesA classes.length classesC classes w14 (St.rdO (i := 0) hS16 rfl) (by omega)) ?_)
   rintro _ w22 ⟨b27, c28, rfl, ho29, he26⟩ a23 hE24; clear hE20
   have hS25 := St.own hS16 he26 ho29; clear hS16
   refine ⟨fun _ _ => ⟨(St.cell (i := 4) hS25 rfl rfl _ (Ext.refl _)), trivial⟩, ?_⟩
   have hS36 := (St.pickT (Γ := [.own 2 1 b27 ((classes).length) c28 classes, .own 2 1 classesA classes.length classesC classes, .blk fB #[.int .i64 f0, .slice f1A f1.length f1C] 30, .rd 1 f1A f1.length f1C f1, .blk outB #[.slice outA ((out).length) outC] 60, .nest 22 1 (some 2) outA outC outQ out]) (Γ' := [.own 2 1 b27 ((classes).length) c28 classes, .own 2 1 classesA classes.length classesC classes, .blk fB #[.int .i64 f0, .slice f1A f1.length f1C] 30, .rd 1 f1A f1.length f1C f1, .blk outB #[.slice outA ((out).length) outC] 60, .nest 22 1 (some 2) outA outC outQ out]) (Γ0 := Γ0) hS25 [0, 1, 2, 3, 4, 5] (by decide) rfl rfl); clear hS25
   refine d_only 3 (by kernel_rfl) rfl hE24 rfl (l_litO1 (e := 22) hS36 hE24 rfl (fun _ => by kernel_rfl) rfl ?_)
   intro b30 w31 hS34 he35 a32 hE33; clear hS36 hE24
   refine ⟨fun _ _ => ⟨(St.cell (i := 4) hS34 rfl rfl _ (Ext.refl _)), trivial⟩, ?_⟩
   have hS43 := (St.pickT (Γ := [.nest 22 1 (some 2) (some ⟨b30, 0, none⟩) 1 ([⟨b27, (classes).length, c28⟩]) ([classes]), .own 2 1 classesA classes.length classesC classes, .blk fB #[.int .i64 f0, .slice f1A f1.length f1C] 30, .rd 1 f1A f1.length f1C f1, .blk outB #[.slice outA ((out).length) outC] 60, .nest 22 1 (some 2) outA outC outQ out]) (Γ' := [.nest 22 1 (some 2) (some ⟨b30, 0, none⟩) 1 ([⟨b27, (classes).length, c28⟩]) ([classes]), .own 2 1 classesA classes.length classesC classes, .blk fB #[.int .i64 f0, .slice f1A f1.length f1C] 30, .rd 1 f1A f1.length f1C f1, .blk outB #[.slice outA ((out).length) outC] 60, .nest 22 1 (some 2) outA outC outQ out]) (Γ0 := Γ0) hS34 [0, 1, 2, 3, 4, 5] (by decide) rfl rfl); clear hS34
   obtain ⟨_, hi1, hi2, hi3, hi4⟩ := info_parts (show (Try.prog.info? 22).map (fun i => (i.zero, i.size, i.bytes)) = some (some (.slice none 0 0), 1, 24) by kernel_rfl)
   refine d_only 4 (by kernel_rfl) rfl hE33 rfl (l_appendN (k := 4) hS43 hE33 (by kernel_rfl) hi1 hi2 hi3 rfl (by rw [hi4]; decide) rfl rfl rfl rfl rfl rfl (by first | omega | (simp only [List.length_append, List.length_cons, List.length_nil]; omega)) rfl ?_)
   intro b37 c44 w38 hS41 a39 hE40; clear hS43 hE33 hi1 hi2 hi3 hi4
   refine ⟨fun h => Bool.noConfusion (h.symm.trans (show exm _ _ _ = true by kernel_rfl)), ?_⟩
   refine d_only 5 (by kernel_rfl) rfl hE40 rfl (l_storeB (k := 3) (cs' := #[.slice b37 ((out ++ ([classes])).length) c44]) hS41 hE40 (fun _ => by kernel_rfl) rfl rfl rfl rfl rfl rfl rfl ?_)
   intro w46 hS49 a47 hE48; clear hS41 hE40
   refine ⟨fun h => Bool.noConfusion (h.symm.trans (show exm _ _ _ = true by kernel_rfl)), ?_⟩
   refine d_done (by kernel_rfl) ?_
   have hE51 := hE48.sub (L' := []) trivial; clear hE48
   have hF : F_congruences_k1 classes f0 f1 out = out ++ ([classes]) := by unfold F_congruences_k1; rw [ht12]; first | done | rfl
   refine c_end0 hE51 rfl ?_
   have hS9 := (St.pickT (Γ := [.own 2 1 classesA classes.length classesC classes, .blk fB #[.int .i64 f0, .slice f1A f1.length f1C] 30, .rd 1 f1A f1.length f1C f1, .blk outB #[.slice b37 ((out ++ ([classes])).length) c44] 60, .nest 22 1 (some 2) b37 c44 (outQ ++ ([⟨b27, (classes).length, c28⟩])) (out ++ ([classes]))]) (Γ' := [.own 2 1 classesA classes.length classesC classes, .blk fB #[.int .i64 f0, .slice f1A f1.length f1C] 30, .rd 1 f1A f1.length f1C f1, .blk outB #[.slice b37 ((out ++ ([classes])).length) c44] 60, .nest 22 1 (some 2) b37 c44 (outQ ++ ([⟨b27, (classes).length, c28⟩])) (out ++ ([classes]))]) (Γ0 := Γ0) hS49 [0, 1, 2, 3, 4] (by decide) rfl rfl)
   exact ⟨b37, c44, outQ ++ ([⟨b27, (classes).length, c28⟩]), rfl, (by rw [hF]; (try dsimp only); exact hS9)⟩
  ·
   have hE52 := hE11; rw [ht12] at hE52; clear hE11
   refine wp_skip ?_
   have hF : F_congruences_k1 classes f0 f1 out = out := by unfold F_congruences_k1; rw [ht12]; first | done | rfl
   refine c_end0 hE52 rfl ?_
   have hS9 := (St.pickT (Γ := [.own 2 1 classesA classes.length classesC classes, .blk fB #[.int .i64 f0, .slice f1A f1.length f1C] 30, .rd 1 f1A f1.length f1C f1, .blk outB #[.slice outA ((out).length) outC] 60, .nest 22 1 (some 2) outA outC outQ out]) (Γ' := [.own 2 1 classesA classes.length classesC classes, .blk fB #[.int .i64 f0, .slice f1A f1.length f1C] 30, .rd 1 f1A f1.length f1C f1, .blk outB #[.slice outA ((out).length) outC] 60, .nest 22 1 (some 2) outA outC outQ out]) (Γ0 := Γ0) hS9 [0, 1, 2, 3, 4] (by decide) rfl rfl)
   exact ⟨outA, outC, outQ, rfl, (by rw [hF]; (try dsimp only); exact hS9)⟩
def F_allClasses_k1_L1b (count : Int) (nn : Int) (f0 : Int) (f1 : List Int) (self : Int → List Int → Int → Int → List Int → List (List Int) → (List Int × List (List Int))) (rec : Int → (List Int) → (List (List Int)) → Int × (List Int) × (List (List Int))) (t16 : Int) (q9_0 : List Int) (q2_0 : List (List Int)) : Int × (List Int) × (List (List Int)) :=
  bif (decide (t16 < (count + 1))) then (rec (t16 + 1) (slI 1 ((self (max count (t16 + 1)) (q9_0 ++ ([t16])) nn f0 f1 q2_0).1) 0 ((((self (max count (t16 + 1)) (q9_0 ++ ([t16])) nn f0 f1 q2_0).1).length : Int) - 1)) ((self (max count (t16 + 1)) (q9_0 ++ ([t16])) nn f0 f1 q2_0).2)) else (t16, q9_0, q2_0)
def F_allClasses_k1_L1 (count : Int) (nn : Int) (f0 : Int) (f1 : List Int) (self : Int → List Int → Int → Int → List Int → List (List Int) → (List Int × List (List Int))) : Nat → Int → (List Int) → (List (List Int)) → Int × (List Int) × (List (List Int))
  | 0, t16, q9_0, q2_0 => (t16, q9_0, q2_0)
  | r + 1, t16, q9_0, q2_0 => F_allClasses_k1_L1b count nn f0 f1 self (F_allClasses_k1_L1 count nn f0 f1 self r) t16 q9_0 q2_0
def F_allClasses_k1_b (self : Int → List Int → Int → Int → List Int → List (List Int) → (List Int × List (List Int))) (count : Int) (classes : List Int) (nn : Int) (f0 : Int) (f1 : List Int) (out : List (List Int)) : List Int × List (List Int) :=
  bif (decide ((classes.length : Int) = nn)) then (classes, (F_congruences_k1 classes f0 f1 out)) else ((F_allClasses_k1_L1 count nn f0 f1 self (Int.toNat ((count + 1) - 0) + 1) 0 classes out).2.1, (F_allClasses_k1_L1 count nn f0 f1 self (Int.toNat ((count + 1) - 0) + 1) 0 classes out).2.2)
def F_allClasses_k1_r : Nat → Int → List Int → Int → Int → List Int → List (List Int) → (List Int × List (List Int))
  | 0 => fun _ _ _ _ _ _ => default
  | r + 1 => F_allClasses_k1_b (F_allClasses_k1_r r)
def F_allClasses_k1 (count : Int) (classes : List Int) (nn : Int) (f0 : Int) (f1 : List Int) (out : List (List Int)) : List Int × List (List Int) := F_allClasses_k1_r ((nn - (classes.length : Int)).toNat + 1) count classes nn f0 f1 out
theorem slI_pop (cs : List Int) (k : Int) : slI 1 (cs ++ [k]) 0 (((cs ++ [k]).length : Int) - 1) = cs := by
  unfold slI
  have e : (((cs ++ [k]).length : Int) - 1).toNat = cs.length := by rw [app1_len']; omega
  rw [e]
  simp
theorem grow_dfs (nn f0 : Int) (f1 : List Int) : ∀ (d r : Nat) (count : Int) (classes : List Int) (out : List (List Int)), nn - (classes.length : Int) = (d : Int) → 0 ≤ count → d < r → F_allClasses_k1_r r count classes nn f0 f1 out = (classes, (Dfs d classes count.toNat).foldl (fun o c => F_congruences_k1 c f0 f1 o) out) := by
  intro d
  induction d with
  | zero =>
    intro r count classes out hd h0 hr
    obtain ⟨r, rfl⟩ : ∃ r', r = r' + 1 := ⟨r - 1, by omega⟩
    show F_allClasses_k1_b (F_allClasses_k1_r r) count classes nn f0 f1 out = _
    unfold F_allClasses_k1_b
    rw [decide_eq_true (by omega)]; rfl
  | succ d ih =>
    intro r count classes out hd h0 hr
    obtain ⟨r, rfl⟩ : ∃ r', r = r' + 1 := ⟨r - 1, by omega⟩
    have key : ∀ (k : Nat) (i : Int) (o : List (List Int)), count + 1 - i = (k : Int) → 0 ≤ i → (F_allClasses_k1_L1 count nn f0 f1 (F_allClasses_k1_r r) (k + 1) i classes o).2 = (classes, (List.range k).foldl (fun o (j : Nat) => (Dfs d (classes ++ [i + (j : Int)]) (max count.toNat (i.toNat + j + 1))).foldl (fun o c => F_congruences_k1 c f0 f1 o) o) o) := by
      intro k
      induction k with
      | zero =>
        intro i o hk hi
        show (F_allClasses_k1_L1b count nn f0 f1 (F_allClasses_k1_r r) _ i classes o).2 = _
        unfold F_allClasses_k1_L1b
        rw [decide_eq_false (by omega)]; rfl
      | succ k ihk =>
        intro i o hk hi
        show (F_allClasses_k1_L1b count nn f0 f1 (F_allClasses_k1_r r) (F_allClasses_k1_L1 count nn f0 f1 (F_allClasses_k1_r r) (k + 1)) i classes o).2 = _
        unfold F_allClasses_k1_L1b
        rw [decide_eq_true (by omega), cond_true, ih r (max count (i + 1)) (classes ++ [i]) o (by rw [app1_len']; omega) (by omega) (by omega)]
        dsimp only
        rw [slI_pop, ihk (i + 1) _ (by omega) (by omega), List.range_succ_eq_map, List.foldl_cons, List.foldl_map]
        have e1 : (max count (i + 1)).toNat = max count.toNat (i.toNat + 0 + 1) := by omega
        rw [e1, show i + ((0 : Nat) : Int) = i by omega]
        congr 2
        funext o j
        rw [show i + 1 + (j : Int) = i + ((j.succ : Nat) : Int) by omega, show (i + 1).toNat + j + 1 = i.toNat + j.succ + 1 by omega]
    show F_allClasses_k1_b (F_allClasses_k1_r r) count classes nn f0 f1 out = _
    unfold F_allClasses_k1_b
    have := key (count + 1).toNat 0 out (by omega) (by omega)
    rw [decide_eq_false (by omega), cond_false, show Int.toNat ((count + 1) - 0) = (count + 1).toNat by omega, this]
    show (classes, _) = (classes, ((List.range (count.toNat + 1)).flatMap fun (k : Nat) => Dfs d (classes ++ [(k : Int)]) (max count.toNat (k + 1))).foldl _ out)
    rw [List.foldl_flatMap, show (count + 1).toNat = count.toNat + 1 by omega]
    simp only [Int.zero_add, Int.toNat_zero, Nat.zero_add]
theorem congr_fold (f0 : Int) (f1 : List Int) : ∀ (l : List (List Int)) (o : List (List Int)), l.foldl (fun o c => F_congruences_k1 c f0 f1 o) o = o ++ l.filter (F_isCongruence f0 f1) := by
  intro l
  induction l with
  | nil => intro o; simp
  | cons c l ih =>
    intro o
    rw [List.foldl_cons, ih]
    unfold F_congruences_k1
    cases h : F_isCongruence f0 f1 c
    · rw [cond_false, List.filter_cons_of_neg (by rw [h]; decide)]
    · rw [cond_true, List.filter_cons_of_pos h, List.append_assoc]; rfl
theorem growLen : ∀ (r : Nat) (count : Int) (classes : List Int) (nn f0 : Int) (f1 : List Int) (out : List (List Int)) (hf : 0 ≤ f0 ∧ f0 ≤ 8) (hfl : (f1.length : Int) = f0) (hfm : ∀ m : Int, 0 ≤ m → m < (f1.length : Int) → 0 ≤ gI f1 m ∧ gI f1 m ≤ fullI f0) (hn : 0 ≤ nn ∧ nn ≤ 8) (hl : (classes.length : Int) ≤ nn) (ht : 0 ≤ count ∧ count ≤ (classes.length : Int)) (hb : out.length + Lf (nn - (classes.length : Int)).toNat count.toNat ≤ 10000) (hm : (nn - (classes.length : Int)).toNat < r),
    (F_allClasses_k1_r r count classes nn f0 f1 out).1 = classes ∧ (F_allClasses_k1_r r count classes nn f0 f1 out).2.length ≤ out.length + Lf (nn - (classes.length : Int)).toNat count.toNat := by
  intro r count classes nn f0 f1 out _ _ _ _ hl ht _ hm
  rw [grow_dfs nn f0 f1 (nn - (classes.length : Int)).toNat r count classes out (by omega) ht.1 hm]
  refine ⟨rfl, ?_⟩
  show (List.foldl _ out _).length ≤ _
  rw [congr_fold, List.length_append]
  have := List.length_filter_le (F_isCongruence f0 f1) (Dfs (nn - (classes.length : Int)).toNat classes count.toNat)
  rw [Dfs_len] at this
  omega
theorem cf_allClasses_k1 (args : Array Value) (w : World) : (callFunc 236 args).run Try.prog w = .ok (.enter 236 args) w := by kernel_rfl
set_option maxRecDepth 100000 in
theorem cb_allClasses_k1 (self : Int → List Int → Int → Int → List Int → List (List Int) → (List Int × List (List Int))) (mu : Nat) (hpost : ∀ (count : Int) (classes : List Int) (nn : Int) (f0 : Int) (f1 : List Int) (out : List (List Int)) (hf : 0 ≤ f0 ∧ f0 ≤ 8) (hfl : (f1.length : Int) = f0) (hfm : ∀ m : Int, 0 ≤ m → m < (f1.length : Int) → 0 ≤ gI f1 m ∧ gI f1 m ≤ fullI f0) (hn : 0 ≤ nn ∧ nn ≤ 8) (hl : (classes.length : Int) ≤ nn) (ht : 0 ≤ count ∧ count ≤ (classes.length : Int)) (hb : out.length + Lf (nn - (classes.length : Int)).toNat count.toNat ≤ 10000) (hm : (nn - (classes.length : Int)).toNat < mu), (self count classes nn f0 f1 out).1 = classes ∧ (self count classes nn f0 f1 out).2.length ≤ out.length + Lf (nn - (classes.length : Int)).toNat count.toNat) (count : Int) (classesB : Nat) (classesA : Option Addr) (classesN classesC : Nat) (classes : List Int) (nnB : Nat) (nn : Int) (visitB : Nat) (growB : Nat) (fB : Nat) (f0 : Int) (f1A : Option Addr) (f1N f1C : Nat) (f1 : List Int) (outB : Nat) (outA : Option Addr) (outC : Nat) (outQ : List Hd) (out : List (List Int)) (w : World) (w0v : World) (Γ0 : List Ent) (hS0 : St w0v w (.blk classesB #[.slice classesA classesN classesC] 22 :: .own 2 1 classesA classesN classesC classes :: .blk nnB #[.int .i64 nn] 2 :: .blk visitB #[.func (.func 191) #[] #[.pointer (some ⟨fB, 0, none⟩), .pointer (some ⟨outB, 0, none⟩)]] 151 :: .blk growB #[.func (.func 236) #[] #[.pointer (some ⟨classesB, 0, none⟩), .pointer (some ⟨nnB, 0, none⟩), .pointer (some ⟨visitB, 0, none⟩), .pointer (some ⟨growB, 0, none⟩)]] 167 :: .blk fB #[.int .i64 f0, .slice f1A f1N f1C] 30 :: .rd 1 f1A f1N f1C f1 :: .blk outB #[.slice outA ((out).length) outC] 60 :: .nest 22 1 (some 2) outA outC outQ out :: Γ0)) (hf : 0 ≤ f0 ∧ f0 ≤ 8) (hfl : (f1.length : Int) = f0) (hfm : ∀ m : Int, 0 ≤ m → m < (f1.length : Int) → 0 ≤ gI f1 m ∧ gI f1 m ≤ fullI f0) (hn : 0 ≤ nn ∧ nn ≤ 8) (hl : (classes.length : Int) ≤ nn) (ht : 0 ≤ count ∧ count ≤ (classes.length : Int)) (hb : out.length + Lf (nn - (classes.length : Int)).toNat count.toNat ≤ 10000) (hmu : mu = (nn - (classes.length : Int)).toNat) (ih : ∀ (count : Int) (classesB : Nat) (classesA : Option Addr) (classesN classesC : Nat) (classes : List Int) (nnB : Nat) (nn : Int) (visitB : Nat) (growB : Nat) (fB : Nat) (f0 : Int) (f1A : Option Addr) (f1N f1C : Nat) (f1 : List Int) (outB : Nat) (outA : Option Addr) (outC : Nat) (outQ : List Hd) (out : List (List Int)) (w : World) (w0v : World) (Γ0 : List Ent) (hS0 : St w0v w (.blk classesB #[.slice classesA classesN classesC] 22 :: .own 2 1 classesA classesN classesC classes :: .blk nnB #[.int .i64 nn] 2 :: .blk visitB #[.func (.func 191) #[] #[.pointer (some ⟨fB, 0, none⟩), .pointer (some ⟨outB, 0, none⟩)]] 151 :: .blk growB #[.func (.func 236) #[] #[.pointer (some ⟨classesB, 0, none⟩), .pointer (some ⟨nnB, 0, none⟩), .pointer (some ⟨visitB, 0, none⟩), .pointer (some ⟨growB, 0, none⟩)]] 167 :: .blk fB #[.int .i64 f0, .slice f1A f1N f1C] 30 :: .rd 1 f1A f1N f1C f1 :: .blk outB #[.slice outA ((out).length) outC] 60 :: .nest 22 1 (some 2) outA outC outQ out :: Γ0)) (hf : 0 ≤ f0 ∧ f0 ≤ 8) (hfl : (f1.length : Int) = f0) (hfm : ∀ m : Int, 0 ≤ m → m < (f1.length : Int) → 0 ≤ gI f1 m ∧ gI f1 m ≤ fullI f0) (hn : 0 ≤ nn ∧ nn ≤ 8) (hl : (classes.length : Int) ≤ nn) (ht : 0 ≤ count ∧ count ≤ (classes.length : Int)) (hb : out.length + Lf (nn - (classes.length : Int)).toNat count.toNat ≤ 10000) (hdec : (nn - (classes.length : Int)).toNat < mu), Calls Try.prog 236 #[.int .i64 count, .pointer (some ⟨classesB, 0, none⟩), .pointer (some ⟨nnB, 0, none⟩), .pointer (some ⟨visitB, 0, none⟩), .pointer (some ⟨growB, 0, none⟩)] w (Ret fun v w' => ∃ classesA1 : Option Addr, ∃ classesC1 : Nat, ∃ outA1 : Option Addr, ∃ outC1 : Nat, ∃ outQ1 : List Hd, v = .tuple #[] ∧ St w0v w' (.blk classesB #[.slice classesA1 (((self count classes nn f0 f1 out).1).length) classesC1] 22 :: .own 2 1 classesA1 (((self count classes nn f0 f1 out).1).length) classesC1 ((self count classes nn f0 f1 out).1) :: .blk nnB #[.int .i64 nn] 2 :: .blk visitB #[.func (.func 191) #[] #[.pointer (some ⟨fB, 0, none⟩), .pointer (some ⟨outB, 0, none⟩)]] 151 :: .blk growB #[.func (.func 236) #[] #[.pointer (some ⟨classesB, 0, none⟩), .pointer (some ⟨nnB, 0, none⟩), .pointer (some ⟨visitB, 0, none⟩), .pointer (some ⟨growB, 0, none⟩)]] 167 :: .blk fB #[.int .i64 f0, .slice f1A f1N f1C] 30 :: .rd 1 f1A f1N f1C f1 :: .blk outB #[.slice outA1 (((self count classes nn f0 f1 out).2).length) outC1] 60 :: .nest 22 1 (some 2) outA1 outC1 outQ1 ((self count classes nn f0 f1 out).2) :: Γ0))) :
    Calls Try.prog 236 #[.int .i64 count, .pointer (some ⟨classesB, 0, none⟩), .pointer (some ⟨nnB, 0, none⟩), .pointer (some ⟨visitB, 0, none⟩), .pointer (some ⟨growB, 0, none⟩)] w (Ret fun v w' => ∃ classesA1 : Option Addr, ∃ classesC1 : Nat, ∃ outA1 : Option Addr, ∃ outC1 : Nat, ∃ outQ1 : List Hd, v = .tuple #[] ∧ St w0v w' (.blk classesB #[.slice classesA1 (((F_allClasses_k1_b self count classes nn f0 f1 out).1).length) classesC1] 22 :: .own 2 1 classesA1 (((F_allClasses_k1_b self count classes nn f0 f1 out).1).length) classesC1 ((F_allClasses_k1_b self count classes nn f0 f1 out).1) :: .blk nnB #[.int .i64 nn] 2 :: .blk visitB #[.func (.func 191) #[] #[.pointer (some ⟨fB, 0, none⟩), .pointer (some ⟨outB, 0, none⟩)]] 151 :: .blk growB #[.func (.func 236) #[] #[.pointer (some ⟨classesB, 0, none⟩), .pointer (some ⟨nnB, 0, none⟩), .pointer (some ⟨visitB, 0, none⟩), .pointer (some ⟨growB, 0, none⟩)]] 167 :: .blk fB #[.int .i64 f0, .slice f1A f1N f1C] 30 :: .rd 1 f1A f1N f1C f1 :: .blk outB #[.slice outA1 (((F_allClasses_k1_b self count classes nn f0 f1 out).2).length) outC1] 60 :: .nest 22 1 (some 2) outA1 outC1 outQ1 ((F_allClasses_k1_b self count classes nn f0 f1 out).2) :: Γ0)) := by
  obtain rfl : classesN = classes.length := (St.rdO (i := 1) hS0 rfl).len1.symm
  have classesLe := (St.rdO (i := 1) hS0 rfl).le
  obtain rfl : f1N = f1.length := (St.rdR (i := 6) hS0 rfl).len1.symm
  have f1Le := (St.rdR (i := 6) hS0 rfl).le
  have outLe := (St.rdNo (i := 8) hS0 rfl).le
  refine enter (args := [.int .i64 count, .pointer (some ⟨classesB, 0, none⟩), .pointer (some ⟨nnB, 0, none⟩), .pointer (some ⟨visitB, 0, none⟩), .pointer (some ⟨growB, 0, none⟩)]) Try.func236 rfl rfl ?_
  rw [Try.ntmps236]; intro a hE
  have hE := hE.sub (L' := [(0, .int .i64 count), (1, .pointer (some ⟨classesB, 0, none⟩)), (2, .pointer (some ⟨nnB, 0, none⟩)), (3, .pointer (some ⟨visitB, 0, none⟩)), (4, .pointer (some ⟨growB, 0, none⟩))]) ⟨rfl, rfl, rfl, rfl, rfl, trivial⟩
  refine c_seq ?_
  refine c_seq ?_
  refine d_start (fun w w' => (fun w' => w'.cell? ⟨classesB, 0, none⟩ = some (.slice classesA classes.length classesC) ∧ w'.cell? ⟨nnB, 0, none⟩ = some (.int .i64 nn) ∧ True) w → (fun w' => w'.cell? ⟨classesB, 0, none⟩ = some (.slice classesA classes.length classesC) ∧ w'.cell? ⟨nnB, 0, none⟩ = some (.int .i64 nn) ∧ True) w') [0, 2] 4 (by kernel_rfl) rfl ?_
  intro w1 he2; have hS3 := St.go hS0 he2; clear hS0
  refine d_take (fun _ h => h) (fun _ _ h k => h k) (v := .slice classesA classes.length classesC) 0 rfl hE (S := fun w' => w'.cell? ⟨classesB, 0, none⟩ = some (.slice classesA classes.length classesC) ∧ w'.cell? ⟨nnB, 0, none⟩ = some (.int .i64 nn) ∧ True) ⟨(St.cell (i := 0) hS3 rfl rfl _ (Ext.refl _)), (St.cell (i := 2) hS3 rfl rfl _ (Ext.refl _)), trivial⟩ (y_load (fun _ => by kernel_rfl) rfl (fun _ h => h.1)) rfl rfl (by kernel_rfl) (by kernel_rfl) (by kernel_rfl) (by kernel_rfl) rfl rfl (fun _ _ _ h => h) ?_; intro a4 hE5; clear hE
  refine d_take (fun _ h => h) (fun _ _ h k => h k) (v := .int .i64 nn) 2 rfl hE5 (S := fun w' => w'.cell? ⟨classesB, 0, none⟩ = some (.slice classesA classes.length classesC) ∧ w'.cell? ⟨nnB, 0, none⟩ = some (.int .i64 nn) ∧ True) ⟨(St.cell (i := 0) hS3 rfl rfl _ (Ext.refl _)), (St.cell (i := 2) hS3 rfl rfl _ (Ext.refl _)), trivial⟩ (y_load (fun _ => by kernel_rfl) rfl (fun _ h => h.2.1)) rfl rfl (by kernel_rfl) (by kernel_rfl) (by kernel_rfl) (by kernel_rfl) rfl rfl (fun _ _ _ h => h) ?_; intro a6 hE7; clear hE5
  have hc14 := d_size classesA classes.length classesC classes w1 (St.rdO (i := 1) hS3 rfl)
  refine d_only 1 (by kernel_rfl) rfl hE7 rfl (l_call (f := 165) (argv := [.slice classesA classes.length classesC]) hE7 (fun _ => cf_size _ _) rfl rfl (by exact hc14) ?_)
  rintro _ _ ⟨rfl, rfl⟩ a10 hE11; clear hE7
  refine ⟨fun _ _ => ⟨(St.cell (i := 0) hS3 rfl rfl _ (Ext.refl _)), (St.cell (i := 2) hS3 rfl rfl _ (Ext.refl _)), trivial⟩, ?_⟩
  refine d_pure (fun _ h => h) (v := .bool (decide ((classes.length : Int) = nn))) 3 rfl hE11 (y_eql rfl rfl) rfl (by kernel_rfl) (by kernel_rfl) (by kernel_rfl) rfl rfl (fun _ _ _ h => h) ?_; intro a15 hE16; clear hE11
  refine d_done (by kernel_rfl) ?_
  have hE17 := hE16.sub (L' := [(0, .int .i64 count), (1, .pointer (some ⟨classesB, 0, none⟩)), (3, .pointer (some ⟨visitB, 0, none⟩)), (4, .pointer (some ⟨growB, 0, none⟩)), (10, .bool (decide ((classes.length : Int) = nn)))]) ⟨rfl, rfl, rfl, rfl, rfl, trivial⟩; clear hE16
  refine p_tn ?_
  refine c_cond hE17 rfl (fun ht18 => ?_) (fun ht18 => ?_)
  ·
   have hp19 := of_decide_eq_true ht18
   have hE20 := hE17; rw [ht18] at hE20; clear hE17
   refine c_seq ?_
   refine c_reg ?_
   refine q_step (v := .func (.func 191) #[] #[.pointer (some ⟨fB, 0, none⟩), .pointer (some ⟨outB, 0, none⟩)]) hE20 (y_load (fun _ => by kernel_rfl) rfl (St.cell (i := 3) hS3 rfl rfl)) rfl rfl rfl ?_; intro a21 hE22; clear hE20
   refine q_step (v := .slice classesA classes.length classesC) hE22 (y_load (fun _ => by kernel_rfl) rfl (St.cell (i := 0) hS3 rfl rfl)) rfl rfl rfl ?_; intro a23 hE24; clear hE22
   have hS31 := (St.pickT (Γ := [.blk classesB #[.slice classesA classes.length classesC] 22, .own 2 1 classesA classes.length classesC classes, .blk nnB #[.int .i64 nn] 2, .blk visitB #[.func (.func 191) #[] #[.pointer (some ⟨fB, 0, none⟩), .pointer (some ⟨outB, 0, none⟩)]] 151, .blk growB #[.func (.func 236) #[] #[.pointer (some ⟨classesB, 0, none⟩), .pointer (some ⟨nnB, 0, none⟩), .pointer (some ⟨visitB, 0, none⟩), .pointer (some ⟨growB, 0, none⟩)]] 167, .blk fB #[.int .i64 f0, .slice f1A f1.length f1C] 30, .rd 1 f1A f1.length f1C f1, .blk outB #[.slice outA ((out).length) outC] 60, .nest 22 1 (some 2) outA outC outQ out]) (Γ' := [.own 2 1 classesA classes.length classesC classes, .blk fB #[.int .i64 f0, .slice f1A f1.length f1C] 30, .rd 1 f1A f1.length f1C f1, .blk outB #[.slice outA ((out).length) outC] 60, .nest 22 1 (some 2) outA outC outQ out, .blk classesB #[.slice classesA classes.length classesC] 22, .blk nnB #[.int .i64 nn] 2, .blk visitB #[.func (.func 191) #[] #[.pointer (some ⟨fB, 0, none⟩), .pointer (some ⟨outB, 0, none⟩)]] 151, .blk growB #[.func (.func 236) #[] #[.pointer (some ⟨classesB, 0, none⟩), .pointer (some ⟨nnB, 0, none⟩), .pointer (some ⟨visitB, 0, none⟩), .pointer (some ⟨growB, 0, none⟩)]] 167]) (Γ0 := Γ0) hS3 [1, 5, 6, 7, 8, 0, 2, 3, 4] (by decide) rfl rfl); clear hS3
   have hc32 := c_congruences_k1 classesA classes.length classesC classes fB f0 f1A f1.length f1C f1 outB outA outC outQ out w1 w0v (.blk classesB #[.slice classesA classes.length classesC] 22 :: .blk nnB #[.int .i64 nn] 2 :: .blk visitB #[.func (.func 191) #[] #[.pointer (some ⟨fB, 0, none⟩), .pointer (some ⟨outB, 0, none⟩)]] 151 :: .blk growB #[.func (.func 236) #[] #[.pointer (some ⟨classesB, 0, none⟩), .pointer (some ⟨nnB, 0, none⟩), .pointer (some ⟨visitB, 0, none⟩), .pointer (some ⟨growB, 0, none⟩)]] 167 :: Γ0) hS31 (by omega) (by omega) (by omega) (by omega) (by omega)
   refine l_step hE24 rfl (l_callv (f := 191) (caps := [.pointer (some ⟨fB, 0, none⟩), .pointer (some ⟨outB, 0, none⟩)]) (argv := [.slice classesA classes.length classesC]) hE24 rfl (fun _ => cf_congruences_k1 _ _) rfl rfl (by exact hc32) ?_)
   rintro _ w26 ⟨b33, c34, h35, rfl, hS29⟩ a27 hE28; clear hE24 hc32
   refine c_nil ?_
   have hE36 := hE28.sub (L' := []) trivial; clear hE28
   refine p_tn ?_
   refine wp_ret ?_
   refine p_tr ?_
   have hF : F_allClasses_k1_b self count classes nn f0 f1 out = (classes, (F_congruences_k1 classes f0 f1 out)) := by unfold F_allClasses_k1_b; rw [ht18]; first | done | rfl
   refine c_ret0 hE36 rfl ?_
   have hS9 := (St.pickT (Γ := [.own 2 1 classesA classes.length classesC classes, .blk fB #[.int .i64 f0, .slice f1A f1.length f1C] 30, .rd 1 f1A f1.length f1C f1, .blk outB #[.slice b33 (((F_congruences_k1 classes f0 f1 out)).length) c34] 60, .nest 22 1 (some 2) b33 c34 h35 (F_congruences_k1 classes f0 f1 out), .blk classesB #[.slice classesA classes.length classesC] 22, .blk nnB #[.int .i64 nn] 2, .blk visitB #[.func (.func 191) #[] #[.pointer (some ⟨fB, 0, none⟩), .pointer (some ⟨outB, 0, none⟩)]] 151, .blk growB #[.func (.func 236) #[] #[.pointer (some ⟨classesB, 0, none⟩), .pointer (some ⟨nnB, 0, none⟩), .pointer (some ⟨visitB, 0, none⟩), .pointer (some ⟨growB, 0, none⟩)]] 167]) (Γ' := [.blk classesB #[.slice classesA classes.length classesC] 22, .own 2 1 classesA classes.length classesC classes, .blk nnB #[.int .i64 nn] 2, .blk visitB #[.func (.func 191) #[] #[.pointer (some ⟨fB, 0, none⟩), .pointer (some ⟨outB, 0, none⟩)]] 151, .blk growB #[.func (.func 236) #[] #[.pointer (some ⟨classesB, 0, none⟩), .pointer (some ⟨nnB, 0, none⟩), .pointer (some ⟨visitB, 0, none⟩), .pointer (some ⟨growB, 0, none⟩)]] 167, .blk fB #[.int .i64 f0, .slice f1A f1.length f1C] 30, .rd 1 f1A f1.length f1C f1, .blk outB #[.slice b33 (((F_congruences_k1 classes f0 f1 out)).length) c34] 60, .nest 22 1 (some 2) b33 c34 h35 (F_congruences_k1 classes f0 f1 out)]) (Γ0 := Γ0) hS29 [5, 0, 6, 7, 8, 1, 2, 3, 4] (by decide) rfl rfl)
   exact ⟨classesA, classesC, b33, c34, h35, rfl, (by rw [hF]; (try dsimp only); exact hS9)⟩
  ·
   have hp37 := of_decide_eq_false ht18
   have hE38 := hE17; rw [ht18] at hE38; clear hE17
   refine wp_skip ?_
   refine p_tn ?_
   refine c_seq ?_
   refine c_reg ?_
   refine q_step (v := .int .i64 count) hE38 (y_move rfl) rfl rfl rfl ?_; intro a39 hE40; clear hE38
   refine q_step (v := .int .i64 (count + 1)) hE40 (y_add rfl rfl ⟨(by omega), (by omega)⟩) rfl rfl rfl ?_; intro a41 hE42; clear hE40
   refine q_step (v := .int .i64 0) hE42 (y_move rfl) rfl rfl rfl ?_; intro a43 hE44; clear hE42
   refine c_nil ?_
   have hE45 := hE44.sub (L' := [(0, .int .i64 count), (1, .pointer (some ⟨classesB, 0, none⟩)), (4, .pointer (some ⟨growB, 0, none⟩)), (15, .int .i64 (count + 1)), (16, .int .i64 0)]) ⟨rfl, rfl, rfl, rfl, rfl, trivial⟩; clear hE44
   refine p_tn ?_
   refine c_cut1 (fun a' w' => ∃ q9_0A_46 : Option Addr, ∃ q9_0C_46 : Nat, ∃ q2_0A_46 : Option Addr, ∃ q2_0C_46 : Nat, ∃ q2_0H_46 : List Hd, (0 ≤ ((F_allClasses_k1_L1 count nn f0 f1 self (Int.toNat ((count + 1) - 0) + 1) 0 classes out).1)) ∧ (((F_allClasses_k1_L1 count nn f0 f1 self (Int.toNat ((count + 1) - 0) + 1) 0 classes out).1) ≤ count + 1) ∧ (((F_allClasses_k1_L1 count nn f0 f1 self (Int.toNat ((count + 1) - 0) + 1) 0 classes out).2.1) = classes) ∧ ((((F_allClasses_k1_L1 count nn f0 f1 self (Int.toNat ((count + 1) - 0) + 1) 0 classes out).2.2).length : Int) ≤ (out.length : Int) + (LfS ((nn - (classes.length : Int)).toNat - 1) count.toNat ((F_allClasses_k1_L1 count nn f0 f1 self (Int.toNat ((count + 1) - 0) + 1) 0 classes out).1).toNat : Int)) ∧ E a' 35 [(0, .int .i64 count), (1, .pointer (some ⟨classesB, 0, none⟩)), (4, .pointer (some ⟨growB, 0, none⟩)), (15, .int .i64 (count + 1)), (16, .int .i64 ((F_allClasses_k1_L1 count nn f0 f1 self (Int.toNat ((count + 1) - 0) + 1) 0 classes out).1))] ∧ St w0v w' (.blk classesB #[.slice q9_0A_46 (((F_allClasses_k1_L1 count nn f0 f1 self (Int.toNat ((count + 1) - 0) + 1) 0 classes out).2.1).length) q9_0C_46] 22 :: .own 2 1 q9_0A_46 (((F_allClasses_k1_L1 count nn f0 f1 self (Int.toNat ((count + 1) - 0) + 1) 0 classes out).2.1).length) q9_0C_46 ((F_allClasses_k1_L1 count nn f0 f1 self (Int.toNat ((count + 1) - 0) + 1) 0 classes out).2.1) :: .blk nnB #[.int .i64 nn] 2 :: .blk visitB #[.func (.func 191) #[] #[.pointer (some ⟨fB, 0, none⟩), .pointer (some ⟨outB, 0, none⟩)]] 151 :: .blk growB #[.func (.func 236) #[] #[.pointer (some ⟨classesB, 0, none⟩), .pointer (some ⟨nnB, 0, none⟩), .pointer (some ⟨visitB, 0, none⟩), .pointer (some ⟨growB, 0, none⟩)]] 167 :: .blk fB #[.int .i64 f0, .slice f1A f1.length f1C] 30 :: .rd 1 f1A f1.length f1C f1 :: .blk outB #[.slice q2_0A_46 (((F_allClasses_k1_L1 count nn f0 f1 self (Int.toNat ((count + 1) - 0) + 1) 0 classes out).2.2).length) q2_0C_46] 60 :: .nest 22 1 (some 2) q2_0A_46 q2_0C_46 q2_0H_46 ((F_allClasses_k1_L1 count nn f0 f1 self (Int.toNat ((count + 1) - 0) + 1) 0 classes out).2.2) :: Γ0)) ?_ ?_
   ·
    refine wp_block ?_
    refine c_loop (fun r a' w' => ∃ t16 : Int, ∃ q9_0 : List Int, ∃ q2_0 : List (List Int), ∃ q9_0A : Option Addr, ∃ q9_0C : Nat, ∃ q2_0A : Option Addr, ∃ q2_0C : Nat, ∃ q2_0H : List Hd, F_allClasses_k1_L1 count nn f0 f1 self r t16 q9_0 q2_0 = F_allClasses_k1_L1 count nn f0 f1 self (Int.toNat ((count + 1) - 0) + 1) 0 classes out ∧ Int.toNat ((count + 1) - t16) < r ∧ (0 ≤ t16) ∧ (t16 ≤ count + 1) ∧ (q9_0 = classes) ∧ ((q2_0.length : Int) ≤ (out.length : Int) + (LfS ((nn - (classes.length : Int)).toNat - 1) count.toNat t16.toNat : Int)) ∧ E a' 35 [(0, .int .i64 count), (1, .pointer (some ⟨classesB, 0, none⟩)), (4, .pointer (some ⟨growB, 0, none⟩)), (15, .int .i64 (count + 1)), (16, .int .i64 t16)] ∧ St w0v w' (.blk classesB #[.slice q9_0A ((q9_0).length) q9_0C] 22 :: .own 2 1 q9_0A ((q9_0).length) q9_0C q9_0 :: .blk nnB #[.int .i64 nn] 2 :: .blk visitB #[.func (.func 191) #[] #[.pointer (some ⟨fB, 0, none⟩), .pointer (some ⟨outB, 0, none⟩)]] 151 :: .blk growB #[.func (.func 236) #[] #[.pointer (some ⟨classesB, 0, none⟩), .pointer (some ⟨nnB, 0, none⟩), .pointer (some ⟨visitB, 0, none⟩), .pointer (some ⟨growB, 0, none⟩)]] 167 :: .blk fB #[.int .i64 f0, .slice f1A f1.length f1C] 30 :: .rd 1 f1A f1.length f1C f1 :: .blk outB #[.slice q2_0A ((q2_0).length) q2_0C] 60 :: .nest 22 1 (some 2) q2_0A q2_0C q2_0H q2_0 :: Γ0)) (r := (Int.toNat ((count + 1) - 0) + 1)) ?_ ?_
    · exact ⟨0, classes, out, classesA, classesC, outA, outC, outQ, rfl, Nat.lt_succ_self _, (by first | omega | (simp only [sS_len, sL_len]; omega) | (simp only [List.length_replicate, sI_len]; omega) | (simp only [List.length_append, List.length_cons, List.length_nil, sI_len, cond_true, cond_false]; omega) | (simp only [List.length_append, List.length_cons, List.length_nil, sI_len, cond_eq_ite, apply_ite List.length]; split <;> simp only [List.length_append, List.length_cons, List.length_nil, sI_len] <;> omega) | grind), (by first | omega | (simp only [sS_len, sL_len]; omega) | (simp only [List.length_replicate, sI_len]; omega) | (simp only [List.length_append, List.length_cons, List.length_nil, sI_len, cond_true, cond_false]; omega) | (simp only [List.length_append, List.length_cons, List.length_nil, sI_len, cond_eq_ite, apply_ite List.length]; split <;> simp only [List.length_append, List.length_cons, List.length_nil, sI_len] <;> omega) | grind), rfl, (by simp [LfS]), (hE45.sub (L' := [(0, .int .i64 count), (1, .pointer (some ⟨classesB, 0, none⟩)), (4, .pointer (some ⟨growB, 0, none⟩)), (15, .int .i64 (count + 1)), (16, .int .i64 0)]) ⟨rfl, rfl, rfl, rfl, rfl, trivial⟩), (St.pickT (Γ := [.blk classesB #[.slice classesA classes.length classesC] 22, .own 2 1 classesA classes.length classesC classes, .blk nnB #[.int .i64 nn] 2, .blk visitB #[.func (.func 191) #[] #[.pointer (some ⟨fB, 0, none⟩), .pointer (some ⟨outB, 0, none⟩)]] 151, .blk growB #[.func (.func 236) #[] #[.pointer (some ⟨classesB, 0, none⟩), .pointer (some ⟨nnB, 0, none⟩), .pointer (some ⟨visitB, 0, none⟩), .pointer (some ⟨growB, 0, none⟩)]] 167, .blk fB #[.int .i64 f0, .slice f1A f1.length f1C] 30, .rd 1 f1A f1.length f1C f1, .blk outB #[.slice outA ((out).length) outC] 60, .nest 22 1 (some 2) outA outC outQ out]) (Γ' := [.blk classesB #[.slice classesA classes.length classesC] 22, .own 2 1 classesA classes.length classesC classes, .blk nnB #[.int .i64 nn] 2, .blk visitB #[.func (.func 191) #[] #[.pointer (some ⟨fB, 0, none⟩), .pointer (some ⟨outB, 0, none⟩)]] 151, .blk growB #[.func (.func 236) #[] #[.pointer (some ⟨classesB, 0, none⟩), .pointer (some ⟨nnB, 0, none⟩), .pointer (some ⟨visitB, 0, none⟩), .pointer (some ⟨growB, 0, none⟩)]] 167, .blk fB #[.int .i64 f0, .slice f1A f1.length f1C] 30, .rd 1 f1A f1.length f1C f1, .blk outB #[.slice outA ((out).length) outC] 60, .nest 22 1 (some 2) outA outC outQ out]) (Γ0 := Γ0) hS3 [0, 1, 2, 3, 4, 5, 6, 7, 8] (by decide) rfl rfl)⟩
    ·
     clear hE45 hS3
     rintro r57 a47 w48 ⟨t16, q9_0, q2_0, q9_0A, q9_0C, q2_0A, q2_0C, q2_0H, hT51, hr52, hi53, hi54, hi55, hi56, hE49, hS50⟩
     obtain ⟨r57, rfl⟩ : ∃ r', r57 = r' + 1 := ⟨r57 - 1, by omega⟩
     refine c_seq ?_
     refine c_reg ?_
     refine q_step (v := .bool (decide (t16 < (count + 1)))) hE49 (y_lss rfl rfl) rfl rfl rfl ?_; intro a58 hE59; clear hE49
     refine c_nil ?_
     have hE60 := hE59.sub (L' := [(0, .int .i64 count), (1, .pointer (some ⟨classesB, 0, none⟩)), (4, .pointer (some ⟨growB, 0, none⟩)), (15, .int .i64 (count + 1)), (16, .int .i64 t16), (17, .bool (decide (t16 < (count + 1))))]) ⟨rfl, rfl, rfl, rfl, rfl, rfl, trivial⟩; clear hE59
     refine p_tn ?_
     refine c_seq ?_
     refine c_cond hE60 rfl (fun ht61 => ?_) (fun ht61 => ?_)
     ·
      have hp62 := of_decide_eq_true ht61
      have hE63 := hE60; rw [ht61] at hE63; clear hE60
      have hcl := (show q9_0 = classes by assumption)
      have hcl2 : q9_0.length = classes.length := by rw [hcl]
      have hal := app1_len' q9_0 t16
      have hrm := Lf_room (n := nn) (l := classes.length) (l' := (q9_0 ++ [t16]).length) (top := count) (k := t16) (by omega) (by omega) (by omega) (by omega)
      refine wp_skip ?_
      refine p_tn ?_
      refine c_seq ?_
      refine wp_block ?_
      refine c_seq ?_
      refine c_reg ?_
      refine q_step (v := .int .i64 t16) hE63 (y_move rfl) rfl rfl rfl ?_; intro a64 hE65; clear hE63
      refine q_step (v := .int .i64 t16) hE65 (y_assign rfl) rfl rfl rfl ?_; intro a66 hE67; clear hE65
      refine c_nil ?_
      have hE68 := hE67.sub (L' := [(0, .int .i64 count), (1, .pointer (some ⟨classesB, 0, none⟩)), (4, .pointer (some ⟨growB, 0, none⟩)), (6, .int .i64 t16), (15, .int .i64 (count + 1)), (16, .int .i64 t16)]) ⟨rfl, rfl, rfl, rfl, rfl, rfl, trivial⟩; clear hE67
      refine p_tn ?_
      refine c_seq ?_
      refine c_reg ?_
      refine q_step (v := .slice q9_0A ((q9_0).length) q9_0C) hE68 (y_load (fun _ => by kernel_rfl) rfl (St.cell (i := 0) hS50 rfl rfl)) rfl rfl rfl ?_; intro a69 hE70; clear hE68
      refine q_step (v := .int .i64 t16) hE70 (y_move rfl) rfl rfl rfl ?_; intro a71 hE72; clear hE70
      refine l_step hE72 rfl (l_lit (e := 2) (s := 1) (xs := [t16]) (vs := [.int .i64 t16]) hS50 hE72 rfl (fun _ => by kernel_rfl) rfl rfl rfl ?_)
      intro b73 w74 hS77 he78 a75 hE76; clear hS50 hE72
      obtain ⟨_, hi1, hi2, hi3, hi4⟩ := info_parts (show (Try.prog.info? 2).map (fun i => (i.zero, i.size, i.bytes)) = some (some (.int .i64 0), 1, 8) by kernel_rfl)
      refine l_step hE76 rfl (l_append (k := 2) (n' := (q9_0 ++ ([t16])).length) hS77 hE76 (by kernel_rfl) hi1 hi2 hi3 rfl (by decide) (by rw [hi4]; decide) rfl rfl rfl (St.rdO (i := 0) hS77 rfl) (by first | omega | (simp only [List.length_append, List.length_cons, List.length_nil]; omega)) (by have h1 := (St.rdO (i := 2) hS77 rfl).len1; have h2 := (St.rdO (i := 0) hS77 rfl).len1; first | rw [List.length_append, h1, h2] | (simp only [List.length_append])) rfl ?_)
      intro b79 c85 w80 hS83 a81 hE82; clear hS77 hE76 hi1 hi2 hi3 hi4
      refine l_step hE82 rfl (l_storeB (k := 1) (cs' := #[.slice b79 ((q9_0 ++ ([t16])).length) c85]) hS83 hE82 (fun _ => by kernel_rfl) rfl rfl rfl rfl rfl rfl rfl ?_)
      intro w87 hS90 a88 hE89; clear hS83 hE82
      refine c_nil ?_
      have hE92 := hE89.sub (L' := [(0, .int .i64 count), (1, .pointer (some ⟨classesB, 0, none⟩)), (4, .pointer (some ⟨growB, 0, none⟩)), (6, .int .i64 t16), (15, .int .i64 (count + 1)), (16, .int .i64 t16)]) ⟨rfl, rfl, rfl, rfl, rfl, rfl, trivial⟩; clear hE89
      refine p_tn ?_
      refine c_seq ?_
      refine c_reg ?_
      refine q_step (v := .func (.func 236) #[] #[.pointer (some ⟨classesB, 0, none⟩), .pointer (some ⟨nnB, 0, none⟩), .pointer (some ⟨visitB, 0, none⟩), .pointer (some ⟨growB, 0, none⟩)]) hE92 (y_load (fun _ => by kernel_rfl) rfl (St.cell (i := 5) hS90 rfl rfl)) rfl rfl rfl ?_; intro a93 hE94; clear hE92
      refine q_step (v := .int .i64 count) hE94 (y_move rfl) rfl rfl rfl ?_; intro a95 hE96; clear hE94
      refine q_step (v := .int .i64 t16) hE96 (y_move rfl) rfl rfl rfl ?_; intro a97 hE98; clear hE96
      refine q_step (v := .int .i64 (t16 + 1)) hE98 (y_add rfl rfl ⟨(by omega), (by omega)⟩) rfl rfl rfl ?_; intro a99 hE100; clear hE98
      refine q_step (v := .int .i64 (max count (t16 + 1))) hE100 (y_max rfl rfl) rfl rfl rfl ?_; intro a101 hE102; clear hE100
      have hS109 := (St.pickT (Γ := [.own 2 1 (some ⟨b73, 0, none⟩) 1 1 ([t16]), .blk classesB #[.slice b79 ((q9_0 ++ ([t16])).length) c85] 22, .own 2 1 b79 ((q9_0 ++ ([t16])).length) c85 (q9_0 ++ ([t16])), .blk nnB #[.int .i64 nn] 2, .blk visitB #[.func (.func 191) #[] #[.pointer (some ⟨fB, 0, none⟩), .pointer (some ⟨outB, 0, none⟩)]] 151, .blk growB #[.func (.func 236) #[] #[.pointer (some ⟨classesB, 0, none⟩), .pointer (some ⟨nnB, 0, none⟩), .pointer (some ⟨visitB, 0, none⟩), .pointer (some ⟨growB, 0, none⟩)]] 167, .blk fB #[.int .i64 f0, .slice f1A f1.length f1C] 30, .rd 1 f1A f1.length f1C f1, .blk outB #[.slice q2_0A ((q2_0).length) q2_0C] 60, .nest 22 1 (some 2) q2_0A q2_0C q2_0H q2_0]) (Γ' := [.blk classesB #[.slice b79 ((q9_0 ++ ([t16])).length) c85] 22, .own 2 1 b79 ((q9_0 ++ ([t16])).length) c85 (q9_0 ++ ([t16])), .blk nnB #[.int .i64 nn] 2, .blk visitB #[.func (.func 191) #[] #[.pointer (some ⟨fB, 0, none⟩), .pointer (some ⟨outB, 0, none⟩)]] 151, .blk growB #[.func (.func 236) #[] #[.pointer (some ⟨classesB, 0, none⟩), .pointer (some ⟨nnB, 0, none⟩), .pointer (some ⟨visitB, 0, none⟩), .pointer (some ⟨growB, 0, none⟩)]] 167, .blk fB #[.int .i64 f0, .slice f1A f1.length f1C] 30, .rd 1 f1A f1.length f1C f1, .blk outB #[.slice q2_0A ((q2_0).length) q2_0C] 60, .nest 22 1 (some 2) q2_0A q2_0C q2_0H q2_0, .own 2 1 (some ⟨b73, 0, none⟩) 1 1 ([t16])]) (Γ0 := Γ0) hS90 [1, 2, 3, 4, 5, 6, 7, 8, 9, 0] (by decide) rfl rfl); clear hS90
      have hc110 := ih (max count (t16 + 1)) classesB b79 ((q9_0 ++ ([t16])).length) c85 (q9_0 ++ ([t16])) nnB nn visitB growB fB f0 f1A f1.length f1C f1 outB q2_0A q2_0C q2_0H q2_0 w87 w0v (.own 2 1 (some ⟨b73, 0, none⟩) 1 1 ([t16]) :: Γ0) hS109 (by omega) (by omega) (by omega) (by omega) (by omega) (by omega) (by omega) (by omega)
      refine l_step hE102 rfl (l_callv (f := 236) (caps := [.pointer (some ⟨classesB, 0, none⟩), .pointer (some ⟨nnB, 0, none⟩), .pointer (some ⟨visitB, 0, none⟩), .pointer (some ⟨growB, 0, none⟩)]) (argv := [.int .i64 (max count (t16 + 1))]) hE102 rfl (fun _ => cf_allClasses_k1 _ _) rfl rfl (by exact hc110) ?_)
      rintro _ w104 ⟨b111, c112, b113, c114, h115, rfl, hS107⟩ a105 hE106; clear hE102 hc110
      have hf116 := hpost (max count (t16 + 1)) (q9_0 ++ ([t16])) nn f0 f1 q2_0 hf hfl hfm hn (by omega) (by omega) (by omega) (by omega)
      have hf117 := congrArg List.length (hpost (max count (t16 + 1)) (q9_0 ++ ([t16])) nn f0 f1 q2_0 hf hfl hfm hn (by omega) (by omega) (by omega) (by omega)).1
      refine c_nil ?_
      have hE118 := hE106.sub (L' := [(0, .int .i64 count), (1, .pointer (some ⟨classesB, 0, none⟩)), (4, .pointer (some ⟨growB, 0, none⟩)), (15, .int .i64 (count + 1)), (16, .int .i64 t16)]) ⟨rfl, rfl, rfl, rfl, rfl, trivial⟩; clear hE106
      refine p_tn ?_
      refine c_reg ?_
      refine q_step (v := .slice b111 (((self (max count (t16 + 1)) (q9_0 ++ ([t16])) nn f0 f1 q2_0).1).length) c112) hE118 (y_load (fun _ => by kernel_rfl) rfl (St.cell (i := 0) hS107 rfl rfl)) rfl rfl rfl ?_; intro a119 hE120; clear hE118
      refine q_step (v := .slice b111 (((self (max count (t16 + 1)) (q9_0 ++ ([t16])) nn f0 f1 q2_0).1).length) c112) hE120 (y_load (fun _ => by kernel_rfl) rfl (St.cell (i := 0) hS107 rfl rfl)) rfl rfl rfl ?_; intro a121 hE122; clear hE120
      refine q_step (v := .int .i64 (((self (max count (t16 + 1)) (q9_0 ++ ([t16])) nn f0 f1 q2_0).1).length : Int)) hE122 (y_len (e := 2) (by kernel_rfl) rfl) rfl rfl rfl ?_; intro a123 hE124; clear hE122
      refine q_step (v := .int .i64 ((((self (max count (t16 + 1)) (q9_0 ++ ([t16])) nn f0 f1 q2_0).1).length : Int) - 1)) hE124 (y_sub rfl rfl ⟨(by omega), (by omega)⟩) rfl rfl rfl ?_; intro a125 hE126; clear hE124
      have hv127 : (0 : Int) ≤ ((((self (max count (t16 + 1)) (q9_0 ++ ([t16])) nn f0 f1 q2_0).1).length : Int) - 1) ∧ ((((self (max count (t16 + 1)) (q9_0 ++ ([t16])) nn f0 f1 q2_0).1).length : Int) - 1) ≤ (((self (max count (t16 + 1)) (q9_0 ++ ([t16])) nn f0 f1 q2_0).1).length : Int) := ⟨(by omega), (by omega)⟩
      have hv128 := (St.rdO (i := 1) hS107 rfl).2.1
      have hv129 : Int.toNat ((((self (max count (t16 + 1)) (q9_0 ++ ([t16])) nn f0 f1 q2_0).1).length : Int) - 1) = (slI 1 ((self (max count (t16 + 1)) (q9_0 ++ ([t16])) nn f0 f1 q2_0).1) 0 ((((self (max count (t16 + 1)) (q9_0 ++ ([t16])) nn f0 f1 q2_0).1).length : Int) - 1)).length := (by have h := (slI_lenD (l := 0) (by decide) (St.rdO (i := 1) hS107 rfl).1 hv127.2); simpa using h.symm)
      have hS130 := St.pre (k := 1) hS107 rfl hv127.1 hv127.2 hv129
      clear hS107
      refine q_step (v := .slice b111 ((slI 1 ((self (max count (t16 + 1)) (q9_0 ++ ([t16])) nn f0 f1 q2_0).1) 0 ((((self (max count (t16 + 1)) (q9_0 ++ ([t16])) nn f0 f1 q2_0).1).length : Int) - 1)).length) c112) hE126 (y_slicePre (s := 1) (by kernel_rfl) (fun _ => by kernel_rfl) rfl rfl hv127.1 (by omega) hv129) rfl rfl rfl ?_; intro a131 hE132; clear hE126
      refine l_step hE132 rfl (l_storeB (k := 0) (cs' := #[.slice b111 ((slI 1 ((self (max count (t16 + 1)) (q9_0 ++ ([t16])) nn f0 f1 q2_0).1) 0 ((((self (max count (t16 + 1)) (q9_0 ++ ([t16])) nn f0 f1 q2_0).1).length : Int) - 1)).length) c112]) hS130 hE132 (fun _ => by kernel_rfl) rfl rfl rfl rfl rfl rfl rfl ?_)
      intro w134 hS137 a135 hE136; clear hS130 hE132
      refine c_nil ?_
      have hE139 := hE136.sub (L' := [(0, .int .i64 count), (1, .pointer (some ⟨classesB, 0, none⟩)), (4, .pointer (some ⟨growB, 0, none⟩)), (15, .int .i64 (count + 1)), (16, .int .i64 t16)]) ⟨rfl, rfl, rfl, rfl, rfl, trivial⟩; clear hE136
      refine p_bn ?_
      refine p_tn ?_
      refine c_reg ?_
      refine q_step (v := .int .i64 (t16 + 1)) hE139 (y_add rfl rfl ⟨(by omega), (by omega)⟩) rfl rfl rfl ?_; intro a140 hE141; clear hE139
      refine q_step (v := .int .i64 (t16 + 1)) hE141 (y_move rfl) rfl rfl rfl ?_; intro a142 hE143; clear hE141
      refine c_nil ?_
      have hE144 := hE143.sub (L' := [(0, .int .i64 count), (1, .pointer (some ⟨classesB, 0, none⟩)), (4, .pointer (some ⟨growB, 0, none⟩)), (15, .int .i64 (count + 1)), (16, .int .i64 (t16 + 1))]) ⟨rfl, rfl, rfl, rfl, rfl, trivial⟩; clear hE143
      refine p_tn ⟨r57, Nat.lt_succ_self _, t16 + 1, slI 1 ((self (max count (t16 + 1)) (q9_0 ++ ([t16])) nn f0 f1 q2_0).1) 0 ((((self (max count (t16 + 1)) (q9_0 ++ ([t16])) nn f0 f1 q2_0).1).length : Int) - 1), (self (max count (t16 + 1)) (q9_0 ++ ([t16])) nn f0 f1 q2_0).2, b111, c112, b113, c114, h115, (hT51.symm.trans (show F_allClasses_k1_L1b count nn f0 f1 self (F_allClasses_k1_L1 count nn f0 f1 self r57) t16 q9_0 q2_0 = F_allClasses_k1_L1 count nn f0 f1 self r57 (t16 + 1) (slI 1 ((self (max count (t16 + 1)) (q9_0 ++ ([t16])) nn f0 f1 q2_0).1) 0 ((((self (max count (t16 + 1)) (q9_0 ++ ([t16])) nn f0 f1 q2_0).1).length : Int) - 1)) ((self (max count (t16 + 1)) (q9_0 ++ ([t16])) nn f0 f1 q2_0).2) by unfold F_allClasses_k1_L1b; rw [ht61]; first | done | rfl)).symm, (by omega), (by first | omega | (simp only [sS_len, sL_len]; omega) | (simp only [List.length_replicate, sI_len]; omega) | (simp only [List.length_append, List.length_cons, List.length_nil, sI_len, cond_true, cond_false]; omega) | (simp only [List.length_append, List.length_cons, List.length_nil, sI_len, cond_eq_ite, apply_ite List.length]; split <;> simp only [List.length_append, List.length_cons, List.length_nil, sI_len] <;> omega) | grind), (by first | omega | (simp only [sS_len, sL_len]; omega) | (simp only [List.length_replicate, sI_len]; omega) | (simp only [List.length_append, List.length_cons, List.length_nil, sI_len, cond_true, cond_false]; omega) | (simp only [List.length_append, List.length_cons, List.length_nil, sI_len, cond_eq_ite, apply_ite List.length]; split <;> simp only [List.length_append, List.length_cons, List.length_nil, sI_len] <;> omega) | grind), (by obtain ⟨e1, e2⟩ := (show (self (max count (t16 + 1)) (q9_0 ++ [t16]) nn f0 f1 q2_0).1 = q9_0 ++ [t16] ∧ _ by assumption); rw [e1, slI_pop, hcl]), (by first | omega | (simp only [sS_len, sL_len]; omega) | (simp only [List.length_replicate, sI_len]; omega) | (simp only [List.length_append, List.length_cons, List.length_nil, sI_len, cond_true, cond_false]; omega) | (simp only [List.length_append, List.length_cons, List.length_nil, sI_len, cond_eq_ite, apply_ite List.length]; split <;> simp only [List.length_append, List.length_cons, List.length_nil, sI_len] <;> omega) | grind), (hE144.sub (L' := [(0, .int .i64 count), (1, .pointer (some ⟨classesB, 0, none⟩)), (4, .pointer (some ⟨growB, 0, none⟩)), (15, .int .i64 (count + 1)), (16, .int .i64 (t16 + 1))]) ⟨rfl, rfl, rfl, rfl, rfl, trivial⟩), (St.pickT (Γ := [.blk classesB #[.slice b111 ((slI 1 ((self (max count (t16 + 1)) (q9_0 ++ ([t16])) nn f0 f1 q2_0).1) 0 ((((self (max count (t16 + 1)) (q9_0 ++ ([t16])) nn f0 f1 q2_0).1).length : Int) - 1)).length) c112] 22, .own 2 1 b111 ((slI 1 ((self (max count (t16 + 1)) (q9_0 ++ ([t16])) nn f0 f1 q2_0).1) 0 ((((self (max count (t16 + 1)) (q9_0 ++ ([t16])) nn f0 f1 q2_0).1).length : Int) - 1)).length) c112 (slI 1 ((self (max count (t16 + 1)) (q9_0 ++ ([t16])) nn f0 f1 q2_0).1) 0 ((((self (max count (t16 + 1)) (q9_0 ++ ([t16])) nn f0 f1 q2_0).1).length : Int) - 1)), .blk nnB #[.int .i64 nn] 2, .blk visitB #[.func (.func 191) #[] #[.pointer (some ⟨fB, 0, none⟩), .pointer (some ⟨outB, 0, none⟩)]] 151, .blk growB #[.func (.func 236) #[] #[.pointer (some ⟨classesB, 0, none⟩), .pointer (some ⟨nnB, 0, none⟩), .pointer (some ⟨visitB, 0, none⟩), .pointer (some ⟨growB, 0, none⟩)]] 167, .blk fB #[.int .i64 f0, .slice f1A f1.length f1C] 30, .rd 1 f1A f1.length f1C f1, .blk outB #[.slice b113 (((self (max count (t16 + 1)) (q9_0 ++ ([t16])) nn f0 f1 q2_0).2).length) c114] 60, .nest 22 1 (some 2) b113 c114 h115 ((self (max count (t16 + 1)) (q9_0 ++ ([t16])) nn f0 f1 q2_0).2), .own 2 1 (some ⟨b73, 0, none⟩) 1 1 ([t16])]) (Γ' := [.blk classesB #[.slice b111 ((slI 1 ((self (max count (t16 + 1)) (q9_0 ++ ([t16])) nn f0 f1 q2_0).1) 0 ((((self (max count (t16 + 1)) (q9_0 ++ ([t16])) nn f0 f1 q2_0).1).length : Int) - 1)).length) c112] 22, .own 2 1 b111 ((slI 1 ((self (max count (t16 + 1)) (q9_0 ++ ([t16])) nn f0 f1 q2_0).1) 0 ((((self (max count (t16 + 1)) (q9_0 ++ ([t16])) nn f0 f1 q2_0).1).length : Int) - 1)).length) c112 (slI 1 ((self (max count (t16 + 1)) (q9_0 ++ ([t16])) nn f0 f1 q2_0).1) 0 ((((self (max count (t16 + 1)) (q9_0 ++ ([t16])) nn f0 f1 q2_0).1).length : Int) - 1)), .blk nnB #[.int .i64 nn] 2, .blk visitB #[.func (.func 191) #[] #[.pointer (some ⟨fB, 0, none⟩), .pointer (some ⟨outB, 0, none⟩)]] 151, .blk growB #[.func (.func 236) #[] #[.pointer (some ⟨classesB, 0, none⟩), .pointer (some ⟨nnB, 0, none⟩), .pointer (some ⟨visitB, 0, none⟩), .pointer (some ⟨growB, 0, none⟩)]] 167, .blk fB #[.int .i64 f0, .slice f1A f1.length f1C] 30, .rd 1 f1A f1.length f1C f1, .blk outB #[.slice b113 (((self (max count (t16 + 1)) (q9_0 ++ ([t16])) nn f0 f1 q2_0).2).length) c114] 60, .nest 22 1 (some 2) b113 c114 h115 ((self (max count (t16 + 1)) (q9_0 ++ ([t16])) nn f0 f1 q2_0).2)]) (Γ0 := Γ0) hS137 [0, 1, 2, 3, 4, 5, 6, 7, 8] (by decide) rfl rfl)⟩
     ·
      have hp145 := of_decide_eq_false ht61
      have hE146 := hE60; rw [ht61] at hE146; clear hE60
      refine wp_exit ?_
      refine p_te ?_
      have hX147 : F_allClasses_k1_L1 count nn f0 f1 self (Int.toNat ((count + 1) - 0) + 1) 0 classes out = (t16, q9_0, q2_0) := hT51.symm.trans (show F_allClasses_k1_L1b count nn f0 f1 self (F_allClasses_k1_L1 count nn f0 f1 self r57) t16 q9_0 q2_0 = (t16, q9_0, q2_0) by unfold F_allClasses_k1_L1b; rw [ht61]; first | done | rfl)
      refine p_te (p_be (p_tn ?_))
      exact ⟨q9_0A, q9_0C, q2_0A, q2_0C, q2_0H, (by rw [hX147]; exact (show 0 ≤ t16 from (by first | omega | (simp only [sS_len, sL_len]; omega) | (simp only [List.length_replicate, sI_len]; omega) | (simp only [List.length_append, List.length_cons, List.length_nil, sI_len, cond_true, cond_false]; omega) | (simp only [List.length_append, List.length_cons, List.length_nil, sI_len, cond_eq_ite, apply_ite List.length]; split <;> simp only [List.length_append, List.length_cons, List.length_nil, sI_len] <;> omega) | grind))), (by rw [hX147]; exact (show t16 ≤ count + 1 from (by first | omega | (simp only [sS_len, sL_len]; omega) | (simp only [List.length_replicate, sI_len]; omega) | (simp only [List.length_append, List.length_cons, List.length_nil, sI_len, cond_true, cond_false]; omega) | (simp only [List.length_append, List.length_cons, List.length_nil, sI_len, cond_eq_ite, apply_ite List.length]; split <;> simp only [List.length_append, List.length_cons, List.length_nil, sI_len] <;> omega) | grind))), (by rw [hX147]; exact (show q9_0 = classes from (by first | omega | (simp only [sS_len, sL_len]; omega) | (simp only [List.length_replicate, sI_len]; omega) | (simp only [List.length_append, List.length_cons, List.length_nil, sI_len, cond_true, cond_false]; omega) | (simp only [List.length_append, List.length_cons, List.length_nil, sI_len, cond_eq_ite, apply_ite List.length]; split <;> simp only [List.length_append, List.length_cons, List.length_nil, sI_len] <;> omega) | grind))), (by rw [hX147]; exact (show (q2_0.length : Int) ≤ (out.length : Int) + (LfS ((nn - (classes.length : Int)).toNat - 1) count.toNat t16.toNat : Int) from (by first | omega | (simp only [sS_len, sL_len]; omega) | (simp only [List.length_replicate, sI_len]; omega) | (simp only [List.length_append, List.length_cons, List.length_nil, sI_len, cond_true, cond_false]; omega) | (simp only [List.length_append, List.length_cons, List.length_nil, sI_len, cond_eq_ite, apply_ite List.length]; split <;> simp only [List.length_append, List.length_cons, List.length_nil, sI_len] <;> omega) | grind))), (by rw [hX147]; exact (hE146.sub (L' := [(0, .int .i64 count), (1, .pointer (some ⟨classesB, 0, none⟩)), (4, .pointer (some ⟨growB, 0, none⟩)), (15, .int .i64 (count + 1)), (16, .int .i64 t16)]) ⟨rfl, rfl, rfl, rfl, rfl, trivial⟩)), (by rw [hX147]; exact (St.pickT (Γ := [.blk classesB #[.slice q9_0A ((q9_0).length) q9_0C] 22, .own 2 1 q9_0A ((q9_0).length) q9_0C q9_0, .blk nnB #[.int .i64 nn] 2, .blk visitB #[.func (.func 191) #[] #[.pointer (some ⟨fB, 0, none⟩), .pointer (some ⟨outB, 0, none⟩)]] 151, .blk growB #[.func (.func 236) #[] #[.pointer (some ⟨classesB, 0, none⟩), .pointer (some ⟨nnB, 0, none⟩), .pointer (some ⟨visitB, 0, none⟩), .pointer (some ⟨growB, 0, none⟩)]] 167, .blk fB #[.int .i64 f0, .slice f1A f1.length f1C] 30, .rd 1 f1A f1.length f1C f1, .blk outB #[.slice q2_0A ((q2_0).length) q2_0C] 60, .nest 22 1 (some 2) q2_0A q2_0C q2_0H q2_0]) (Γ' := [.blk classesB #[.slice q9_0A ((q9_0).length) q9_0C] 22, .own 2 1 q9_0A ((q9_0).length) q9_0C q9_0, .blk nnB #[.int .i64 nn] 2, .blk visitB #[.func (.func 191) #[] #[.pointer (some ⟨fB, 0, none⟩), .pointer (some ⟨outB, 0, none⟩)]] 151, .blk growB #[.func (.func 236) #[] #[.pointer (some ⟨classesB, 0, none⟩), .pointer (some ⟨nnB, 0, none⟩), .pointer (some ⟨visitB, 0, none⟩), .pointer (some ⟨growB, 0, none⟩)]] 167, .blk fB #[.int .i64 f0, .slice f1A f1.length f1C] 30, .rd 1 f1A f1.length f1C f1, .blk outB #[.slice q2_0A ((q2_0).length) q2_0C] 60, .nest 22 1 (some 2) q2_0A q2_0C q2_0H q2_0]) (Γ0 := Γ0) hS50 [0, 1, 2, 3, 4, 5, 6, 7, 8] (by decide) rfl rfl))⟩
   ·
    rintro a148 w149 ⟨q9_0A_46, q9_0C_46, q2_0A_46, q2_0C_46, q2_0H_46, hi153, hi154, hi155, hi156, hE150, hS151⟩; clear hE45 hS3
    have hF : F_allClasses_k1_b self count classes nn f0 f1 out = ((F_allClasses_k1_L1 count nn f0 f1 self (Int.toNat ((count + 1) - 0) + 1) 0 classes out).2.1, (F_allClasses_k1_L1 count nn f0 f1 self (Int.toNat ((count + 1) - 0) + 1) 0 classes out).2.2) := by unfold F_allClasses_k1_b; rw [ht18]; first | done | rfl
    refine c_end0 hE150 rfl ?_
    have hS9 := (St.pickT (Γ := [.blk classesB #[.slice q9_0A_46 (((F_allClasses_k1_L1 count nn f0 f1 self (Int.toNat ((count + 1) - 0) + 1) 0 classes out).2.1).length) q9_0C_46] 22, .own 2 1 q9_0A_46 (((F_allClasses_k1_L1 count nn f0 f1 self (Int.toNat ((count + 1) - 0) + 1) 0 classes out).2.1).length) q9_0C_46 ((F_allClasses_k1_L1 count nn f0 f1 self (Int.toNat ((count + 1) - 0) + 1) 0 classes out).2.1), .blk nnB #[.int .i64 nn] 2, .blk visitB #[.func (.func 191) #[] #[.pointer (some ⟨fB, 0, none⟩), .pointer (some ⟨outB, 0, none⟩)]] 151, .blk growB #[.func (.func 236) #[] #[.pointer (some ⟨classesB, 0, none⟩), .pointer (some ⟨nnB, 0, none⟩), .pointer (some ⟨visitB, 0, none⟩), .pointer (some ⟨growB, 0, none⟩)]] 167, .blk fB #[.int .i64 f0, .slice f1A f1.length f1C] 30, .rd 1 f1A f1.length f1C f1, .blk outB #[.slice q2_0A_46 (((F_allClasses_k1_L1 count nn f0 f1 self (Int.toNat ((count + 1) - 0) + 1) 0 classes out).2.2).length) q2_0C_46] 60, .nest 22 1 (some 2) q2_0A_46 q2_0C_46 q2_0H_46 ((F_allClasses_k1_L1 count nn f0 f1 self (Int.toNat ((count + 1) - 0) + 1) 0 classes out).2.2)]) (Γ' := [.blk classesB #[.slice q9_0A_46 (((F_allClasses_k1_L1 count nn f0 f1 self (Int.toNat ((count + 1) - 0) + 1) 0 classes out).2.1).length) q9_0C_46] 22, .own 2 1 q9_0A_46 (((F_allClasses_k1_L1 count nn f0 f1 self (Int.toNat ((count + 1) - 0) + 1) 0 classes out).2.1).length) q9_0C_46 ((F_allClasses_k1_L1 count nn f0 f1 self (Int.toNat ((count + 1) - 0) + 1) 0 classes out).2.1), .blk nnB #[.int .i64 nn] 2, .blk visitB #[.func (.func 191) #[] #[.pointer (some ⟨fB, 0, none⟩), .pointer (some ⟨outB, 0, none⟩)]] 151, .blk growB #[.func (.func 236) #[] #[.pointer (some ⟨classesB, 0, none⟩), .pointer (some ⟨nnB, 0, none⟩), .pointer (some ⟨visitB, 0, none⟩), .pointer (some ⟨growB, 0, none⟩)]] 167, .blk fB #[.int .i64 f0, .slice f1A f1.length f1C] 30, .rd 1 f1A f1.length f1C f1, .blk outB #[.slice q2_0A_46 (((F_allClasses_k1_L1 count nn f0 f1 self (Int.toNat ((count + 1) - 0) + 1) 0 classes out).2.2).length) q2_0C_46] 60, .nest 22 1 (some 2) q2_0A_46 q2_0C_46 q2_0H_46 ((F_allClasses_k1_L1 count nn f0 f1 self (Int.toNat ((count + 1) - 0) + 1) 0 classes out).2.2)]) (Γ0 := Γ0) hS151 [0, 1, 2, 3, 4, 5, 6, 7, 8] (by decide) rfl rfl)
    exact ⟨q9_0A_46, q9_0C_46, q2_0A_46, q2_0C_46, q2_0H_46, rfl, (by rw [hF]; (try dsimp only); exact hS9)⟩
theorem c_allClasses_k1_r : ∀ (r : Nat) (count : Int) (classesB : Nat) (classesA : Option Addr) (classesN classesC : Nat) (classes : List Int) (nnB : Nat) (nn : Int) (visitB : Nat) (growB : Nat) (fB : Nat) (f0 : Int) (f1A : Option Addr) (f1N f1C : Nat) (f1 : List Int) (outB : Nat) (outA : Option Addr) (outC : Nat) (outQ : List Hd) (out : List (List Int)) (w : World) (w0v : World) (Γ0 : List Ent) (hS0 : St w0v w (.blk classesB #[.slice classesA classesN classesC] 22 :: .own 2 1 classesA classesN classesC classes :: .blk nnB #[.int .i64 nn] 2 :: .blk visitB #[.func (.func 191) #[] #[.pointer (some ⟨fB, 0, none⟩), .pointer (some ⟨outB, 0, none⟩)]] 151 :: .blk growB #[.func (.func 236) #[] #[.pointer (some ⟨classesB, 0, none⟩), .pointer (some ⟨nnB, 0, none⟩), .pointer (some ⟨visitB, 0, none⟩), .pointer (some ⟨growB, 0, none⟩)]] 167 :: .blk fB #[.int .i64 f0, .slice f1A f1N f1C] 30 :: .rd 1 f1A f1N f1C f1 :: .blk outB #[.slice outA ((out).length) outC] 60 :: .nest 22 1 (some 2) outA outC outQ out :: Γ0)) (hf : 0 ≤ f0 ∧ f0 ≤ 8) (hfl : (f1.length : Int) = f0) (hfm : ∀ m : Int, 0 ≤ m → m < (f1.length : Int) → 0 ≤ gI f1 m ∧ gI f1 m ≤ fullI f0) (hn : 0 ≤ nn ∧ nn ≤ 8) (hl : (classes.length : Int) ≤ nn) (ht : 0 ≤ count ∧ count ≤ (classes.length : Int)) (hb : out.length + Lf (nn - (classes.length : Int)).toNat count.toNat ≤ 10000) (hlt : (nn - (classes.length : Int)).toNat < r), Calls Try.prog 236 #[.int .i64 count, .pointer (some ⟨classesB, 0, none⟩), .pointer (some ⟨nnB, 0, none⟩), .pointer (some ⟨visitB, 0, none⟩), .pointer (some ⟨growB, 0, none⟩)] w (Ret fun v w' => ∃ classesA1 : Option Addr, ∃ classesC1 : Nat, ∃ outA1 : Option Addr, ∃ outC1 : Nat, ∃ outQ1 : List Hd, v = .tuple #[] ∧ St w0v w' (.blk classesB #[.slice classesA1 ((((F_allClasses_k1_r r) count classes nn f0 f1 out).1).length) classesC1] 22 :: .own 2 1 classesA1 ((((F_allClasses_k1_r r) count classes nn f0 f1 out).1).length) classesC1 (((F_allClasses_k1_r r) count classes nn f0 f1 out).1) :: .blk nnB #[.int .i64 nn] 2 :: .blk visitB #[.func (.func 191) #[] #[.pointer (some ⟨fB, 0, none⟩), .pointer (some ⟨outB, 0, none⟩)]] 151 :: .blk growB #[.func (.func 236) #[] #[.pointer (some ⟨classesB, 0, none⟩), .pointer (some ⟨nnB, 0, none⟩), .pointer (some ⟨visitB, 0, none⟩), .pointer (some ⟨growB, 0, none⟩)]] 167 :: .blk fB #[.int .i64 f0, .slice f1A f1N f1C] 30 :: .rd 1 f1A f1N f1C f1 :: .blk outB #[.slice outA1 ((((F_allClasses_k1_r r) count classes nn f0 f1 out).2).length) outC1] 60 :: .nest 22 1 (some 2) outA1 outC1 outQ1 (((F_allClasses_k1_r r) count classes nn f0 f1 out).2) :: Γ0)) := by
  intro r
  induction r with
  | zero => intros; omega
  | succ r ih =>
    intro count classesB classesA classesN classesC classes nnB nn visitB growB fB f0 f1A f1N f1C f1 outB outA outC outQ out w w0v Γ0 hS0 hf hfl hfm hn hl ht hb hlt
    exact cb_allClasses_k1 (F_allClasses_k1_r r) ((nn - (classes.length : Int)).toNat) (fun count classes nn f0 f1 out hf hfl hfm hn hl ht hb hm => growLen r count classes nn f0 f1 out hf hfl hfm hn hl ht hb (by omega)) count classesB classesA classesN classesC classes nnB nn visitB growB fB f0 f1A f1N f1C f1 outB outA outC outQ out w w0v Γ0 hS0 hf hfl hfm hn hl ht hb rfl (fun count classesB classesA classesN classesC classes nnB nn visitB growB fB f0 f1A f1N f1C f1 outB outA outC outQ out w w0v Γ0 hS0 hf hfl hfm hn hl ht hb hdec => ih count classesB classesA classesN classesC classes nnB nn visitB growB fB f0 f1A f1N f1C f1 outB outA outC outQ out w w0v Γ0 hS0 hf hfl hfm hn hl ht hb (by omega))
theorem c_allClasses_k1 (count : Int) (classesB : Nat) (classesA : Option Addr) (classesN classesC : Nat) (classes : List Int) (nnB : Nat) (nn : Int) (visitB : Nat) (growB : Nat) (fB : Nat) (f0 : Int) (f1A : Option Addr) (f1N f1C : Nat) (f1 : List Int) (outB : Nat) (outA : Option Addr) (outC : Nat) (outQ : List Hd) (out : List (List Int)) (w : World) (w0v : World) (Γ0 : List Ent) (hS0 : St w0v w (.blk classesB #[.slice classesA classesN classesC] 22 :: .own 2 1 classesA classesN classesC classes :: .blk nnB #[.int .i64 nn] 2 :: .blk visitB #[.func (.func 191) #[] #[.pointer (some ⟨fB, 0, none⟩), .pointer (some ⟨outB, 0, none⟩)]] 151 :: .blk growB #[.func (.func 236) #[] #[.pointer (some ⟨classesB, 0, none⟩), .pointer (some ⟨nnB, 0, none⟩), .pointer (some ⟨visitB, 0, none⟩), .pointer (some ⟨growB, 0, none⟩)]] 167 :: .blk fB #[.int .i64 f0, .slice f1A f1N f1C] 30 :: .rd 1 f1A f1N f1C f1 :: .blk outB #[.slice outA ((out).length) outC] 60 :: .nest 22 1 (some 2) outA outC outQ out :: Γ0)) (hf : 0 ≤ f0 ∧ f0 ≤ 8) (hfl : (f1.length : Int) = f0) (hfm : ∀ m : Int, 0 ≤ m → m < (f1.length : Int) → 0 ≤ gI f1 m ∧ gI f1 m ≤ fullI f0) (hn : 0 ≤ nn ∧ nn ≤ 8) (hl : (classes.length : Int) ≤ nn) (ht : 0 ≤ count ∧ count ≤ (classes.length : Int)) (hb : out.length + Lf (nn - (classes.length : Int)).toNat count.toNat ≤ 10000) :
    Calls Try.prog 236 #[.int .i64 count, .pointer (some ⟨classesB, 0, none⟩), .pointer (some ⟨nnB, 0, none⟩), .pointer (some ⟨visitB, 0, none⟩), .pointer (some ⟨growB, 0, none⟩)] w (Ret fun v w' => ∃ classesA1 : Option Addr, ∃ classesC1 : Nat, ∃ outA1 : Option Addr, ∃ outC1 : Nat, ∃ outQ1 : List Hd, v = .tuple #[] ∧ St w0v w' (.blk classesB #[.slice classesA1 (((F_allClasses_k1 count classes nn f0 f1 out).1).length) classesC1] 22 :: .own 2 1 classesA1 (((F_allClasses_k1 count classes nn f0 f1 out).1).length) classesC1 ((F_allClasses_k1 count classes nn f0 f1 out).1) :: .blk nnB #[.int .i64 nn] 2 :: .blk visitB #[.func (.func 191) #[] #[.pointer (some ⟨fB, 0, none⟩), .pointer (some ⟨outB, 0, none⟩)]] 151 :: .blk growB #[.func (.func 236) #[] #[.pointer (some ⟨classesB, 0, none⟩), .pointer (some ⟨nnB, 0, none⟩), .pointer (some ⟨visitB, 0, none⟩), .pointer (some ⟨growB, 0, none⟩)]] 167 :: .blk fB #[.int .i64 f0, .slice f1A f1N f1C] 30 :: .rd 1 f1A f1N f1C f1 :: .blk outB #[.slice outA1 (((F_allClasses_k1 count classes nn f0 f1 out).2).length) outC1] 60 :: .nest 22 1 (some 2) outA1 outC1 outQ1 ((F_allClasses_k1 count classes nn f0 f1 out).2) :: Γ0)) := c_allClasses_k1_r ((nn - (classes.length : Int)).toNat + 1) count classesB classesA classesN classesC classes nnB nn visitB growB fB f0 f1A f1N f1C f1 outB outA outC outQ out w w0v Γ0 hS0 hf hfl hfm hn hl ht hb (Nat.lt_succ_self _)
def F_allClasses (nn : Int) (f0 : Int) (f1 : List Int) (out : List (List Int)) : List (List Int) :=
  (F_allClasses_k1 0 ([]) nn f0 f1 out).2
theorem cf_allClasses (args : Array Value) (w : World) : (callFunc 190 args).run Try.prog w = .ok (.enter 190 args) w := by kernel_rfl
set_option maxRecDepth 100000 in
theorem c_allClasses (nn : Int) (fB : Nat) (f0 : Int) (f1A : Option Addr) (f1N f1C : Nat) (f1 : List Int) (outB : Nat) (outA : Option Addr) (outC : Nat) (outQ : List Hd) (out : List (List Int)) (w : World) (w0v : World) (Γ0 : List Ent) (hS0 : St w0v w (.blk fB #[.int .i64 f0, .slice f1A f1N f1C] 30 :: .rd 1 f1A f1N f1C f1 :: .blk outB #[.slice outA ((out).length) outC] 60 :: .nest 22 1 (some 2) outA outC outQ out :: Γ0)) (hf : 0 ≤ f0 ∧ f0 ≤ 8) (hfl : (f1.length : Int) = f0) (hfm : ∀ m : Int, 0 ≤ m → m < (f1.length : Int) → 0 ≤ gI f1 m ∧ gI f1 m ≤ fullI f0) (hn : 0 ≤ nn ∧ nn ≤ 8) (hb : out.length = 0) :
    Calls Try.prog 190 #[.int .i64 nn, .func (.func 191) #[] #[.pointer (some ⟨fB, 0, none⟩), .pointer (some ⟨outB, 0, none⟩)]] w (Ret fun v w' => ∃ outA1 : Option Addr, ∃ outC1 : Nat, ∃ outQ1 : List Hd, v = .tuple #[] ∧ St w0v w' (.blk fB #[.int .i64 f0, .slice f1A f1N f1C] 30 :: .rd 1 f1A f1N f1C f1 :: .blk outB #[.slice outA1 ((F_allClasses nn f0 f1 out).length) outC1] 60 :: .nest 22 1 (some 2) outA1 outC1 outQ1 (F_allClasses nn f0 f1 out) :: Γ0)) := by
  obtain rfl : f1N = f1.length := (St.rdR (i := 1) hS0 rfl).len1.symm
  have f1Le := (St.rdR (i := 1) hS0 rfl).le
  have outLe := (St.rdNo (i := 3) hS0 rfl).le
  refine enter (args := [.int .i64 nn, .func (.func 191) #[] #[.pointer (some ⟨fB, 0, none⟩), .pointer (some ⟨outB, 0, none⟩)]]) Try.func190 rfl rfl ?_
  rw [Try.ntmps190]; intro a hE
  have hE := hE.sub (L' := [(0, .int .i64 nn), (1, .func (.func 191) #[] #[.pointer (some ⟨fB, 0, none⟩), .pointer (some ⟨outB, 0, none⟩)])]) ⟨rfl, rfl, trivial⟩
  refine c_seq ?_
  refine c_reg ?_
  refine l_step hE rfl (l_box (v := .int .i64 nn) (cs := #[.int .i64 nn]) hS0 hE rfl rfl rfl ?_)
  intro b1 w2 hS5 he6 a3 hE4; clear hS0 hE
  refine l_step hE4 rfl (l_box (v := .func (.func 191) #[] #[.pointer (some ⟨fB, 0, none⟩), .pointer (some ⟨outB, 0, none⟩)]) (cs := #[.func (.func 191) #[] #[.pointer (some ⟨fB, 0, none⟩), .pointer (some ⟨outB, 0, none⟩)]]) hS5 hE4 rfl rfl rfl ?_)
  intro b7 w8 hS11 he12 a9 hE10; clear hS5 hE4
  refine c_nil ?_
  have hE13 := hE10.sub (L' := [(2, .pointer (some ⟨b1, 0, none⟩)), (3, .pointer (some ⟨b7, 0, none⟩))]) ⟨rfl, rfl, trivial⟩; clear hE10
  refine p_tn ?_
  refine c_seq ?_
  refine c_reg ?_
  refine q_step (v := .int .i64 nn) hE13 (y_load (fun _ => by kernel_rfl) rfl (St.cell (i := 1) hS11 rfl rfl)) rfl rfl rfl ?_; intro a14 hE15; clear hE13
  obtain ⟨_, hi1, hi2, hi3, hi4⟩ := info_parts (show (Try.prog.info? 2).map (fun i => (i.zero, i.size, i.bytes)) = some (some (.int .i64 0), 1, 8) by kernel_rfl)
  refine l_step hE15 rfl (l_make0 (e := 2) hS11 hE15 hi1 hi2 hi3 (by rw [hi4]; decide) (by kernel_rfl) rfl rfl (by omega) (by omega) rfl ?_)
  intro b16 w17 hS20 he21 a18 hE19; clear hS11 hE15
  refine l_step hE19 rfl (l_alloc (z := .slice none 0 0) (cs := #[.slice none 0 0]) hS20 hE19 (fun _ => by kernel_rfl) rfl rfl ?_)
  intro b22 w23 hS26 he27 a24 hE25; clear hS20 hE19
  refine l_step hE25 rfl (l_storeB (k := 0) (cs' := #[.slice b16 0 (Int.toNat nn)]) hS26 hE25 (fun _ => by kernel_rfl) rfl rfl rfl rfl rfl rfl rfl ?_)
  intro w29 hS32 a30 hE31; clear hS26 hE25
  refine c_nil ?_
  have hE34 := hE31.sub (L' := [(2, .pointer (some ⟨b1, 0, none⟩)), (3, .pointer (some ⟨b7, 0, none⟩)), (4, .pointer (some ⟨b22, 0, none⟩))]) ⟨rfl, rfl, rfl, trivial⟩; clear hE31
  refine p_tn ?_
  refine c_seq ?_
  refine c_reg ?_
  refine l_step hE34 rfl (l_alloc (z := .nilFunc) (cs := #[.nilFunc]) hS32 hE34 (fun _ => by kernel_rfl) rfl rfl ?_)
  intro b35 w36 hS39 he40 a37 hE38; clear hS32 hE34
  refine c_nil ?_
  have hE41 := hE38.sub (L' := [(2, .pointer (some ⟨b1, 0, none⟩)), (3, .pointer (some ⟨b7, 0, none⟩)), (4, .pointer (some ⟨b22, 0, none⟩)), (5, .pointer (some ⟨b35, 0, none⟩))]) ⟨rfl, rfl, rfl, rfl, trivial⟩; clear hE38
  refine p_tn ?_
  refine c_seq ?_
  refine c_reg ?_
  refine q_step (v := .func (.func 236) #[] #[.pointer (some ⟨b22, 0, none⟩), .pointer (some ⟨b1, 0, none⟩), .pointer (some ⟨b7, 0, none⟩), .pointer (some ⟨b35, 0, none⟩)]) hE41 (y_makeFunc (vs := [.pointer (some ⟨b22, 0, none⟩), .pointer (some ⟨b1, 0, none⟩), .pointer (some ⟨b7, 0, none⟩), .pointer (some ⟨b35, 0, none⟩)]) rfl) rfl rfl rfl ?_; intro a42 hE43; clear hE41
  refine l_step hE43 rfl (l_storeB (k := 0) (cs' := #[.func (.func 236) #[] #[.pointer (some ⟨b22, 0, none⟩), .pointer (some ⟨b1, 0, none⟩), .pointer (some ⟨b7, 0, none⟩), .pointer (some ⟨b35, 0, none⟩)]]) hS39 hE43 (fun _ => by kernel_rfl) rfl rfl rfl rfl rfl rfl rfl ?_)
  intro w45 hS48 a46 hE47; clear hS39 hE43
  refine c_nil ?_
  have hE50 := hE47.sub (L' := [(5, .pointer (some ⟨b35, 0, none⟩))]) ⟨rfl, trivial⟩; clear hE47
  refine p_tn ?_
  refine c_reg ?_
  refine q_step (v := .func (.func 236) #[] #[.pointer (some ⟨b22, 0, none⟩), .pointer (some ⟨b1, 0, none⟩), .pointer (some ⟨b7, 0, none⟩), .pointer (some ⟨b35, 0, none⟩)]) hE50 (y_load (fun _ => by kernel_rfl) rfl (St.cell (i := 0) hS48 rfl rfl)) rfl rfl rfl ?_; intro a51 hE52; clear hE50
  have hS59 := (St.pickT (Γ := [.blk b35 #[.func (.func 236) #[] #[.pointer (some ⟨b22, 0, none⟩), .pointer (some ⟨b1, 0, none⟩), .pointer (some ⟨b7, 0, none⟩), .pointer (some ⟨b35, 0, none⟩)]] 167, .blk b22 #[.slice b16 0 (Int.toNat nn)] 22, .own 2 1 b16 0 (Int.toNat nn) ([]), .blk b7 #[.func (.func 191) #[] #[.pointer (some ⟨fB, 0, none⟩), .pointer (some ⟨outB, 0, none⟩)]] 151, .blk b1 #[.int .i64 nn] 2, .blk fB #[.int .i64 f0, .slice f1A f1.length f1C] 30, .rd 1 f1A f1.length f1C f1, .blk outB #[.slice outA ((out).length) outC] 60, .nest 22 1 (some 2) outA outC outQ out]) (Γ' := [.blk b22 #[.slice b16 0 (Int.toNat nn)] 22, .own 2 1 b16 0 (Int.toNat nn) ([]), .blk b1 #[.int .i64 nn] 2, .blk b7 #[.func (.func 191) #[] #[.pointer (some ⟨fB, 0, none⟩), .pointer (some ⟨outB, 0, none⟩)]] 151, .blk b35 #[.func (.func 236) #[] #[.pointer (some ⟨b22, 0, none⟩), .pointer (some ⟨b1, 0, none⟩), .pointer (some ⟨b7, 0, none⟩), .pointer (some ⟨b35, 0, none⟩)]] 167, .blk fB #[.int .i64 f0, .slice f1A f1.length f1C] 30, .rd 1 f1A f1.length f1C f1, .blk outB #[.slice outA ((out).length) outC] 60, .nest 22 1 (some 2) outA outC outQ out]) (Γ0 := Γ0) hS48 [1, 2, 4, 3, 0, 5, 6, 7, 8] (by decide) rfl rfl); clear hS48
  have hc60 := c_allClasses_k1 0 b22 b16 0 (Int.toNat nn) ([]) b1 nn b7 b35 fB f0 f1A f1.length f1C f1 outB outA outC outQ out w45 w0v (Γ0) hS59 (by omega) (by omega) hfm (by omega) (by simp; omega) (by simp) (by have h8 := Lf8 hn.1 hn.2; simp; omega)
  refine l_step hE52 rfl (l_callv (f := 236) (caps := [.pointer (some ⟨b22, 0, none⟩), .pointer (some ⟨b1, 0, none⟩), .pointer (some ⟨b7, 0, none⟩), .pointer (some ⟨b35, 0, none⟩)]) (argv := [.int .i64 0]) hE52 rfl (fun _ => cf_allClasses_k1 _ _) rfl rfl (by exact hc60) ?_)
  rintro _ w54 ⟨b61, c62, b63, c64, h65, rfl, hS57⟩ a55 hE56; clear hE52 hc60
  refine c_nil ?_
  have hE66 := hE56.sub (L' := []) trivial; clear hE56
  have hF : F_allClasses nn f0 f1 out = (F_allClasses_k1 0 ([]) nn f0 f1 out).2 := by unfold F_allClasses; rfl
  refine c_end0 hE66 rfl ?_
  have hS9 := (St.pickT (Γ := [.blk b22 #[.slice b61 (((F_allClasses_k1 0 ([]) nn f0 f1 out).1).length) c62] 22, .own 2 1 b61 (((F_allClasses_k1 0 ([]) nn f0 f1 out).1).length) c62 ((F_allClasses_k1 0 ([]) nn f0 f1 out).1), .blk b1 #[.int .i64 nn] 2, .blk b7 #[.func (.func 191) #[] #[.pointer (some ⟨fB, 0, none⟩), .pointer (some ⟨outB, 0, none⟩)]] 151, .blk b35 #[.func (.func 236) #[] #[.pointer (some ⟨b22, 0, none⟩), .pointer (some ⟨b1, 0, none⟩), .pointer (some ⟨b7, 0, none⟩), .pointer (some ⟨b35, 0, none⟩)]] 167, .blk fB #[.int .i64 f0, .slice f1A f1.length f1C] 30, .rd 1 f1A f1.length f1C f1, .blk outB #[.slice b63 (((F_allClasses_k1 0 ([]) nn f0 f1 out).2).length) c64] 60, .nest 22 1 (some 2) b63 c64 h65 ((F_allClasses_k1 0 ([]) nn f0 f1 out).2)]) (Γ' := [.blk fB #[.int .i64 f0, .slice f1A f1.length f1C] 30, .rd 1 f1A f1.length f1C f1, .blk outB #[.slice b63 (((F_allClasses_k1 0 ([]) nn f0 f1 out).2).length) c64] 60, .nest 22 1 (some 2) b63 c64 h65 ((F_allClasses_k1 0 ([]) nn f0 f1 out).2)]) (Γ0 := Γ0) hS57 [5, 6, 7, 8] (by decide) rfl rfl)
  exact ⟨b63, c64, h65, rfl, (by rw [hF]; (try dsimp only); exact hS9)⟩
def F_congruences (f0 : Int) (f1 : List Int) : List (List Int) :=
  (F_allClasses f0 f0 f1 ([]))
theorem cf_congruences (args : Array Value) (w : World) : (callFunc 109 args).run Try.prog w = .ok (.enter 109 args) w := by kernel_rfl
set_option maxRecDepth 100000 in
theorem c_congruences (f0 : Int) (f1A : Option Addr) (f1N f1C : Nat) (f1 : List Int) (w : World) (f1R : RdS w 1 f1A f1N f1C f1) (hf : 0 ≤ f0 ∧ f0 ≤ 8) (hfl : (f1.length : Int) = f0) (hfm : ∀ m : Int, 0 ≤ m → m < (f1.length : Int) → 0 ≤ gI f1 m ∧ gI f1 m ≤ fullI f0) :
    Calls Try.prog 109 #[.agg #[.int .i64 f0, .slice f1A f1N f1C]] w (Ret fun v w' => ∃ b1 : Option Addr, ∃ c1 : Nat, ∃ h1 : List Hd, v = .slice b1 (F_congruences f0 f1).length c1 ∧ OwnN w' w.heap.size 22 1 2 b1 c1 h1 (F_congruences f0 f1) ∧ Ext w w') := by
  obtain rfl : f1N = f1.length := f1R.len1.symm
  have f1Le := f1R.le
  have hS := St.nil w
  have hS1 := St.rd0 hS rfl f1R; clear hS
  refine enter (args := [.agg #[.int .i64 f0, .slice f1A f1.length f1C]]) Try.func109 rfl rfl ?_
  rw [Try.ntmps109]; intro a hE
  have hE := hE.sub (L' := [(0, .agg #[.int .i64 f0, .slice f1A f1.length f1C])]) ⟨rfl, trivial⟩
  refine c_seq ?_
  refine c_reg ?_
  refine l_step hE rfl (l_box (v := .agg #[.int .i64 f0, .slice f1A f1.length f1C]) (cs := #[.int .i64 f0, .slice f1A f1.length f1C]) hS1 hE rfl rfl rfl ?_)
  intro b2 w3 hS6 he7 a4 hE5; clear hS1 hE
  refine q_step (v := .slice none 0 0) hE5 (y_assign rfl) rfl rfl rfl ?_; intro a8 hE9; clear hE5
  refine c_nil ?_
  have hE10 := hE9.sub (L' := [(1, .pointer (some ⟨b2, 0, none⟩))]) ⟨rfl, trivial⟩; clear hE9
  refine p_tn ?_
  refine c_seq ?_
  refine c_reg ?_
  refine l_step hE10 rfl (l_alloc (z := .slice none 0 0) (cs := #[.slice none 0 0]) hS6 hE10 (fun _ => by kernel_rfl) rfl rfl ?_)
  intro b11 w12 hS15 he16 a13 hE14; clear hS6 hE10
  refine c_nil ?_
  have hE17 := hE14.sub (L' := [(1, .pointer (some ⟨b2, 0, none⟩)), (3, .pointer (some ⟨b11, 0, none⟩))]) ⟨rfl, rfl, trivial⟩; clear hE14
  refine p_tn ?_
  refine c_seq ?_
  refine c_reg ?_
  refine q_step (v := .pointer (some ⟨b2, 0, none⟩)) hE17 (y_field rfl (fun _ => by kernel_rfl)) rfl rfl rfl ?_; intro a18 hE19; clear hE17
  refine q_step (v := .int .i64 f0) hE19 (y_load (fun _ => by kernel_rfl) rfl (St.cell (i := 1) hS15 rfl rfl)) rfl rfl rfl ?_; intro a20 hE21; clear hE19
  refine q_step (v := .func (.func 191) #[] #[.pointer (some ⟨b2, 0, none⟩), .pointer (some ⟨b11, 0, none⟩)]) hE21 (y_makeFunc (vs := [.pointer (some ⟨b2, 0, none⟩), .pointer (some ⟨b11, 0, none⟩)]) rfl) rfl rfl rfl ?_; intro a22 hE23; clear hE21
  have hS30 := St.nilsN hS15 22 1 (some 2); clear hS15
  have hS31 := (St.pick (Γ' := [.blk b2 #[.int .i64 f0, .slice f1A f1.length f1C] 30, .rd 1 f1A f1.length f1C f1, .blk b11 #[.slice none 0 0] 60, .nest 22 1 (some 2) none 0 ([]) ([])]) hS30 [2, 3, 1, 0] (by decide) rfl); clear hS30
  have hc32 := c_allClasses f0 b2 f0 f1A f1.length f1C f1 b11 none 0 ([]) ([]) w12 w [] hS31 (by omega) (by omega) hfm (by omega) rfl
  refine l_step hE23 rfl (l_call (f := 190) (argv := [.int .i64 f0, .func (.func 191) #[] #[.pointer (some ⟨b2, 0, none⟩), .pointer (some ⟨b11, 0, none⟩)]]) hE23 (fun _ => cf_allClasses _ _) rfl rfl (by exact hc32) ?_)
  rintro _ w25 ⟨b33, c34, h35, rfl, hS28⟩ a26 hE27; clear hE23 hc32
  refine c_nil ?_
  have hE36 := hE27.sub (L' := [(3, .pointer (some ⟨b11, 0, none⟩))]) ⟨rfl, trivial⟩; clear hE27
  refine p_tn ?_
  refine c_seq ?_
  refine c_reg ?_
  refine q_step (v := .slice b33 (((F_allClasses f0 f0 f1 ([]))).length) c34) hE36 (y_load (fun _ => by kernel_rfl) rfl (St.cell (i := 2) hS28 rfl rfl)) rfl rfl rfl ?_; intro a37 hE38; clear hE36
  refine q_step (v := .slice b33 (((F_allClasses f0 f0 f1 ([]))).length) c34) hE38 (y_assign rfl) rfl rfl rfl ?_; intro a39 hE40; clear hE38
  refine c_nil ?_
  have hE41 := hE40.sub (L' := [(2, .slice b33 (((F_allClasses f0 f0 f1 ([]))).length) c34)]) ⟨rfl, trivial⟩; clear hE40
  refine p_tn ?_
  refine wp_ret ?_
  have hF : F_congruences f0 f1 = (F_allClasses f0 f0 f1 ([])) := by unfold F_congruences; rfl
  refine c_ret1 hE41 rfl rfl ?_
  exact ⟨b33, c34, h35, (by rw [hF]; first | done | (dsimp only; done) | rfl), (by rw [hF]; (try dsimp only); exact St.okN (i := 3) hS28 rfl), hS28.ext⟩
def F_AllCongruences (f0 : Int) (f1 : List Int) : (List (List Int)) × (Int) :=
  bif (!(F_isFrame f0 f1)) then ([], 1) else (bif (decide (200 < ((F_congruences f0 f1).length : Int))) then ([], 3) else (F_congruences f0 f1, 0))
theorem cf_AllCongruences (args : Array Value) (w : World) : (callFunc 45 args).run Try.prog w = .ok (.enter 45 args) w := by kernel_rfl
set_option maxRecDepth 100000 in
theorem c_AllCongruences (f0 : Int) (f1A : Option Addr) (f1N f1C : Nat) (f1 : List Int) (w : World) (f1R : RdS w 1 f1A f1N f1C f1) :
    Calls Try.prog 45 #[.agg #[.int .i64 f0, .slice f1A f1N f1C]] w (Ret fun v w' => ∃ b1 : Option Addr, ∃ c1 : Nat, ∃ h1 : List Hd, v = .tuple #[.slice b1 ((F_AllCongruences f0 f1).1).length c1, .int .i64 ((F_AllCongruences f0 f1).2)] ∧ OwnN w' w.heap.size 22 1 2 b1 c1 h1 ((F_AllCongruences f0 f1).1) ∧ Ext w w') := by
  obtain rfl : f1N = f1.length := f1R.len1.symm
  have f1Le := f1R.le
  have hS := St.nil w
  have hS1 := St.rd0 hS rfl f1R; clear hS
  refine enter (args := [.agg #[.int .i64 f0, .slice f1A f1.length f1C]]) Try.func45 rfl rfl ?_
  rw [Try.ntmps45]; intro a hE
  have hE := hE.sub (L' := [(0, .agg #[.int .i64 f0, .slice f1A f1.length f1C])]) ⟨rfl, trivial⟩
  refine c_seq ?_
  refine c_reg ?_
  refine l_step hE rfl (l_box (v := .agg #[.int .i64 f0, .slice f1A f1.length f1C]) (cs := #[.int .i64 f0, .slice f1A f1.length f1C]) hS1 hE rfl rfl rfl ?_)
  intro b2 w3 hS6 he7 a4 hE5; clear hS1 hE
  refine q_step (v := .slice none 0 0) hE5 (y_assign rfl) rfl rfl rfl ?_; intro a8 hE9; clear hE5
  refine q_step (v := .int .i64 0) hE9 (y_assign rfl) rfl rfl rfl ?_; intro a10 hE11; clear hE9
  refine c_nil ?_
  have hE12 := hE11.sub (L' := [(1, .pointer (some ⟨b2, 0, none⟩))]) ⟨rfl, trivial⟩; clear hE11
  refine p_tn ?_
  refine c_seq ?_
  refine c_seq ?_
  refine c_reg ?_
  refine q_step (v := .agg #[.int .i64 f0, .slice f1A f1.length f1C]) hE12 (y_loadS Try.underlying30 rfl (by kernel_rfl) rfl (St.row (i := 0) hS6 rfl)) rfl rfl rfl ?_; intro a13 hE14; clear hE12
  refine l_step hE14 rfl (l_call (f := 96) (argv := [.agg #[.int .i64 f0, .slice f1A f1.length f1C]]) hE14 (fun _ => cf_isFrame _ _) rfl rfl (c_isFrame f0 f1A f1.length f1C f1 w3 (St.rdR (i := 1) hS6 rfl)) ?_)
  rintro _ w16 ⟨rfl, he20⟩ a17 hE18; clear hE14
  have hS19 := St.go hS6 he20; clear hS6
  refine q_step (v := .bool (!(F_isFrame f0 f1))) hE18 (y_not rfl) rfl rfl rfl ?_; intro a21 hE22; clear hE18
  refine c_nil ?_
  have hE23 := hE22.sub (L' := [(1, .pointer (some ⟨b2, 0, none⟩)), (7, .bool (!(F_isFrame f0 f1)))]) ⟨rfl, rfl, trivial⟩; clear hE22
  refine p_tn ?_
  refine c_cond hE23 rfl (fun ht24 => ?_) (fun ht24 => ?_)
  ·
   have ht25 := bn_t ht24
   have hE26 := hE23; rw [ht24] at hE26; clear hE23
   refine c_seq ?_
   refine c_reg ?_
   refine q_step (v := .slice none 0 0) hE26 (y_assign rfl) rfl rfl rfl ?_; intro a27 hE28; clear hE26
   refine q_step (v := .int .i64 1) hE28 (y_assign rfl) rfl rfl rfl ?_; intro a29 hE30; clear hE28
   refine c_nil ?_
   have hE31 := hE30.sub (L' := [(2, .slice none 0 0), (3, .int .i64 1)]) ⟨rfl, rfl, trivial⟩; clear hE30
   refine p_tn ?_
   refine wp_ret ?_
   refine p_tr ?_
   have hF : F_AllCongruences f0 f1 = ([], 1) := by unfold F_AllCongruences; rw [ht24]; first | done | rfl
   refine c_ret2 hE31 rfl rfl rfl ?_
   exact ⟨none, 0, [], (by rw [hF]; first | done | (dsimp only; done) | rfl), (by rw [hF]; (try dsimp only); exact St.okN (i := 0) (St.nilsN hS19 _ _ _) rfl), hS19.ext⟩
  ·
   have ht32 := bn_f ht24
   have hp33 := isFrame_t ht32
   have hE34 := hE23; rw [ht24] at hE34; clear hE23
   refine wp_skip ?_
   refine p_tn ?_
   refine c_seq ?_
   refine c_reg ?_
   refine q_step (v := .agg #[.int .i64 f0, .slice f1A f1.length f1C]) hE34 (y_loadS Try.underlying30 rfl (by kernel_rfl) rfl (St.row (i := 0) hS19 rfl)) rfl rfl rfl ?_; intro a35 hE36; clear hE34
   refine l_step hE36 rfl (l_call (f := 109) (argv := [.agg #[.int .i64 f0, .slice f1A f1.length f1C]]) hE36 (fun _ => cf_congruences _ _) rfl rfl (c_congruences f0 f1A f1.length f1C f1 w16 (St.rdR (i := 1) hS19 rfl) (by omega) (by omega) (l05Is_m (by rw [← isFrame_eq]; assumption))) ?_)
   rintro _ w38 ⟨b43, c44, h45, rfl, ho46, he42⟩ a39 hE40; clear hE36
   have hS41 := St.ownN hS19 he42 ho46; clear hS19
   refine q_step (v := .slice b43 ((F_congruences f0 f1).length) c44) hE40 (y_assign rfl) rfl rfl rfl ?_; intro a47 hE48; clear hE40
   refine c_nil ?_
   have hE49 := hE48.sub (L' := [(4, .slice b43 ((F_congruences f0 f1).length) c44)]) ⟨rfl, trivial⟩; clear hE48
   refine p_tn ?_
   refine c_seq ?_
   refine c_seq ?_
   refine c_reg ?_
   refine q_step (v := .slice b43 ((F_congruences f0 f1).length) c44) hE49 (y_move rfl) rfl rfl rfl ?_; intro a50 hE51; clear hE49
   refine q_step (v := .int .i64 ((F_congruences f0 f1).length : Int)) hE51 (y_len (e := 22) (by kernel_rfl) rfl) rfl rfl rfl ?_; intro a52 hE53; clear hE51
   refine q_step (v := .bool (decide (200 < ((F_congruences f0 f1).length : Int)))) hE53 (y_gtr rfl rfl) rfl rfl rfl ?_; intro a54 hE55; clear hE53
   refine c_nil ?_
   have hE56 := hE55.sub (L' := [(4, .slice b43 ((F_congruences f0 f1).length) c44), (12, .bool (decide (200 < ((F_congruences f0 f1).length : Int))))]) ⟨rfl, rfl, trivial⟩; clear hE55
   refine p_tn ?_
   refine c_cond hE56 rfl (fun ht57 => ?_) (fun ht57 => ?_)
   ·
    have hp58 := of_decide_eq_true ht57
    have hE59 := hE56; rw [ht57] at hE59; clear hE56
    refine c_seq ?_
    refine c_reg ?_
    refine q_step (v := .slice none 0 0) hE59 (y_assign rfl) rfl rfl rfl ?_; intro a60 hE61; clear hE59
    refine q_step (v := .int .i64 3) hE61 (y_assign rfl) rfl rfl rfl ?_; intro a62 hE63; clear hE61
    refine c_nil ?_
    have hE64 := hE63.sub (L' := [(2, .slice none 0 0), (3, .int .i64 3)]) ⟨rfl, rfl, trivial⟩; clear hE63
    refine p_tn ?_
    refine wp_ret ?_
    refine p_tr ?_
    have hF : F_AllCongruences f0 f1 = ([], 3) := by unfold F_AllCongruences; rw [ht57, ht24]; first | done | rfl
    refine c_ret2 hE64 rfl rfl rfl ?_
    exact ⟨none, 0, [], (by rw [hF]; first | done | (dsimp only; done) | rfl), (by rw [hF]; (try dsimp only); exact St.okN (i := 0) (St.nilsN hS41 _ _ _) rfl), hS41.ext⟩
   ·
    have hp65 := of_decide_eq_false ht57
    have hE66 := hE56; rw [ht57] at hE66; clear hE56
    refine wp_skip ?_
    refine p_tn ?_
    refine c_seq ?_
    refine c_reg ?_
    refine q_step (v := .slice b43 ((F_congruences f0 f1).length) c44) hE66 (y_move rfl) rfl rfl rfl ?_; intro a67 hE68; clear hE66
    refine q_step (v := .slice b43 ((F_congruences f0 f1).length) c44) hE68 (y_assign rfl) rfl rfl rfl ?_; intro a69 hE70; clear hE68
    refine q_step (v := .int .i64 0) hE70 (y_assign rfl) rfl rfl rfl ?_; intro a71 hE72; clear hE70
    refine c_nil ?_
    have hE73 := hE72.sub (L' := [(2, .slice b43 ((F_congruences f0 f1).length) c44), (3, .int .i64 0)]) ⟨rfl, rfl, trivial⟩; clear hE72
    refine p_tn ?_
    refine wp_ret ?_
    have hF : F_AllCongruences f0 f1 = (F_congruences f0 f1, 0) := by unfold F_AllCongruences; rw [ht57, ht24]; first | done | rfl
    refine c_ret2 hE73 rfl rfl rfl ?_
    exact ⟨b43, c44, h45, (by rw [hF]; first | done | (dsimp only; done) | rfl), (by rw [hF]; (try dsimp only); exact St.okN (i := 0) hS41 rfl), hS41.ext⟩
end Go.Proofs.Ytlbonhloeefnmaa
