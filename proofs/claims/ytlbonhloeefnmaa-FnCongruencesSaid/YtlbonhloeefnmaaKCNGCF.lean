/- GCF: models and contracts, printed by wip/gen/gen.py -/
import Derived.Test.YtlbonhloeefnmaaKCNGW
set_option linter.unusedVariables false
set_option linter.unusedSimpArgs false
namespace Go.Proofs.Ytlbonhloeefnmaa
open Go.RowKit
def sumN (xs : List Int) : Nat := (xs.map Int.toNat).sum
theorem Mk.and {n : Nat} (hn : n ≤ 62) {a b : Int} (ha : Mk n a) (hb : Mk n b) : Mk n (andI a b) ∧ (∀ j, tb (andI a b) j = (tb a j && tb b j)) ∧ andI a b ≤ b := by
  have h1 := ha.sm hn
  have h2 := hb.sm hn
  obtain ⟨h3, h4, h5⟩ := andI_testBit ha.1 (by omega) hb.1 (by omega)
  refine ⟨Mk.ofBits h3 fun j hj => ?_, h5, (andI_le ha.1 (by omega) hb.1 (by omega)).2.2⟩
  have e : tb (andI a b) j = (tb a j && tb b j) := h5 j
  rw [e, Bool.and_eq_true] at hj
  exact tb_lt ha hj.1
theorem frame_mm {f0 : Int} {f1 : List Int} (h : F_isFrame f0 f1 = true) : ∀ m : Int, 0 ≤ m → m < (f1.length : Int) → 0 ≤ gI f1 m ∧ gI f1 m ≤ fullI (f1.length : Int) := by
  rw [isFrame_eq] at h
  intro m h0 h1
  rw [(l05Is_t h).2]; exact l05Is_m h m h0 h1
theorem l01Closure_loop2 (ap : List Int) (k : Int) (r : Nat) (i : Int) (o : List Int) : F_l01Closure_L2 ap k r i o = F_transitive_L2 ap k r i o := by
  induction r generalizing i o with
  | zero => rfl
  | succ r ih =>
    show F_l01Closure_L2b ap k _ i o = F_transitive_L2b ap k _ i o
    unfold F_l01Closure_L2b F_transitive_L2b
    rw [ih]; rfl
theorem l01Closure_loop1 (ap : List Int) (r : Nat) (i : Int) (o : List Int) : F_l01Closure_L1 ap r i o = F_transitive_L1 ap r i o := by
  induction r generalizing i o with
  | zero => rfl
  | succ r ih =>
    show F_l01Closure_L1b ap _ i o = F_transitive_L1b ap _ i o
    unfold F_l01Closure_L1b F_transitive_L1b
    rw [ih, l01Closure_loop2]
theorem l01Closure_eq (ap : List Int) : F_l01Closure ap = F_transitive ap := by
  unfold F_l01Closure F_transitive; rw [l01Closure_loop1]
theorem l01Closure_len (ap : List Int) : (F_l01Closure ap).length = ap.length := by rw [l01Closure_eq, transitive_len]
/-- It has grown, or the flag is down. -/
def Gr (b0 b : List Int) (f : Bool) : Prop := sumN b0 ≤ sumN b ∧ (f = true → sumN b0 < sumN b)
theorem Gr.refl (b : List Int) : Gr b b false := ⟨Nat.le_refl _, fun h => by cases h⟩
def F_l01Reflexive_L1b (ap : List Int) (rec : (List Int) → Int → (List Int) × Int) (out3 : List Int) (i4 : Int) : (List Int) × Int :=
  bif (decide (i4 < (ap.length : Int))) then (rec (out3 ++ ([orI (gI ap i4) (powI i4)])) (i4 + 1)) else (out3, i4)
def F_l01Reflexive_L1 (ap : List Int) : Nat → (List Int) → Int → (List Int) × Int
  | 0, out3, i4 => (out3, i4)
  | r + 1, out3, i4 => F_l01Reflexive_L1b ap (F_l01Reflexive_L1 ap r) out3 i4
def F_l01Reflexive (ap : List Int) : List Int :=
  (F_l01Reflexive_L1 ap (Int.toNat ((ap.length : Int) - 0) + 1) ([]) 0).1
theorem cf_l01Reflexive (args : Array Value) (w : World) : (callFunc 141 args).run Try.prog w = .ok (.enter 141 args) w := by kernel_rfl
set_option maxRecDepth 100000 in
theorem c_l01Reflexive (apA : Option Addr) (apN apC : Nat) (ap : List Int) (w : World) (apR : RdS w 1 apA apN apC ap) (hl : ap.length ≤ 30) :
    Calls Try.prog 141 #[.slice apA apN apC] w (Ret fun v w' => ∃ b1 : Option Addr, ∃ c1 : Nat, v = .slice b1 (F_l01Reflexive ap).length c1 ∧ OwnS w' w.heap.size 2 1 b1 (F_l01Reflexive ap).length c1 (F_l01Reflexive ap) ∧ Ext w w') := by
  obtain rfl : apN = ap.length := apR.len1.symm
  have apLe := apR.le
  have hS := St.nil w
  have hS1 := St.rd0 hS rfl apR; clear hS
  refine enter (args := [.slice apA ap.length apC]) Try.func141 rfl rfl ?_
  rw [Try.ntmps141]; intro a hE
  have hE := hE.sub (L' := [(0, .slice apA ap.length apC)]) ⟨rfl, trivial⟩
  refine c_seq ?_
  refine c_reg ?_
  refine q_step (v := .slice none 0 0) hE (y_assign rfl) rfl rfl rfl ?_; intro a2 hE3; clear hE
  refine c_nil ?_
  have hE4 := hE3.sub (L' := [(0, .slice apA ap.length apC)]) ⟨rfl, trivial⟩; clear hE3
  refine p_tn ?_
  refine c_seq ?_
  refine c_reg ?_
  refine l_step hE4 rfl (l_lit (e := 2) (s := 1) (xs := []) (vs := []) hS1 hE4 rfl (fun _ => by kernel_rfl) rfl rfl rfl ?_)
  intro b5 w6 hS9 he10 a7 hE8; clear hS1 hE4
  refine q_step (v := .slice (some ⟨b5, 0, none⟩) 0 0) hE8 (y_assign rfl) rfl rfl rfl ?_; intro a11 hE12; clear hE8
  refine c_nil ?_
  have hE13 := hE12.sub (L' := [(0, .slice apA ap.length apC), (3, .slice (some ⟨b5, 0, none⟩) 0 0)]) ⟨rfl, rfl, trivial⟩; clear hE12
  refine p_tn ?_
  refine c_seq ?_
  refine c_seq ?_
  refine c_reg ?_
  refine q_step (v := .int .i64 0) hE13 (y_assign rfl) rfl rfl rfl ?_; intro a14 hE15; clear hE13
  refine c_nil ?_
  have hE16 := hE15.sub (L' := [(0, .slice apA ap.length apC), (3, .slice (some ⟨b5, 0, none⟩) 0 0), (4, .int .i64 0)]) ⟨rfl, rfl, rfl, trivial⟩; clear hE15
  refine p_tn ?_
  refine c_cut1 (fun a' w' => ∃ out3A_17 : Option Addr, ∃ out3C_17 : Nat, (0 ≤ ((F_l01Reflexive_L1 ap (Int.toNat ((ap.length : Int) - 0) + 1) ([]) 0).2)) ∧ (((F_l01Reflexive_L1 ap (Int.toNat ((ap.length : Int) - 0) + 1) ([]) 0).2) ≤ (ap.length : Int)) ∧ ((((F_l01Reflexive_L1 ap (Int.toNat ((ap.length : Int) - 0) + 1) ([]) 0).1).length : Int) ≤ ((F_l01Reflexive_L1 ap (Int.toNat ((ap.length : Int) - 0) + 1) ([]) 0).2)) ∧ E a' 23 [(0, .slice apA ap.length apC), (3, .slice out3A_17 (((F_l01Reflexive_L1 ap (Int.toNat ((ap.length : Int) - 0) + 1) ([]) 0).1).length) out3C_17), (4, .int .i64 ((F_l01Reflexive_L1 ap (Int.toNat ((ap.length : Int) - 0) + 1) ([]) 0).2))] ∧ St w w' [.own 2 1 out3A_17 (((F_l01Reflexive_L1 ap (Int.toNat ((ap.length : Int) - 0) + 1) ([]) 0).1).length) out3C_17 ((F_l01Reflexive_L1 ap (Int.toNat ((ap.length : Int) - 0) + 1) ([]) 0).1), .rd 1 apA ap.length apC ap]) ?_ ?_
  ·
   refine wp_block ?_
   refine c_loop (fun r a' w' => ∃ out3 : List Int, ∃ i4 : Int, ∃ out3A : Option Addr, ∃ out3C : Nat, F_l01Reflexive_L1 ap r out3 i4 = F_l01Reflexive_L1 ap (Int.toNat ((ap.length : Int) - 0) + 1) ([]) 0 ∧ Int.toNat ((ap.length : Int) - i4) < r ∧ (0 ≤ i4) ∧ (i4 ≤ (ap.length : Int)) ∧ ((out3.length : Int) ≤ i4) ∧ E a' 23 [(0, .slice apA ap.length apC), (3, .slice out3A ((out3).length) out3C), (4, .int .i64 i4)] ∧ St w w' [.own 2 1 out3A ((out3).length) out3C out3, .rd 1 apA ap.length apC ap]) (r := (Int.toNat ((ap.length : Int) - 0) + 1)) ?_ ?_
   · exact ⟨[], 0, some ⟨b5, 0, none⟩, 0, rfl, Nat.lt_succ_self _, (by first | omega | (simp only [sS_len, sL_len]; omega) | (simp only [List.length_replicate, sI_len]; omega) | (simp only [List.length_append, List.length_cons, List.length_nil, sI_len, cond_true, cond_false]; omega) | (simp only [List.length_append, List.length_cons, List.length_nil, sI_len, cond_eq_ite, apply_ite List.length]; split <;> simp only [List.length_append, List.length_cons, List.length_nil, sI_len] <;> omega) | grind), (by first | omega | (simp only [sS_len, sL_len]; omega) | (simp only [List.length_replicate, sI_len]; omega) | (simp only [List.length_append, List.length_cons, List.length_nil, sI_len, cond_true, cond_false]; omega) | (simp only [List.length_append, List.length_cons, List.length_nil, sI_len, cond_eq_ite, apply_ite List.length]; split <;> simp only [List.length_append, List.length_cons, List.length_nil, sI_len] <;> omega) | grind), (by first | omega | (simp only [sS_len, sL_len]; omega) | (simp only [List.length_replicate, sI_len]; omega) | (simp only [List.length_append, List.length_cons, List.length_nil, sI_len, cond_true, cond_false]; omega) | (simp only [List.length_append, List.length_cons, List.length_nil, sI_len, cond_eq_ite, apply_ite List.length]; split <;> simp only [List.length_append, List.length_cons, List.length_nil, sI_len] <;> omega) | grind), (hE16.sub (L' := [(0, .slice apA ap.length apC), (3, .slice (some ⟨b5, 0, none⟩) 0 0), (4, .int .i64 0)]) ⟨rfl, rfl, rfl, trivial⟩), (St.pick (Γ' := [.own 2 1 (some ⟨b5, 0, none⟩) 0 0 ([]), .rd 1 apA ap.length apC ap]) hS9 [0, 1] (by decide) rfl)⟩
   ·
    clear hE16 hS9
    rintro r27 a18 w19 ⟨out3, i4, out3A, out3C, hT22, hr23, hi24, hi25, hi26, hE20, hS21⟩
    obtain ⟨r27, rfl⟩ : ∃ r', r27 = r' + 1 := ⟨r27 - 1, by omega⟩
    refine c_seq ?_
    refine c_seq ?_
    refine c_reg ?_
    refine q_step (v := .int .i64 i4) hE20 (y_move rfl) rfl rfl rfl ?_; intro a28 hE29; clear hE20
    refine q_step (v := .slice apA ap.length apC) hE29 (y_move rfl) rfl rfl rfl ?_; intro a30 hE31; clear hE29
    refine q_step (v := .int .i64 (ap.length : Int)) hE31 (y_len (e := 2) (by kernel_rfl) rfl) rfl rfl rfl ?_; intro a32 hE33; clear hE31
    refine q_step (v := .bool (decide (i4 < (ap.length : Int)))) hE33 (y_lss rfl rfl) rfl rfl rfl ?_; intro a34 hE35; clear hE33
    refine c_nil ?_
    have hE36 := hE35.sub (L' := [(0, .slice apA ap.length apC), (3, .slice out3A ((out3).length) out3C), (4, .int .i64 i4), (9, .bool (decide (i4 < (ap.length : Int))))]) ⟨rfl, rfl, rfl, rfl, trivial⟩; clear hE35
    refine p_tn ?_
    refine c_cond hE36 rfl (fun ht37 => ?_) (fun ht37 => ?_)
    ·
     have hp38 := of_decide_eq_true ht37
     have hE39 := hE36; rw [ht37] at hE39; clear hE36
     refine wp_skip ?_
     refine p_tn ?_
     refine c_seq ?_
     refine wp_block ?_
     refine d_start (fun w w' => (fun w' => w'.cell? (adr apA (Int.toNat i4)) = some (.int .i64 (gI ap i4)) ∧ True) w → (fun w' => w'.cell? (adr apA (Int.toNat i4)) = some (.int .i64 (gI ap i4)) ∧ True) w') [4] 11 (by kernel_rfl) rfl ?_
     intro w40 he41; have hS42 := St.go hS21 he41; clear hS21
     refine d_pure (fun _ h => h) (v := .slice out3A ((out3).length) out3C) 0 rfl hE39 (y_move rfl) rfl (by kernel_rfl) (by kernel_rfl) (by kernel_rfl) rfl rfl (fun _ _ _ h => h) ?_; intro a43 hE44; clear hE39
     refine d_pure (fun _ h => h) (v := .slice apA ap.length apC) 1 rfl hE44 (y_move rfl) rfl (by kernel_rfl) (by kernel_rfl) (by kernel_rfl) rfl rfl (fun _ _ _ h => h) ?_; intro a45 hE46; clear hE44
     refine d_pure (fun _ h => h) (v := .int .i64 i4) 2 rfl hE46 (y_move rfl) rfl (by kernel_rfl) (by kernel_rfl) (by kernel_rfl) rfl rfl (fun _ _ _ h => h) ?_; intro a47 hE48; clear hE46
     refine d_pure (fun _ h => h) (v := .pointer (some (adr apA (Int.toNat i4)))) 3 rfl hE48 (y_idx (by kernel_rfl) (fun _ => by kernel_rfl) rfl rfl (RdS.isS (m := i4) (St.rdR (i := 1) hS42 rfl) (by omega) (by omega)) (by omega) (by omega) (Nat.mul_one _).symm) rfl (by kernel_rfl) (by kernel_rfl) (by kernel_rfl) rfl rfl (fun _ _ _ h => h) ?_; intro a49 hE50; clear hE48
     refine d_take (fun _ h => h) (fun _ _ h k => h k) (v := .int .i64 (gI ap i4)) 4 rfl hE50 (S := fun w' => w'.cell? (adr apA (Int.toNat i4)) = some (.int .i64 (gI ap i4)) ∧ True) ⟨(RdS.elt (St.rdR (i := 1) hS42 rfl) (by omega) (by omega) _ (Ext.refl _)), trivial⟩ (y_load (fun _ => by kernel_rfl) rfl (fun _ h => h.1)) rfl rfl (by kernel_rfl) (by kernel_rfl) (by kernel_rfl) (by kernel_rfl) rfl rfl (fun _ _ _ h => h) ?_; intro a51 hE52; clear hE50
     refine d_pure (fun _ h => h) (v := .int .i64 i4) 5 rfl hE52 (y_move rfl) rfl (by kernel_rfl) (by kernel_rfl) (by kernel_rfl) rfl rfl (fun _ _ _ h => h) ?_; intro a53 hE54; clear hE52
     refine d_only 6 (by kernel_rfl) rfl hE54 rfl (l_call (f := 209) (argv := [.int .i64 i4]) hE54 (fun _ => cf_l01One _ _) rfl rfl (d_l01One i4 w40 (by omega) (by omega)) ?_)
     rintro _ _ ⟨rfl, rfl⟩ a57 hE58; clear hE54
     refine ⟨fun _ _ => ⟨(RdS.elt (St.rdR (i := 1) hS42 rfl) (by omega) (by omega) _ (Ext.refl _)), trivial⟩, ?_⟩
     refine d_pure (fun _ h => h) (v := .int .i64 (orI (gI ap i4) (powI i4))) 7 rfl hE58 (y_or rfl rfl) rfl (by kernel_rfl) (by kernel_rfl) (by kernel_rfl) rfl rfl (fun _ _ _ h => h) ?_; intro a61 hE62; clear hE58
     refine d_only 8 (by kernel_rfl) rfl hE62 rfl (l_lit (e := 2) (s := 1) (xs := [orI (gI ap i4) (powI i4)]) (vs := [.int .i64 (orI (gI ap i4) (powI i4))]) hS42 hE62 rfl (fun _ => by kernel_rfl) rfl rfl rfl ?_)
     intro b63 w64 hS67 he68 a65 hE66; clear hS42 hE62
     refine ⟨fun h => Bool.noConfusion (h.symm.trans (show exm _ _ _ = true by kernel_rfl)), ?_⟩
     obtain ⟨_, hi1, hi2, hi3, hi4⟩ := info_parts (show (Try.prog.info? 2).map (fun i => (i.zero, i.size, i.bytes)) = some (some (.int .i64 0), 1, 8) by kernel_rfl)
     refine d_only 9 (by kernel_rfl) rfl hE66 rfl (l_append (k := 1) (n' := (out3 ++ ([orI (gI ap i4) (powI i4)])).length) hS67 hE66 (by kernel_rfl) hi1 hi2 hi3 rfl (by decide) (by rw [hi4]; decide) rfl rfl rfl (St.rdO (i := 0) hS67 rfl) (by first | omega | (simp only [List.length_append, List.length_cons, List.length_nil]; omega)) (by have h1 := (St.rdO (i := 1) hS67 rfl).len1; have h2 := (St.rdO (i := 0) hS67 rfl).len1; first | rw [List.length_append, h1, h2] | (simp only [List.length_append])) rfl ?_)
     intro b69 c75 w70 hS73 a71 hE72; clear hS67 hE66 hi1 hi2 hi3 hi4
     refine ⟨fun h => Bool.noConfusion (h.symm.trans (show exm _ _ _ = true by kernel_rfl)), ?_⟩
     refine d_pure (fun _ h => h) (v := .slice b69 ((out3 ++ ([orI (gI ap i4) (powI i4)])).length) c75) 10 rfl hE72 (y_assign rfl) rfl (by kernel_rfl) (by kernel_rfl) (by kernel_rfl) rfl rfl (fun _ _ _ h => h) ?_; intro a76 hE77; clear hE72
     refine d_done (by kernel_rfl) ?_
     have hE78 := hE77.sub (L' := [(0, .slice apA ap.length apC), (3, .slice b69 ((out3 ++ ([orI (gI ap i4) (powI i4)])).length) c75), (4, .int .i64 i4)]) ⟨rfl, rfl, rfl, trivial⟩; clear hE77
     refine p_bn ?_
     refine p_tn ?_
     refine c_reg ?_
     refine q_step (v := .int .i64 i4) hE78 (y_move rfl) rfl rfl rfl ?_; intro a79 hE80; clear hE78
     refine q_step (v := .int .i64 (i4 + 1)) hE80 (y_add rfl rfl ⟨(by omega), (by omega)⟩) rfl rfl rfl ?_; intro a81 hE82; clear hE80
     refine q_step (v := .int .i64 (i4 + 1)) hE82 (y_assign rfl) rfl rfl rfl ?_; intro a83 hE84; clear hE82
     refine c_nil ?_
     have hE85 := hE84.sub (L' := [(0, .slice apA ap.length apC), (3, .slice b69 ((out3 ++ ([orI (gI ap i4) (powI i4)])).length) c75), (4, .int .i64 (i4 + 1))]) ⟨rfl, rfl, rfl, trivial⟩; clear hE84
     refine p_tn ⟨r27, Nat.lt_succ_self _, out3 ++ ([orI (gI ap i4) (powI i4)]), i4 + 1, b69, c75, (hT22.symm.trans (show F_l01Reflexive_L1b ap (F_l01Reflexive_L1 ap r27) out3 i4 = F_l01Reflexive_L1 ap r27 (out3 ++ ([orI (gI ap i4) (powI i4)])) (i4 + 1) by unfold F_l01Reflexive_L1b; rw [ht37]; first | done | rfl)).symm, (by omega), (by first | omega | (simp only [sS_len, sL_len]; omega) | (simp only [List.length_replicate, sI_len]; omega) | (simp only [List.length_append, List.length_cons, List.length_nil, sI_len, cond_true, cond_false]; omega) | (simp only [List.length_append, List.length_cons, List.length_nil, sI_len, cond_eq_ite, apply_ite List.length]; split <;> simp only [List.length_append, List.length_cons, List.length_nil, sI_len] <;> omega) | grind), (by first | omega | (simp only [sS_len, sL_len]; omega) | (simp only [List.length_replicate, sI_len]; omega) | (simp only [List.length_append, List.length_cons, List.length_nil, sI_len, cond_true, cond_false]; omega) | (simp only [List.length_append, List.length_cons, List.length_nil, sI_len, cond_eq_ite, apply_ite List.length]; split <;> simp only [List.length_append, List.length_cons, List.length_nil, sI_len] <;> omega) | grind), (by first | omega | (simp only [sS_len, sL_len]; omega) | (simp only [List.length_replicate, sI_len]; omega) | (simp only [List.length_append, List.length_cons, List.length_nil, sI_len, cond_true, cond_false]; omega) | (simp only [List.length_append, List.length_cons, List.length_nil, sI_len, cond_eq_ite, apply_ite List.length]; split <;> simp only [List.length_append, List.length_cons, List.length_nil, sI_len] <;> omega) | grind), (hE85.sub (L' := [(0, .slice apA ap.length apC), (3, .slice b69 ((out3 ++ ([orI (gI ap i4) (powI i4)])).length) c75), (4, .int .i64 (i4 + 1))]) ⟨rfl, rfl, rfl, trivial⟩), (St.pick (Γ' := [.own 2 1 b69 ((out3 ++ ([orI (gI ap i4) (powI i4)])).length) c75 (out3 ++ ([orI (gI ap i4) (powI i4)])), .rd 1 apA ap.length apC ap]) hS73 [1, 2] (by decide) rfl)⟩
    ·
     have hp86 := of_decide_eq_false ht37
     have hE87 := hE36; rw [ht37] at hE87; clear hE36
     refine wp_exit ?_
     refine p_te ?_
     have hX88 : F_l01Reflexive_L1 ap (Int.toNat ((ap.length : Int) - 0) + 1) ([]) 0 = (out3, i4) := hT22.symm.trans (show F_l01Reflexive_L1b ap (F_l01Reflexive_L1 ap r27) out3 i4 = (out3, i4) by unfold F_l01Reflexive_L1b; rw [ht37]; first | done | rfl)
     refine p_te (p_be (p_tn ?_))
     exact ⟨out3A, out3C, (by rw [hX88]; exact (show 0 ≤ i4 from (by first | omega | (simp only [sS_len, sL_len]; omega) | (simp only [List.length_replicate, sI_len]; omega) | (simp only [List.length_append, List.length_cons, List.length_nil, sI_len, cond_true, cond_false]; omega) | (simp only [List.length_append, List.length_cons, List.length_nil, sI_len, cond_eq_ite, apply_ite List.length]; split <;> simp only [List.length_append, List.length_cons, List.length_nil, sI_len] <;> omega) | grind))), (by rw [hX88]; exact (show i4 ≤ (ap.length : Int) from (by first | omega | (simp only [sS_len, sL_len]; omega) | (simp only [List.length_replicate, sI_len]; omega) | (simp only [List.length_append, List.length_cons, List.length_nil, sI_len, cond_true, cond_false]; omega) | (simp only [List.length_append, List.length_cons, List.length_nil, sI_len, cond_eq_ite, apply_ite List.length]; split <;> simp only [List.length_append, List.length_cons, List.length_nil, sI_len] <;> omega) | grind))), (by rw [hX88]; exact (show (out3.length : Int) ≤ i4 from (by first | omega | (simp only [sS_len, sL_len]; omega) | (simp only [List.length_replicate, sI_len]; omega) | (simp only [List.length_append, List.length_cons, List.length_nil, sI_len, cond_true, cond_false]; omega) | (simp only [List.length_append, List.length_cons, List.length_nil, sI_len, cond_eq_ite, apply_ite List.length]; split <;> simp only [List.length_append, List.length_cons, List.length_nil, sI_len] <;> omega) | grind))), (by rw [hX88]; exact (hE87.sub (L' := [(0, .slice apA ap.length apC), (3, .slice out3A ((out3).length) out3C), (4, .int .i64 i4)]) ⟨rfl, rfl, rfl, trivial⟩)), (by rw [hX88]; exact (St.pick (Γ' := [.own 2 1 out3A ((out3).length) out3C out3, .rd 1 apA ap.length apC ap]) hS21 [0, 1] (by decide) rfl))⟩
  ·
   rintro a89 w90 ⟨out3A_17, out3C_17, hi94, hi95, hi96, hE91, hS92⟩; clear hE16 hS9
   refine p_tn ?_
   refine c_seq ?_
   refine c_reg ?_
   refine q_step (v := .slice out3A_17 (((F_l01Reflexive_L1 ap (Int.toNat ((ap.length : Int) - 0) + 1) ([]) 0).1).length) out3C_17) hE91 (y_move rfl) rfl rfl rfl ?_; intro a97 hE98; clear hE91
   refine q_step (v := .slice out3A_17 (((F_l01Reflexive_L1 ap (Int.toNat ((ap.length : Int) - 0) + 1) ([]) 0).1).length) out3C_17) hE98 (y_assign rfl) rfl rfl rfl ?_; intro a99 hE100; clear hE98
   refine c_nil ?_
   have hE101 := hE100.sub (L' := [(2, .slice out3A_17 (((F_l01Reflexive_L1 ap (Int.toNat ((ap.length : Int) - 0) + 1) ([]) 0).1).length) out3C_17)]) ⟨rfl, trivial⟩; clear hE100
   refine p_tn ?_
   refine wp_ret ?_
   have hF : F_l01Reflexive ap = (F_l01Reflexive_L1 ap (Int.toNat ((ap.length : Int) - 0) + 1) ([]) 0).1 := by unfold F_l01Reflexive; rfl
   refine c_ret1 hE101 rfl rfl ?_
   exact ⟨out3A_17, out3C_17, (by rw [hF]; first | done | (dsimp only; done) | rfl), (by rw [hF]; (try dsimp only); exact hS92.ok 0 _ rfl), hS92.ext⟩
theorem l01Reflexive_map (ap : List Int) : F_l01Reflexive ap = (List.range ap.length).map fun (i : Nat) => orI (gI ap (i : Int)) (powI (i : Int)) := by
  unfold F_l01Reflexive
  rw [mapLoop0 (ap.length : Int) (by omega) (fun i => orI (gI ap i) (powI i)) (F_l01Reflexive_L1 ap) (fun _ _ _ => rfl), Int.toNat_natCast]
theorem l01Reflexive_len (ap : List Int) : (F_l01Reflexive ap).length = ap.length := by rw [l01Reflexive_map]; simp
end Go.Proofs.Ytlbonhloeefnmaa
