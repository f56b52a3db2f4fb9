/- GHL: models and contracts, printed by wip/gen/gen.py -/
import Derived.Test.YtkilkfhjfobcdaaKCHGSA
set_option linter.unusedVariables false
set_option linter.unusedSimpArgs false
namespace Go.Proofs.Ytkilkfhjfobcdaa
open Go.RowKit
theorem heldSS_lp (ap : List (List Int)) (N : Int) : ∀ (r : Nat) (k1 i : Int), 0 ≤ i → 0 ≤ k1 → k1 + (totL ap : Int) ≤ N + (totL (ap.take i.toNat) : Int) → 0 ≤ N → (bif isOk (F_l_heldInt64SS_L1 ap r k1 i) then (okD (F_l_heldInt64SS_L1 ap r k1 i)).1 else errD (F_l_heldInt64SS_L1 ap r k1 i)) ≤ N := by
  intro r
  induction r with
  | zero =>
    intro k1 i h0 h1 h2 h3
    have := totL_take_le ap i.toNat
    show k1 ≤ N
    omega
  | succ r ih =>
    intro k1 i h0 h1 h2 h3
    show (bif isOk (F_l_heldInt64SS_L1b ap (F_l_heldInt64SS_L1 ap r) k1 i) then (okD (F_l_heldInt64SS_L1b ap (F_l_heldInt64SS_L1 ap r) k1 i)).1 else errD (F_l_heldInt64SS_L1b ap (F_l_heldInt64SS_L1 ap r) k1 i)) ≤ N
    unfold F_l_heldInt64SS_L1b
    have ht := totL_take_le ap i.toNat
    by_cases hi : i < (ap.length : Int)
    · rw [decide_eq_true hi, cond_true]
      have h4 := heldI_le (gL ap i) k1 h1
      have h5 := totL_take ap h0 hi
      by_cases hn : F_l_heldInt64S (gL ap i) k1 < 0
      · rw [decide_eq_true hn, cond_true]
        show (-1 : Int) ≤ N; omega
      · rw [decide_eq_false hn, cond_false]
        exact ih _ _ (by omega) (by omega) (by omega) h3
    · rw [decide_eq_false hi, cond_false]
      show k1 ≤ N; omega
theorem heldSS_ub (ap : List (List Int)) (kp : Int) (h : 0 ≤ kp) : F_l_heldInt64SS ap kp ≤ kp + (totL ap : Int) := heldSS_lp ap (kp + (totL ap : Int)) _ kp 0 (Int.le_refl _) h (by simp [totL]) (by omega)
def F_l_eqHeyting (hp0 : List (List Int)) (hp1 : List (List Int)) (hp2 : List (List Int)) (hp3 : Int) (hp4 : Int) (kp0 : List (List Int)) (kp1 : List (List Int)) (kp2 : List (List Int)) (kp3 : Int) (kp4 : Int) : Bool :=
  bif (!(decide (hp0 = kp0))) then false else (bif (!(decide (hp1 = kp1))) then false else (bif (!(decide (hp2 = kp2))) then false else (bif (!decide (hp3 = kp3)) then false else (bif (!decide (hp4 = kp4)) then false else true))))
theorem cf_l_eqHeyting (args : Array Value) (w : World) : (callFunc 56 args).run Try.prog w = .ok (.enter 56 args) w := by kernel_rfl
set_option maxRecDepth 100000 in
theorem c_l_eqHeyting (hp0A : Option Addr) (hp0N hp0C : Nat) (hp0Q : List Hd) (hp0 : List (List Int)) (hp1A : Option Addr) (hp1N hp1C : Nat) (hp1Q : List Hd) (hp1 : List (List Int)) (hp2A : Option Addr) (hp2N hp2C : Nat) (hp2Q : List Hd) (hp2 : List (List Int)) (hp3 : Int) (hp4 : Int) (kp0A : Option Addr) (kp0N kp0C : Nat) (kp0Q : List Hd) (kp0 : List (List Int)) (kp1A : Option Addr) (kp1N kp1C : Nat) (kp1Q : List Hd) (kp1 : List (List Int)) (kp2A : Option Addr) (kp2N kp2C : Nat) (kp2Q : List Hd) (kp2 : List (List Int)) (kp3 : Int) (kp4 : Int) (w : World) (hp0R : RdN w 1 hp0A hp0N hp0C hp0Q hp0) (hp1R : RdN w 1 hp1A hp1N hp1C hp1Q hp1) (hp2R : RdN w 1 hp2A hp2N hp2C hp2Q hp2) (kp0R : RdN w 1 kp0A kp0N kp0C kp0Q kp0) (kp1R : RdN w 1 kp1A kp1N kp1C kp1Q kp1) (kp2R : RdN w 1 kp2A kp2N kp2C kp2Q kp2) :
    Calls Try.prog 56 #[.agg #[.slice hp0A hp0N hp0C, .slice hp1A hp1N hp1C, .slice hp2A hp2N hp2C, .int .i64 hp3, .int .i64 hp4], .agg #[.slice kp0A kp0N kp0C, .slice kp1A kp1N kp1C, .slice kp2A kp2N kp2C, .int .i64 kp3, .int .i64 kp4]] w (Ret fun v w' => v = .bool (F_l_eqHeyting hp0 hp1 hp2 hp3 hp4 kp0 kp1 kp2 kp3 kp4) ∧ Ext w w') := by
  obtain rfl : hp0N = hp0.length := hp0R.len
  have hp0Le := hp0R.le
  obtain rfl : hp1N = hp1.length := hp1R.len
  have hp1Le := hp1R.le
  obtain rfl : hp2N = hp2.length := hp2R.len
  have hp2Le := hp2R.le
  obtain rfl : kp0N = kp0.length := kp0R.len
  have kp0Le := kp0R.le
  obtain rfl : kp1N = kp1.length := kp1R.len
  have kp1Le := kp1R.le
  obtain rfl : kp2N = kp2.length := kp2R.len
  have kp2Le := kp2R.le
  have hS := St.nil w
  have hS1 := St.rdn0 hS rfl hp0R; clear hS
  have hS2 := St.rdn0 hS1 rfl hp1R; clear hS1
  have hS3 := St.rdn0 hS2 rfl hp2R; clear hS2
  have hS4 := St.rdn0 hS3 rfl kp0R; clear hS3
  have hS5 := St.rdn0 hS4 rfl kp1R; clear hS4
  have hS6 := St.rdn0 hS5 rfl kp2R; clear hS5
  refine enter (args := [.agg #[.slice hp0A ((hp0).length) hp0C, .slice hp1A ((hp1).length) hp1C, .slice hp2A ((hp2).length) hp2C, .int .i64 hp3, .int .i64 hp4], .agg #[.slice kp0A ((kp0).length) kp0C, .slice kp1A ((kp1).length) kp1C, .slice kp2A ((kp2).length) kp2C, .int .i64 kp3, .int .i64 kp4]]) Try.func56 rfl rfl ?_
  rw [Try.ntmps56]; intro a hE
  have hE := hE.sub (L' := [(0, .agg #[.slice hp0A ((hp0).length) hp0C, .slice hp1A ((hp1).length) hp1C, .slice hp2A ((hp2).length) hp2C, .int .i64 hp3, .int .i64 hp4]), (1, .agg #[.slice kp0A ((kp0).length) kp0C, .slice kp1A ((kp1).length) kp1C, .slice kp2A ((kp2).length) kp2C, .int .i64 kp3, .int .i64 kp4])]) ⟨rfl, rfl, trivial⟩
  refine c_seq ?_
  refine c_reg ?_
  refine l_step hE rfl (l_box (v := .agg #[.slice hp0A ((hp0).length) hp0C, .slice hp1A ((hp1).length) hp1C, .slice hp2A ((hp2).length) hp2C, .int .i64 hp3, .int .i64 hp4]) (cs := #[.slice hp0A ((hp0).length) hp0C, .slice hp1A ((hp1).length) hp1C, .slice hp2A ((hp2).length) hp2C, .int .i64 hp3, .int .i64 hp4]) hS6 hE rfl rfl rfl ?_)
  intro b7 w8 hS11 he12 a9 hE10; clear hS6 hE
  refine l_step hE10 rfl (l_box (v := .agg #[.slice kp0A ((kp0).length) kp0C, .slice kp1A ((kp1).length) kp1C, .slice kp2A ((kp2).length) kp2C, .int .i64 kp3, .int .i64 kp4]) (cs := #[.slice kp0A ((kp0).length) kp0C, .slice kp1A ((kp1).length) kp1C, .slice kp2A ((kp2).length) kp2C, .int .i64 kp3, .int .i64 kp4]) hS11 hE10 rfl rfl rfl ?_)
  intro b13 w14 hS17 he18 a15 hE16; clear hS11 hE10
  refine q_step (v := .bool false) hE16 (y_assign rfl) rfl rfl rfl ?_; intro a19 hE20; clear hE16
  refine c_nil ?_
  have hE21 := hE20.sub (L' := [(2, .pointer (some ⟨b7, 0, none⟩)), (3, .pointer (some ⟨b13, 0, none⟩))]) ⟨rfl, rfl, trivial⟩; clear hE20
  refine p_tn ?_
  refine c_seq ?_
  refine c_seq ?_
  refine c_reg ?_
  refine q_step (v := .pointer (some ⟨b7, 0, none⟩)) hE21 (y_field rfl (fun _ => by kernel_rfl)) rfl rfl rfl ?_; intro a22 hE23; clear hE21
  refine q_step (v := .slice hp0A ((hp0).length) hp0C) hE23 (y_load (fun _ => by kernel_rfl) rfl (St.cell (i := 1) hS17 rfl rfl)) rfl rfl rfl ?_; intro a24 hE25; clear hE23
  refine q_step (v := .pointer (some ⟨b13, 0, none⟩)) hE25 (y_field rfl (fun _ => by kernel_rfl)) rfl rfl rfl ?_; intro a26 hE27; clear hE25
  refine q_step (v := .slice kp0A ((kp0).length) kp0C) hE27 (y_load (fun _ => by kernel_rfl) rfl (St.cell (i := 0) hS17 rfl rfl)) rfl rfl rfl ?_; intro a28 hE29; clear hE27
  refine l_step hE29 rfl (l_call (f := 39) (argv := [.slice hp0A ((hp0).length) hp0C, .slice kp0A ((kp0).length) kp0C]) hE29 (fun _ => cf_l_eqInt64SS _ _) rfl rfl (d_l_eqInt64SS hp0A ((hp0).length) hp0C hp0Q hp0 kp0A ((kp0).length) kp0C kp0Q kp0 w14 (St.rdNr (i := 7) hS17 rfl) (St.rdNr (i := 4) hS17 rfl)) ?_)
  rintro _ w31 ⟨rfl, he35⟩ a32 hE33; clear hE29
  have hS34 := St.go hS17 he35; clear hS17
  refine q_step (v := .bool (!(decide (hp0 = kp0)))) hE33 (y_not rfl) rfl rfl rfl ?_; intro a36 hE37; clear hE33
  refine c_nil ?_
  have hE38 := hE37.sub (L' := [(2, .pointer (some ⟨b7, 0, none⟩)), (3, .pointer (some ⟨b13, 0, none⟩)), (10, .bool (!(decide (hp0 = kp0))))]) ⟨rfl, rfl, rfl, trivial⟩; clear hE37
  refine p_tn ?_
  refine c_cond hE38 rfl (fun ht39 => ?_) (fun ht39 => ?_)
  ·
   have ht40 := bn_t ht39
   have hp41 := of_decide_eq_false ht40
   have hE42 := hE38; rw [ht39] at hE42; clear hE38
   refine c_seq ?_
   refine c_reg ?_
   refine q_step (v := .bool false) hE42 (y_assign rfl) rfl rfl rfl ?_; intro a43 hE44; clear hE42
   refine c_nil ?_
   have hE45 := hE44.sub (L' := [(4, .bool false)]) ⟨rfl, trivial⟩; clear hE44
   refine p_tn ?_
   refine wp_ret ?_
   refine p_tr ?_
   have hF : F_l_eqHeyting hp0 hp1 hp2 hp3 hp4 kp0 kp1 kp2 kp3 kp4 = false := by unfold F_l_eqHeyting; rw [ht39]; first | done | rfl
   refine c_ret1 hE45 rfl rfl ?_
   exact ⟨(by rw [hF]; first | done | (dsimp only; done) | rfl), hS34.ext⟩
  ·
   have ht46 := bn_f ht39
   have hp47 := of_decide_eq_true ht46
   have hE48 := hE38; rw [ht39] at hE48; clear hE38
   refine wp_skip ?_
   refine p_tn ?_
   refine c_seq ?_
   refine c_seq ?_
   refine c_reg ?_
   refine q_step (v := .pointer (some ⟨b7, 1, none⟩)) hE48 (y_field rfl (fun _ => by kernel_rfl)) rfl rfl rfl ?_; intro a49 hE50; clear hE48
   refine q_step (v := .slice hp1A ((hp1).length) hp1C) hE50 (y_load (fun _ => by kernel_rfl) rfl (St.cell (i := 1) hS34 rfl rfl)) rfl rfl rfl ?_; intro a51 hE52; clear hE50
   refine q_step (v := .pointer (some ⟨b13, 1, none⟩)) hE52 (y_field rfl (fun _ => by kernel_rfl)) rfl rfl rfl ?_; intro a53 hE54; clear hE52
   refine q_step (v := .slice kp1A ((kp1).length) kp1C) hE54 (y_load (fun _ => by kernel_rfl) rfl (St.cell (i := 0) hS34 rfl rfl)) rfl rfl rfl ?_; intro a55 hE56; clear hE54
   refine l_step hE56 rfl (l_call (f := 39) (argv := [.slice hp1A ((hp1).length) hp1C, .slice kp1A ((kp1).length) kp1C]) hE56 (fun _ => cf_l_eqInt64SS _ _) rfl rfl (d_l_eqInt64SS hp1A ((hp1).length) hp1C hp1Q hp1 kp1A ((kp1).length) kp1C kp1Q kp1 w31 (St.rdNr (i := 6) hS34 rfl) (St.rdNr (i := 3) hS34 rfl)) ?_)
   rintro _ w58 ⟨rfl, he62⟩ a59 hE60; clear hE56
   have hS61 := St.go hS34 he62; clear hS34
   refine q_step (v := .bool (!(decide (hp1 = kp1)))) hE60 (y_not rfl) rfl rfl rfl ?_; intro a63 hE64; clear hE60
   refine c_nil ?_
   have hE65 := hE64.sub (L' := [(2, .pointer (some ⟨b7, 0, none⟩)), (3, .pointer (some ⟨b13, 0, none⟩)), (16, .bool (!(decide (hp1 = kp1))))]) ⟨rfl, rfl, rfl, trivial⟩; clear hE64
   refine p_tn ?_
   refine c_cond hE65 rfl (fun ht66 => ?_) (fun ht66 => ?_)
   ·
    have ht67 := bn_t ht66
    have hp68 := of_decide_eq_false ht67
    have hE69 := hE65; rw [ht66] at hE69; clear hE65
    refine c_seq ?_
    refine c_reg ?_
    refine q_step (v := .bool false) hE69 (y_assign rfl) rfl rfl rfl ?_; intro a70 hE71; clear hE69
    refine c_nil ?_
    have hE72 := hE71.sub (L' := [(4, .bool false)]) ⟨rfl, trivial⟩; clear hE71
    refine p_tn ?_
    refine wp_ret ?_
    refine p_tr ?_
    have hF : F_l_eqHeyting hp0 hp1 hp2 hp3 hp4 kp0 kp1 kp2 kp3 kp4 = false := by unfold F_l_eqHeyting; rw [ht66, ht39]; first | done | rfl
    refine c_ret1 hE72 rfl rfl ?_
    exact ⟨(by rw [hF]; first | done | (dsimp only; done) | rfl), hS61.ext⟩
   ·
    have ht73 := bn_f ht66
    have hp74 := of_decide_eq_true ht73
    have hE75 := hE65; rw [ht66] at hE75; clear hE65
    refine wp_skip ?_
    refine p_tn ?_
    refine c_seq ?_
    refine c_seq ?_
    refine c_reg ?_
    refine q_step (v := .pointer (some ⟨b7, 2, none⟩)) hE75 (y_field rfl (fun _ => by kernel_rfl)) rfl rfl rfl ?_; intro a76 hE77; clear hE75
    refine q_step (v := .slice hp2A ((hp2).length) hp2C) hE77 (y_load (fun _ => by kernel_rfl) rfl (St.cell (i := 1) hS61 rfl rfl)) rfl rfl rfl ?_; intro a78 hE79; clear hE77
    refine q_step (v := .pointer (some ⟨b13, 2, none⟩)) hE79 (y_field rfl (fun _ => by kernel_rfl)) rfl rfl rfl ?_; intro a80 hE81; clear hE79
    refine q_step (v := .slice kp2A ((kp2).length) kp2C) hE81 (y_load (fun _ => by kernel_rfl) rfl (St.cell (i := 0) hS61 rfl rfl)) rfl rfl rfl ?_; intro a82 hE83; clear hE81
    refine l_step hE83 rfl (l_call (f := 39) (argv := [.slice hp2A ((hp2).length) hp2C, .slice kp2A ((kp2).length) kp2C]) hE83 (fun _ => cf_l_eqInt64SS _ _) rfl rfl (d_l_eqInt64SS hp2A ((hp2).length) hp2C hp2Q hp2 kp2A ((kp2).length) kp2C kp2Q kp2 w58 (St.rdNr (i := 5) hS61 rfl) (St.rdNr (i := 2) hS61 rfl)) ?_)
    rintro _ w85 ⟨rfl, he89⟩ a86 hE87; clear hE83
    have hS88 := St.go hS61 he89; clear hS61
    refine q_step (v := .bool (!(decide (hp2 = kp2)))) hE87 (y_not rfl) rfl rfl rfl ?_; intro a90 hE91; clear hE87
    refine c_nil ?_
    have hE92 := hE91.sub (L' := [(2, .pointer (some ⟨b7, 0, none⟩)), (3, .pointer (some ⟨b13, 0, none⟩)), (22, .bool (!(decide (hp2 = kp2))))]) ⟨rfl, rfl, rfl, trivial⟩; clear hE91
    refine p_tn ?_
    refine c_cond hE92 rfl (fun ht93 => ?_) (fun ht93 => ?_)
    ·
     have ht94 := bn_t ht93
     have hp95 := of_decide_eq_false ht94
     have hE96 := hE92; rw [ht93] at hE96; clear hE92
     refine c_seq ?_
     refine c_reg ?_
     refine q_step (v := .bool false) hE96 (y_assign rfl) rfl rfl rfl ?_; intro a97 hE98; clear hE96
     refine c_nil ?_
     have hE99 := hE98.sub (L' := [(4, .bool false)]) ⟨rfl, trivial⟩; clear hE98
     refine p_tn ?_
     refine wp_ret ?_
     refine p_tr ?_
     have hF : F_l_eqHeyting hp0 hp1 hp2 hp3 hp4 kp0 kp1 kp2 kp3 kp4 = false := by unfold F_l_eqHeyting; rw [ht93, ht66, ht39]; first | done | rfl
     refine c_ret1 hE99 rfl rfl ?_
     exact ⟨(by rw [hF]; first | done | (dsimp only; done) | rfl), hS88.ext⟩
    ·
     have ht100 := bn_f ht93
     have hp101 := of_decide_eq_true ht100
     have hE102 := hE92; rw [ht93] at hE102; clear hE92
     refine wp_skip ?_
     refine p_tn ?_
     refine c_seq ?_
     refine c_seq ?_
     refine c_reg ?_
     refine q_step (v := .pointer (some ⟨b7, 3, none⟩)) hE102 (y_field rfl (fun _ => by kernel_rfl)) rfl rfl rfl ?_; intro a103 hE104; clear hE102
     refine q_step (v := .int .i64 hp3) hE104 (y_load (fun _ => by kernel_rfl) rfl (St.cell (i := 1) hS88 rfl rfl)) rfl rfl rfl ?_; intro a105 hE106; clear hE104
     refine q_step (v := .pointer (some ⟨b13, 3, none⟩)) hE106 (y_field rfl (fun _ => by kernel_rfl)) rfl rfl rfl ?_; intro a107 hE108; clear hE106
     refine q_step (v := .int .i64 kp3) hE108 (y_load (fun _ => by kernel_rfl) rfl (St.cell (i := 0) hS88 rfl rfl)) rfl rfl rfl ?_; intro a109 hE110; clear hE108
     refine q_step (v := .bool (!decide (hp3 = kp3))) hE110 (y_neq rfl rfl) rfl rfl rfl ?_; intro a111 hE112; clear hE110
     refine c_nil ?_
     have hE113 := hE112.sub (L' := [(2, .pointer (some ⟨b7, 0, none⟩)), (3, .pointer (some ⟨b13, 0, none⟩)), (27, .bool (!decide (hp3 = kp3)))]) ⟨rfl, rfl, rfl, trivial⟩; clear hE112
     refine p_tn ?_
     refine c_cond hE113 rfl (fun ht114 => ?_) (fun ht114 => ?_)
     ·
      have ht115 := bn_t ht114
      have hp116 := of_decide_eq_false ht115
      have hE117 := hE113; rw [ht114] at hE117; clear hE113
      refine c_seq ?_
      refine c_reg ?_
      refine q_step (v := .bool false) hE117 (y_assign rfl) rfl rfl rfl ?_; intro a118 hE119; clear hE117
      refine c_nil ?_
      have hE120 := hE119.sub (L' := [(4, .bool false)]) ⟨rfl, trivial⟩; clear hE119
      refine p_tn ?_
      refine wp_ret ?_
      refine p_tr ?_
      have hF : F_l_eqHeyting hp0 hp1 hp2 hp3 hp4 kp0 kp1 kp2 kp3 kp4 = false := by unfold F_l_eqHeyting; rw [ht114, ht93, ht66, ht39]; first | done | rfl
      refine c_ret1 hE120 rfl rfl ?_
      exact ⟨(by rw [hF]; first | done | (dsimp only; done) | rfl), hS88.ext⟩
     ·
      have ht121 := bn_f ht114
      have hp122 := of_decide_eq_true ht121
      have hE123 := hE113; rw [ht114] at hE123; clear hE113
      refine wp_skip ?_
      refine p_tn ?_
      refine c_seq ?_
      refine c_seq ?_
      refine c_reg ?_
      refine q_step (v := .pointer (some ⟨b7, 4, none⟩)) hE123 (y_field rfl (fun _ => by kernel_rfl)) rfl rfl rfl ?_; intro a124 hE125; clear hE123
      refine q_step (v := .int .i64 hp4) hE125 (y_load (fun _ => by kernel_rfl) rfl (St.cell (i := 1) hS88 rfl rfl)) rfl rfl rfl ?_; intro a126 hE127; clear hE125
      refine q_step (v := .pointer (some ⟨b13, 4, none⟩)) hE127 (y_field rfl (fun _ => by kernel_rfl)) rfl rfl rfl ?_; intro a128 hE129; clear hE127
      refine q_step (v := .int .i64 kp4) hE129 (y_load (fun _ => by kernel_rfl) rfl (St.cell (i := 0) hS88 rfl rfl)) rfl rfl rfl ?_; intro a130 hE131; clear hE129
      refine q_step (v := .bool (!decide (hp4 = kp4))) hE131 (y_neq rfl rfl) rfl rfl rfl ?_; intro a132 hE133; clear hE131
      refine c_nil ?_
      have hE134 := hE133.sub (L' := [(32, .bool (!decide (hp4 = kp4)))]) ⟨rfl, trivial⟩; clear hE133
      refine p_tn ?_
      refine c_cond hE134 rfl (fun ht135 => ?_) (fun ht135 => ?_)
      ·
       have ht136 := bn_t ht135
       have hp137 := of_decide_eq_false ht136
       have hE138 := hE134; rw [ht135] at hE138; clear hE134
       refine c_seq ?_
       refine c_reg ?_
       refine q_step (v := .bool false) hE138 (y_assign rfl) rfl rfl rfl ?_; intro a139 hE140; clear hE138
       refine c_nil ?_
       have hE141 := hE140.sub (L' := [(4, .bool false)]) ⟨rfl, trivial⟩; clear hE140
       refine p_tn ?_
       refine wp_ret ?_
       refine p_tr ?_
       have hF : F_l_eqHeyting hp0 hp1 hp2 hp3 hp4 kp0 kp1 kp2 kp3 kp4 = false := by unfold F_l_eqHeyting; rw [ht135, ht114, ht93, ht66, ht39]; first | done | rfl
       refine c_ret1 hE141 rfl rfl ?_
       exact ⟨(by rw [hF]; first | done | (dsimp only; done) | rfl), hS88.ext⟩
      ·
       have ht142 := bn_f ht135
       have hp143 := of_decide_eq_true ht142
       have hE144 := hE134; rw [ht135] at hE144; clear hE134
       refine wp_skip ?_
       refine p_tn ?_
       refine c_seq ?_
       refine c_reg ?_
       refine q_step (v := .bool true) hE144 (y_assign rfl) rfl rfl rfl ?_; intro a145 hE146; clear hE144
       refine c_nil ?_
       have hE147 := hE146.sub (L' := [(4, .bool true)]) ⟨rfl, trivial⟩; clear hE146
       refine p_tn ?_
       refine wp_ret ?_
       have hF : F_l_eqHeyting hp0 hp1 hp2 hp3 hp4 kp0 kp1 kp2 kp3 kp4 = true := by unfold F_l_eqHeyting; rw [ht135, ht114, ht93, ht66, ht39]; first | done | rfl
       refine c_ret1 hE147 rfl rfl ?_
       exact ⟨(by rw [hF]; first | done | (dsimp only; done) | rfl), hS88.ext⟩
def F_l_markHeyting (hp0 : List (List Int)) (hp1 : List (List Int)) (hp2 : List (List Int)) (hp3 : Int) (hp4 : Int) (kp : Int) : Int × List (List Int) × List (List Int) × List (List Int) :=
  (((kp + (totL hp0 : Int)) + (totL hp1 : Int)) + (totL hp2 : Int), markedL hp0 kp, markedL hp1 (kp + (totL hp0 : Int)), markedL hp2 ((kp + (totL hp0 : Int)) + (totL hp1 : Int)))
theorem cf_l_markHeyting (args : Array Value) (w : World) : (callFunc 57 args).run Try.prog w = .ok (.enter 57 args) w := by kernel_rfl
set_option maxRecDepth 100000 in
theorem c_l_markHeyting (hp0A : Option Addr) (hp0C : Nat) (hp0Q : List Hd) (hp0 : List (List Int)) (hp1A : Option Addr) (hp1C : Nat) (hp1Q : List Hd) (hp1 : List (List Int)) (hp2A : Option Addr) (hp2C : Nat) (hp2Q : List Hd) (hp2 : List (List Int)) (hp3 : Int) (hp4 : Int) (kp : Int) (w : World) (w0v : World) (Γ0 : List Ent) (hS0 : St w0v w (.nest 22 1 (some 2) hp2A hp2C hp2Q hp2 :: .nest 22 1 (some 2) hp1A hp1C hp1Q hp1 :: .nest 22 1 (some 2) hp0A hp0C hp0Q hp0 :: Γ0)) (h0 : 0 ≤ kp) (h1 : kp ≤ 10000) (t0 : totL hp0 ≤ 1000) (t1 : totL hp1 ≤ 1000) (t2 : totL hp2 ≤ 1000) :
    Calls Try.prog 57 #[.agg #[.slice hp0A (hp0).length hp0C, .slice hp1A (hp1).length hp1C, .slice hp2A (hp2).length hp2C, .int .i64 hp3, .int .i64 hp4], .int .i64 kp] w (Ret fun v w' => v = .int .i64 ((F_l_markHeyting hp0 hp1 hp2 hp3 hp4 kp).1) ∧ St w0v w' (.nest 22 1 (some 2) hp2A hp2C hp2Q ((F_l_markHeyting hp0 hp1 hp2 hp3 hp4 kp).2.2.2) :: .nest 22 1 (some 2) hp1A hp1C hp1Q ((F_l_markHeyting hp0 hp1 hp2 hp3 hp4 kp).2.2.1) :: .nest 22 1 (some 2) hp0A hp0C hp0Q ((F_l_markHeyting hp0 hp1 hp2 hp3 hp4 kp).2.1) :: Γ0)) := by
  have hp0Le := (St.rdNo (i := 2) hS0 rfl).le
  have hp1Le := (St.rdNo (i := 1) hS0 rfl).le
  have hp2Le := (St.rdNo (i := 0) hS0 rfl).le
  refine enter (args := [.agg #[.slice hp0A ((hp0).length) hp0C, .slice hp1A ((hp1).length) hp1C, .slice hp2A ((hp2).length) hp2C, .int .i64 hp3, .int .i64 hp4], .int .i64 kp]) Try.func57 rfl rfl ?_
  rw [Try.ntmps57]; intro a hE
  have hE := hE.sub (L' := [(0, .agg #[.slice hp0A ((hp0).length) hp0C, .slice hp1A ((hp1).length) hp1C, .slice hp2A ((hp2).length) hp2C, .int .i64 hp3, .int .i64 hp4]), (1, .int .i64 kp)]) ⟨rfl, rfl, trivial⟩
  refine c_seq ?_
  refine c_reg ?_
  refine l_step hE rfl (l_box (v := .agg #[.slice hp0A ((hp0).length) hp0C, .slice hp1A ((hp1).length) hp1C, .slice hp2A ((hp2).length) hp2C, .int .i64 hp3, .int .i64 hp4]) (cs := #[.slice hp0A ((hp0).length) hp0C, .slice hp1A ((hp1).length) hp1C, .slice hp2A ((hp2).length) hp2C, .int .i64 hp3, .int .i64 hp4]) hS0 hE rfl rfl rfl ?_)
  intro b1 w2 hS5 he6 a3 hE4; clear hS0 hE
  refine q_step (v := .int .i64 0) hE4 (y_assign rfl) rfl rfl rfl ?_; intro a7 hE8; clear hE4
  refine c_nil ?_
  have hE9 := hE8.sub (L' := [(1, .int .i64 kp), (2, .pointer (some ⟨b1, 0, none⟩))]) ⟨rfl, rfl, trivial⟩; clear hE8
  refine p_tn ?_
  refine c_seq ?_
  refine c_reg ?_
  refine q_step (v := .pointer (some ⟨b1, 0, none⟩)) hE9 (y_field rfl (fun _ => by kernel_rfl)) rfl rfl rfl ?_; intro a10 hE11; clear hE9
  refine q_step (v := .slice hp0A ((hp0).length) hp0C) hE11 (y_load (fun _ => by kernel_rfl) rfl (St.cell (i := 0) hS5 rfl rfl)) rfl rfl rfl ?_; intro a12 hE13; clear hE11
  refine q_step (v := .int .i64 kp) hE13 (y_move rfl) rfl rfl rfl ?_; intro a14 hE15; clear hE13
  have hS22 := (St.pickT (Γ := [.blk b1 #[.slice hp0A ((hp0).length) hp0C, .slice hp1A ((hp1).length) hp1C, .slice hp2A ((hp2).length) hp2C, .int .i64 hp3, .int .i64 hp4] 74, .nest 22 1 (some 2) hp2A hp2C hp2Q hp2, .nest 22 1 (some 2) hp1A hp1C hp1Q hp1, .nest 22 1 (some 2) hp0A hp0C hp0Q hp0]) (Γ' := [.nest 22 1 (some 2) hp0A hp0C hp0Q hp0, .blk b1 #[.slice hp0A ((hp0).length) hp0C, .slice hp1A ((hp1).length) hp1C, .slice hp2A ((hp2).length) hp2C, .int .i64 hp3, .int .i64 hp4] 74, .nest 22 1 (some 2) hp2A hp2C hp2Q hp2, .nest 22 1 (some 2) hp1A hp1C hp1Q hp1]) (Γ0 := Γ0) hS5 [3, 0, 1, 2] (by decide) rfl rfl); clear hS5
  refine l_step hE15 rfl (l_call (f := 40) (argv := [.slice hp0A ((hp0).length) hp0C, .int .i64 kp]) hE15 (fun _ => cf_l_markInt64SS _ _) rfl rfl (d_l_markInt64SS hp0A hp0C hp0Q hp0 kp w2 w0v (.blk b1 #[.slice hp0A ((hp0).length) hp0C, .slice hp1A ((hp1).length) hp1C, .slice hp2A ((hp2).length) hp2C, .int .i64 hp3, .int .i64 hp4] 74 :: .nest 22 1 (some 2) hp2A hp2C hp2Q hp2 :: .nest 22 1 (some 2) hp1A hp1C hp1Q hp1 :: Γ0) hS22 (by omega) (by omega) (by omega)) ?_)
  rintro _ w17 ⟨rfl, hS20⟩ a18 hE19; clear hE15 hS22
  refine q_step (v := .int .i64 (kp + (totL hp0 : Int))) hE19 (y_assign rfl) rfl rfl rfl ?_; intro a23 hE24; clear hE19
  refine c_nil ?_
  have hE25 := hE24.sub (L' := [(1, .int .i64 (kp + (totL hp0 : Int))), (2, .pointer (some ⟨b1, 0, none⟩))]) ⟨rfl, rfl, trivial⟩; clear hE24
  refine p_tn ?_
  refine c_seq ?_
  refine c_reg ?_
  refine q_step (v := .pointer (some ⟨b1, 1, none⟩)) hE25 (y_field rfl (fun _ => by kernel_rfl)) rfl rfl rfl ?_; intro a26 hE27; clear hE25
  refine q_step (v := .slice hp1A ((hp1).length) hp1C) hE27 (y_load (fun _ => by kernel_rfl) rfl (St.cell (i := 1) hS20 rfl rfl)) rfl rfl rfl ?_; intro a28 hE29; clear hE27
  refine q_step (v := .int .i64 (kp + (totL hp0 : Int))) hE29 (y_move rfl) rfl rfl rfl ?_; intro a30 hE31; clear hE29
  have hS38 := (St.pickT (Γ := [.nest 22 1 (some 2) hp0A hp0C hp0Q (markedL hp0 kp), .blk b1 #[.slice hp0A ((hp0).length) hp0C, .slice hp1A ((hp1).length) hp1C, .slice hp2A ((hp2).length) hp2C, .int .i64 hp3, .int .i64 hp4] 74, .nest 22 1 (some 2) hp2A hp2C hp2Q hp2, .nest 22 1 (some 2) hp1A hp1C hp1Q hp1]) (Γ' := [.nest 22 1 (some 2) hp1A hp1C hp1Q hp1, .nest 22 1 (some 2) hp0A hp0C hp0Q (markedL hp0 kp), .blk b1 #[.slice hp0A ((hp0).length) hp0C, .slice hp1A ((hp1).length) hp1C, .slice hp2A ((hp2).length) hp2C, .int .i64 hp3, .int .i64 hp4] 74, .nest 22 1 (some 2) hp2A hp2C hp2Q hp2]) (Γ0 := Γ0) hS20 [3, 0, 1, 2] (by decide) rfl rfl); clear hS20
  refine l_step hE31 rfl (l_call (f := 40) (argv := [.slice hp1A ((hp1).length) hp1C, .int .i64 (kp + (totL hp0 : Int))]) hE31 (fun _ => cf_l_markInt64SS _ _) rfl rfl (d_l_markInt64SS hp1A hp1C hp1Q hp1 (kp + (totL hp0 : Int)) w17 w0v (.nest 22 1 (some 2) hp0A hp0C hp0Q (markedL hp0 kp) :: .blk b1 #[.slice hp0A ((hp0).length) hp0C, .slice hp1A ((hp1).length) hp1C, .slice hp2A ((hp2).length) hp2C, .int .i64 hp3, .int .i64 hp4] 74 :: .nest 22 1 (some 2) hp2A hp2C hp2Q hp2 :: Γ0) hS38 (by omega) (by omega) (by omega)) ?_)
  rintro _ w33 ⟨rfl, hS36⟩ a34 hE35; clear hE31 hS38
  refine q_step (v := .int .i64 ((kp + (totL hp0 : Int)) + (totL hp1 : Int))) hE35 (y_assign rfl) rfl rfl rfl ?_; intro a39 hE40; clear hE35
  refine c_nil ?_
  have hE41 := hE40.sub (L' := [(1, .int .i64 ((kp + (totL hp0 : Int)) + (totL hp1 : Int))), (2, .pointer (some ⟨b1, 0, none⟩))]) ⟨rfl, rfl, trivial⟩; clear hE40
  refine p_tn ?_
  refine c_seq ?_
  refine c_reg ?_
  refine q_step (v := .pointer (some ⟨b1, 2, none⟩)) hE41 (y_field rfl (fun _ => by kernel_rfl)) rfl rfl rfl ?_; intro a42 hE43; clear hE41
  refine q_step (v := .slice hp2A ((hp2).length) hp2C) hE43 (y_load (fun _ => by kernel_rfl) rfl (St.cell (i := 2) hS36 rfl rfl)) rfl rfl rfl ?_; intro a44 hE45; clear hE43
  refine q_step (v := .int .i64 ((kp + (totL hp0 : Int)) + (totL hp1 : Int))) hE45 (y_move rfl) rfl rfl rfl ?_; intro a46 hE47; clear hE45
  have hS54 := (St.pickT (Γ := [.nest 22 1 (some 2) hp1A hp1C hp1Q (markedL hp1 (kp + (totL hp0 : Int))), .nest 22 1 (some 2) hp0A hp0C hp0Q (markedL hp0 kp), .blk b1 #[.slice hp0A ((hp0).length) hp0C, .slice hp1A ((hp1).length) hp1C, .slice hp2A ((hp2).length) hp2C, .int .i64 hp3, .int .i64 hp4] 74, .nest 22 1 (some 2) hp2A hp2C hp2Q hp2]) (Γ' := [.nest 22 1 (some 2) hp2A hp2C hp2Q hp2, .nest 22 1 (some 2) hp1A hp1C hp1Q (markedL hp1 (kp + (totL hp0 : Int))), .nest 22 1 (some 2) hp0A hp0C hp0Q (markedL hp0 kp), .blk b1 #[.slice hp0A ((hp0).length) hp0C, .slice hp1A ((hp1).length) hp1C, .slice hp2A ((hp2).length) hp2C, .int .i64 hp3, .int .i64 hp4] 74]) (Γ0 := Γ0) hS36 [3, 0, 1, 2] (by decide) rfl rfl); clear hS36
  refine l_step hE47 rfl (l_call (f := 40) (argv := [.slice hp2A ((hp2).length) hp2C, .int .i64 ((kp + (totL hp0 : Int)) + (totL hp1 : Int))]) hE47 (fun _ => cf_l_markInt64SS _ _) rfl rfl (d_l_markInt64SS hp2A hp2C hp2Q hp2 ((kp + (totL hp0 : Int)) + (totL hp1 : Int)) w33 w0v (.nest 22 1 (some 2) hp1A hp1C hp1Q (markedL hp1 (kp + (totL hp0 : Int))) :: .nest 22 1 (some 2) hp0A hp0C hp0Q (markedL hp0 kp) :: .blk b1 #[.slice hp0A ((hp0).length) hp0C, .slice hp1A ((hp1).length) hp1C, .slice hp2A ((hp2).length) hp2C, .int .i64 hp3, .int .i64 hp4] 74 :: Γ0) hS54 (by omega) (by omega) (by omega)) ?_)
  rintro _ w49 ⟨rfl, hS52⟩ a50 hE51; clear hE47 hS54
  refine q_step (v := .int .i64 (((kp + (totL hp0 : Int)) + (totL hp1 : Int)) + (totL hp2 : Int))) hE51 (y_assign rfl) rfl rfl rfl ?_; intro a55 hE56; clear hE51
  refine c_nil ?_
  have hE57 := hE56.sub (L' := [(1, .int .i64 (((kp + (totL hp0 : Int)) + (totL hp1 : Int)) + (totL hp2 : Int)))]) ⟨rfl, trivial⟩; clear hE56
  refine p_tn ?_
  refine c_seq ?_
  refine c_reg ?_
  refine q_step (v := .int .i64 (((kp + (totL hp0 : Int)) + (totL hp1 : Int)) + (totL hp2 : Int))) hE57 (y_move rfl) rfl rfl rfl ?_; intro a58 hE59; clear hE57
  refine q_step (v := .int .i64 (((kp + (totL hp0 : Int)) + (totL hp1 : Int)) + (totL hp2 : Int))) hE59 (y_assign rfl) rfl rfl rfl ?_; intro a60 hE61; clear hE59
  refine c_nil ?_
  have hE62 := hE61.sub (L' := [(4, .int .i64 (((kp + (totL hp0 : Int)) + (totL hp1 : Int)) + (totL hp2 : Int)))]) ⟨rfl, trivial⟩; clear hE61
  refine p_tn ?_
  refine wp_ret ?_
  have hF : F_l_markHeyting hp0 hp1 hp2 hp3 hp4 kp = (((kp + (totL hp0 : Int)) + (totL hp1 : Int)) + (totL hp2 : Int), markedL hp0 kp, markedL hp1 (kp + (totL hp0 : Int)), markedL hp2 ((kp + (totL hp0 : Int)) + (totL hp1 : Int))) := by unfold F_l_markHeyting; rfl
  refine c_ret1 hE62 rfl rfl ?_
  have hS9 := (St.pickT (Γ := [.nest 22 1 (some 2) hp2A hp2C hp2Q (markedL hp2 ((kp + (totL hp0 : Int)) + (totL hp1 : Int))), .nest 22 1 (some 2) hp1A hp1C hp1Q (markedL hp1 (kp + (totL hp0 : Int))), .nest 22 1 (some 2) hp0A hp0C hp0Q (markedL hp0 kp), .blk b1 #[.slice hp0A ((hp0).length) hp0C, .slice hp1A ((hp1).length) hp1C, .slice hp2A ((hp2).length) hp2C, .int .i64 hp3, .int .i64 hp4] 74]) (Γ' := [.nest 22 1 (some 2) hp2A hp2C hp2Q (markedL hp2 ((kp + (totL hp0 : Int)) + (totL hp1 : Int))), .nest 22 1 (some 2) hp1A hp1C hp1Q (markedL hp1 (kp + (totL hp0 : Int))), .nest 22 1 (some 2) hp0A hp0C hp0Q (markedL hp0 kp)]) (Γ0 := Γ0) hS52 [0, 1, 2] (by decide) rfl rfl)
  exact ⟨(by rw [hF]), (by rw [hF]; (try dsimp only); exact hS9)⟩
theorem d_l_markHeyting (hp0A : Option Addr) (hp0C : Nat) (hp0Q : List Hd) (hp0 : List (List Int)) (hp1A : Option Addr) (hp1C : Nat) (hp1Q : List Hd) (hp1 : List (List Int)) (hp2A : Option Addr) (hp2C : Nat) (hp2Q : List Hd) (hp2 : List (List Int)) (hp3 : Int) (hp4 : Int) (kp : Int) (w : World) (w0v : World) (Γ0 : List Ent) (hS0 : St w0v w (.nest 22 1 (some 2) hp2A hp2C hp2Q hp2 :: .nest 22 1 (some 2) hp1A hp1C hp1Q hp1 :: .nest 22 1 (some 2) hp0A hp0C hp0Q hp0 :: Γ0)) (h0 : 0 ≤ kp) (h1 : kp ≤ 10000) (t0 : totL hp0 ≤ 1000) (t1 : totL hp1 ≤ 1000) (t2 : totL hp2 ≤ 1000) :
    Calls Try.prog 57 #[.agg #[.slice hp0A (hp0).length hp0C, .slice hp1A (hp1).length hp1C, .slice hp2A (hp2).length hp2C, .int .i64 hp3, .int .i64 hp4], .int .i64 kp] w (Ret fun v w' => v = .int .i64 (kp + (totL hp0 : Int) + (totL hp1 : Int) + (totL hp2 : Int)) ∧ St w0v w' (.nest 22 1 (some 2) hp2A hp2C hp2Q (markedL hp2 (kp + (totL hp0 : Int) + (totL hp1 : Int))) :: .nest 22 1 (some 2) hp1A hp1C hp1Q (markedL hp1 (kp + (totL hp0 : Int))) :: .nest 22 1 (some 2) hp0A hp0C hp0Q (markedL hp0 kp) :: Γ0)) :=
  c_l_markHeyting hp0A hp0C hp0Q hp0 hp1A hp1C hp1Q hp1 hp2A hp2C hp2Q hp2 hp3 hp4 kp w w0v Γ0 hS0 h0 h1 t0 t1 t2
def F_l_heldHeyting (hp0 : List (List Int)) (hp1 : List (List Int)) (hp2 : List (List Int)) (hp3 : Int) (hp4 : Int) (kp : Int) : Int :=
  bif (decide ((F_l_heldInt64SS hp0 kp) < 0)) then (-1) else (bif (decide ((F_l_heldInt64SS hp1 (F_l_heldInt64SS hp0 kp)) < 0)) then (-1) else (bif (decide ((F_l_heldInt64SS hp2 (F_l_heldInt64SS hp1 (F_l_heldInt64SS hp0 kp))) < 0)) then (-1) else (F_l_heldInt64SS hp2 (F_l_heldInt64SS hp1 (F_l_heldInt64SS hp0 kp)))))
theorem cf_l_heldHeyting (args : Array Value) (w : World) : (callFunc 58 args).run Try.prog w = .ok (.enter 58 args) w := by kernel_rfl
set_option maxRecDepth 100000 in
theorem c_l_heldHeyting (hp0A : Option Addr) (hp0N hp0C : Nat) (hp0Q : List Hd) (hp0 : List (List Int)) (hp1A : Option Addr) (hp1N hp1C : Nat) (hp1Q : List Hd) (hp1 : List (List Int)) (hp2A : Option Addr) (hp2N hp2C : Nat) (hp2Q : List Hd) (hp2 : List (List Int)) (hp3 : Int) (hp4 : Int) (kp : Int) (w : World) (hp0R : RdN w 1 hp0A hp0N hp0C hp0Q hp0) (hp1R : RdN w 1 hp1A hp1N hp1C hp1Q hp1) (hp2R : RdN w 1 hp2A hp2N hp2C hp2Q hp2) (h0 : 0 ≤ kp) (h1 : kp ≤ 10000) (t0 : totL hp0 ≤ 1000) (t1 : totL hp1 ≤ 1000) (t2 : totL hp2 ≤ 1000) :
    Calls Try.prog 58 #[.agg #[.slice hp0A hp0N hp0C, .slice hp1A hp1N hp1C, .slice hp2A hp2N hp2C, .int .i64 hp3, .int .i64 hp4], .int .i64 kp] w (Ret fun v w' => v = .int .i64 (F_l_heldHeyting hp0 hp1 hp2 hp3 hp4 kp) ∧ Ext w w') := by
  obtain rfl : hp0N = hp0.length := hp0R.len
  have hp0Le := hp0R.le
  obtain rfl : hp1N = hp1.length := hp1R.len
  have hp1Le := hp1R.le
  obtain rfl : hp2N = hp2.length := hp2R.len
  have hp2Le := hp2R.le
  have hS := St.nil w
  have hS1 := St.rdn0 hS rfl hp0R; clear hS
  have hS2 := St.rdn0 hS1 rfl hp1R; clear hS1
  have hS3 := St.rdn0 hS2 rfl hp2R; clear hS2
  refine enter (args := [.agg #[.slice hp0A ((hp0).length) hp0C, .slice hp1A ((hp1).length) hp1C, .slice hp2A ((hp2).length) hp2C, .int .i64 hp3, .int .i64 hp4], .int .i64 kp]) Try.func58 rfl rfl ?_
  rw [Try.ntmps58]; intro a hE
  have hE := hE.sub (L' := [(0, .agg #[.slice hp0A ((hp0).length) hp0C, .slice hp1A ((hp1).length) hp1C, .slice hp2A ((hp2).length) hp2C, .int .i64 hp3, .int .i64 hp4]), (1, .int .i64 kp)]) ⟨rfl, rfl, trivial⟩
  refine c_seq ?_
  refine c_reg ?_
  refine l_step hE rfl (l_box (v := .agg #[.slice hp0A ((hp0).length) hp0C, .slice hp1A ((hp1).length) hp1C, .slice hp2A ((hp2).length) hp2C, .int .i64 hp3, .int .i64 hp4]) (cs := #[.slice hp0A ((hp0).length) hp0C, .slice hp1A ((hp1).length) hp1C, .slice hp2A ((hp2).length) hp2C, .int .i64 hp3, .int .i64 hp4]) hS3 hE rfl rfl rfl ?_)
  intro b4 w5 hS8 he9 a6 hE7; clear hS3 hE
  refine q_step (v := .int .i64 0) hE7 (y_assign rfl) rfl rfl rfl ?_; intro a10 hE11; clear hE7
  refine c_nil ?_
  have hE12 := hE11.sub (L' := [(1, .int .i64 kp), (2, .pointer (some ⟨b4, 0, none⟩))]) ⟨rfl, rfl, trivial⟩; clear hE11
  refine p_tn ?_
  refine c_seq ?_
  refine c_reg ?_
  refine q_step (v := .pointer (some ⟨b4, 0, none⟩)) hE12 (y_field rfl (fun _ => by kernel_rfl)) rfl rfl rfl ?_; intro a13 hE14; clear hE12
  refine q_step (v := .slice hp0A ((hp0).length) hp0C) hE14 (y_load (fun _ => by kernel_rfl) rfl (St.cell (i := 0) hS8 rfl rfl)) rfl rfl rfl ?_; intro a15 hE16; clear hE14
  refine q_step (v := .int .i64 kp) hE16 (y_move rfl) rfl rfl rfl ?_; intro a17 hE18; clear hE16
  refine l_step hE18 rfl (l_call (f := 121) (argv := [.slice hp0A ((hp0).length) hp0C, .int .i64 kp]) hE18 (fun _ => cf_l_heldInt64SS _ _) rfl rfl (c_l_heldInt64SS hp0A ((hp0).length) hp0C hp0Q hp0 kp w5 (St.rdNr (i := 3) hS8 rfl) (by omega) (by omega) (by omega)) ?_)
  rintro _ w20 ⟨rfl, he24⟩ a21 hE22; clear hE18
  have hf25 := heldSS_ub hp0 kp (by omega)
  have hS23 := St.go hS8 he24; clear hS8
  refine q_step (v := .int .i64 (F_l_heldInt64SS hp0 kp)) hE22 (y_assign rfl) rfl rfl rfl ?_; intro a26 hE27; clear hE22
  refine c_nil ?_
  have hE28 := hE27.sub (L' := [(1, .int .i64 (F_l_heldInt64SS hp0 kp)), (2, .pointer (some ⟨b4, 0, none⟩))]) ⟨rfl, rfl, trivial⟩; clear hE27
  refine p_tn ?_
  refine c_seq ?_
  refine c_seq ?_
  refine c_reg ?_
  refine q_step (v := .int .i64 (F_l_heldInt64SS hp0 kp)) hE28 (y_move rfl) rfl rfl rfl ?_; intro a29 hE30; clear hE28
  refine q_step (v := .bool (decide ((F_l_heldInt64SS hp0 kp) < 0))) hE30 (y_lss rfl rfl) rfl rfl rfl ?_; intro a31 hE32; clear hE30
  refine c_nil ?_
  have hE33 := hE32.sub (L' := [(1, .int .i64 (F_l_heldInt64SS hp0 kp)), (2, .pointer (some ⟨b4, 0, none⟩)), (10, .bool (decide ((F_l_heldInt64SS hp0 kp) < 0)))]) ⟨rfl, rfl, rfl, trivial⟩; clear hE32
  refine p_tn ?_
  refine c_cond hE33 rfl (fun ht34 => ?_) (fun ht34 => ?_)
  ·
   have hp35 := of_decide_eq_true ht34
   have hE36 := hE33; rw [ht34] at hE36; clear hE33
   refine c_seq ?_
   refine c_reg ?_
   refine q_step (v := .int .i64 (-1)) hE36 (y_assign rfl) rfl rfl rfl ?_; intro a37 hE38; clear hE36
   refine c_nil ?_
   have hE39 := hE38.sub (L' := [(4, .int .i64 (-1))]) ⟨rfl, trivial⟩; clear hE38
   refine p_tn ?_
   refine wp_ret ?_
   refine p_tr ?_
   have hF : F_l_heldHeyting hp0 hp1 hp2 hp3 hp4 kp = -1 := by unfold F_l_heldHeyting; rw [ht34]; first | done | rfl
   refine c_ret1 hE39 rfl rfl ?_
   exact ⟨(by rw [hF]; first | done | (dsimp only; done) | rfl), hS23.ext⟩
  ·
   have hp40 := of_decide_eq_false ht34
   have hE41 := hE33; rw [ht34] at hE41; clear hE33
   refine wp_skip ?_
   refine p_tn ?_
   refine c_seq ?_
   refine c_reg ?_
   refine q_step (v := .pointer (some ⟨b4, 1, none⟩)) hE41 (y_field rfl (fun _ => by kernel_rfl)) rfl rfl rfl ?_; intro a42 hE43; clear hE41
   refine q_step (v := .slice hp1A ((hp1).length) hp1C) hE43 (y_load (fun _ => by kernel_rfl) rfl (St.cell (i := 0) hS23 rfl rfl)) rfl rfl rfl ?_; intro a44 hE45; clear hE43
   refine q_step (v := .int .i64 (F_l_heldInt64SS hp0 kp)) hE45 (y_move rfl) rfl rfl rfl ?_; intro a46 hE47; clear hE45
   refine l_step hE47 rfl (l_call (f := 121) (argv := [.slice hp1A ((hp1).length) hp1C, .int .i64 (F_l_heldInt64SS hp0 kp)]) hE47 (fun _ => cf_l_heldInt64SS _ _) rfl rfl (c_l_heldInt64SS hp1A ((hp1).length) hp1C hp1Q hp1 (F_l_heldInt64SS hp0 kp) w20 (St.rdNr (i := 2) hS23 rfl) (by omega) (by omega) (by omega)) ?_)
   rintro _ w49 ⟨rfl, he53⟩ a50 hE51; clear hE47
   have hf54 := heldSS_ub hp1 (F_l_heldInt64SS hp0 kp) (by omega)
   have hS52 := St.go hS23 he53; clear hS23
   refine q_step (v := .int .i64 (F_l_heldInt64SS hp1 (F_l_heldInt64SS hp0 kp))) hE51 (y_assign rfl) rfl rfl rfl ?_; intro a55 hE56; clear hE51
   refine c_nil ?_
   have hE57 := hE56.sub (L' := [(1, .int .i64 (F_l_heldInt64SS hp1 (F_l_heldInt64SS hp0 kp))), (2, .pointer (some ⟨b4, 0, none⟩))]) ⟨rfl, rfl, trivial⟩; clear hE56
   refine p_tn ?_
   refine c_seq ?_
   refine c_seq ?_
   refine c_reg ?_
   refine q_step (v := .int .i64 (F_l_heldInt64SS hp1 (F_l_heldInt64SS hp0 kp))) hE57 (y_move rfl) rfl rfl rfl ?_; intro a58 hE59; clear hE57
   refine q_step (v := .bool (decide ((F_l_heldInt64SS hp1 (F_l_heldInt64SS hp0 kp)) < 0))) hE59 (y_lss rfl rfl) rfl rfl rfl ?_; intro a60 hE61; clear hE59
   refine c_nil ?_
   have hE62 := hE61.sub (L' := [(1, .int .i64 (F_l_heldInt64SS hp1 (F_l_heldInt64SS hp0 kp))), (2, .pointer (some ⟨b4, 0, none⟩)), (16, .bool (decide ((F_l_heldInt64SS hp1 (F_l_heldInt64SS hp0 kp)) < 0)))]) ⟨rfl, rfl, rfl, trivial⟩; clear hE61
   refine p_tn ?_
   refine c_cond hE62 rfl (fun ht63 => ?_) (fun ht63 => ?_)
   ·
    have hp64 := of_decide_eq_true ht63
    have hE65 := hE62; rw [ht63] at hE65; clear hE62
    refine c_seq ?_
    refine c_reg ?_
    refine q_step (v := .int .i64 (-1)) hE65 (y_assign rfl) rfl rfl rfl ?_; intro a66 hE67; clear hE65
    refine c_nil ?_
    have hE68 := hE67.sub (L' := [(4, .int .i64 (-1))]) ⟨rfl, trivial⟩; clear hE67
    refine p_tn ?_
    refine wp_ret ?_
    refine p_tr ?_
    have hF : F_l_heldHeyting hp0 hp1 hp2 hp3 hp4 kp = -1 := by unfold F_l_heldHeyting; rw [ht63, ht34]; first | done | rfl
    refine c_ret1 hE68 rfl rfl ?_
    exact ⟨(by rw [hF]; first | done | (dsimp only; done) | rfl), hS52.ext⟩
   ·
    have hp69 := of_decide_eq_false ht63
    have hE70 := hE62; rw [ht63] at hE70; clear hE62
    refine wp_skip ?_
    refine p_tn ?_
    refine c_seq ?_
    refine c_reg ?_
    refine q_step (v := .pointer (some ⟨b4, 2, none⟩)) hE70 (y_field rfl (fun _ => by kernel_rfl)) rfl rfl rfl ?_; intro a71 hE72; clear hE70
    refine q_step (v := .slice hp2A ((hp2).length) hp2C) hE72 (y_load (fun _ => by kernel_rfl) rfl (St.cell (i := 0) hS52 rfl rfl)) rfl rfl rfl ?_; intro a73 hE74; clear hE72
    refine q_step (v := .int .i64 (F_l_heldInt64SS hp1 (F_l_heldInt64SS hp0 kp))) hE74 (y_move rfl) rfl rfl rfl ?_; intro a75 hE76; clear hE74
    refine l_step hE76 rfl (l_call (f := 121) (argv := [.slice hp2A ((hp2).length) hp2C, .int .i64 (F_l_heldInt64SS hp1 (F_l_heldInt64SS hp0 kp))]) hE76 (fun _ => cf_l_heldInt64SS _ _) rfl rfl (c_l_heldInt64SS hp2A ((hp2).length) hp2C hp2Q hp2 (F_l_heldInt64SS hp1 (F_l_heldInt64SS hp0 kp)) w49 (St.rdNr (i := 1) hS52 rfl) (by omega) (by omega) (by omega)) ?_)
    rintro _ w78 ⟨rfl, he82⟩ a79 hE80; clear hE76
    have hf83 := heldSS_ub hp2 (F_l_heldInt64SS hp1 (F_l_heldInt64SS hp0 kp)) (by omega)
    have hS81 := St.go hS52 he82; clear hS52
    refine q_step (v := .int .i64 (F_l_heldInt64SS hp2 (F_l_heldInt64SS hp1 (F_l_heldInt64SS hp0 kp)))) hE80 (y_assign rfl) rfl rfl rfl ?_; intro a84 hE85; clear hE80
    refine c_nil ?_
    have hE86 := hE85.sub (L' := [(1, .int .i64 (F_l_heldInt64SS hp2 (F_l_heldInt64SS hp1 (F_l_heldInt64SS hp0 kp))))]) ⟨rfl, trivial⟩; clear hE85
    refine p_tn ?_
    refine c_seq ?_
    refine c_seq ?_
    refine c_reg ?_
    refine q_step (v := .int .i64 (F_l_heldInt64SS hp2 (F_l_heldInt64SS hp1 (F_l_heldInt64SS hp0 kp)))) hE86 (y_move rfl) rfl rfl rfl ?_; intro a87 hE88; clear hE86
    refine q_step (v := .bool (decide ((F_l_heldInt64SS hp2 (F_l_heldInt64SS hp1 (F_l_heldInt64SS hp0 kp))) < 0))) hE88 (y_lss rfl rfl) rfl rfl rfl ?_; intro a89 hE90; clear hE88
    refine c_nil ?_
    have hE91 := hE90.sub (L' := [(1, .int .i64 (F_l_heldInt64SS hp2 (F_l_heldInt64SS hp1 (F_l_heldInt64SS hp0 kp)))), (22, .bool (decide ((F_l_heldInt64SS hp2 (F_l_heldInt64SS hp1 (F_l_heldInt64SS hp0 kp))) < 0)))]) ⟨rfl, rfl, trivial⟩; clear hE90
    refine p_tn ?_
    refine c_cond hE91 rfl (fun ht92 => ?_) (fun ht92 => ?_)
    ·
     have hp93 := of_decide_eq_true ht92
     have hE94 := hE91; rw [ht92] at hE94; clear hE91
     refine c_seq ?_
     refine c_reg ?_
     refine q_step (v := .int .i64 (-1)) hE94 (y_assign rfl) rfl rfl rfl ?_; intro a95 hE96; clear hE94
     refine c_nil ?_
     have hE97 := hE96.sub (L' := [(4, .int .i64 (-1))]) ⟨rfl, trivial⟩; clear hE96
     refine p_tn ?_
     refine wp_ret ?_
     refine p_tr ?_
     have hF : F_l_heldHeyting hp0 hp1 hp2 hp3 hp4 kp = -1 := by unfold F_l_heldHeyting; rw [ht92, ht63, ht34]; first | done | rfl
     refine c_ret1 hE97 rfl rfl ?_
     exact ⟨(by rw [hF]; first | done | (dsimp only; done) | rfl), hS81.ext⟩
    ·
     have hp98 := of_decide_eq_false ht92
     have hE99 := hE91; rw [ht92] at hE99; clear hE91
     refine wp_skip ?_
     refine p_tn ?_
     refine c_seq ?_
     refine c_reg ?_
     refine q_step (v := .int .i64 (F_l_heldInt64SS hp2 (F_l_heldInt64SS hp1 (F_l_heldInt64SS hp0 kp)))) hE99 (y_move rfl) rfl rfl rfl ?_; intro a100 hE101; clear hE99
     refine q_step (v := .int .i64 (F_l_heldInt64SS hp2 (F_l_heldInt64SS hp1 (F_l_heldInt64SS hp0 kp)))) hE101 (y_assign rfl) rfl rfl rfl ?_; intro a102 hE103; clear hE101
     refine c_nil ?_
     have hE104 := hE103.sub (L' := [(4, .int .i64 (F_l_heldInt64SS hp2 (F_l_heldInt64SS hp1 (F_l_heldInt64SS hp0 kp))))]) ⟨rfl, trivial⟩; clear hE103
     refine p_tn ?_
     refine wp_ret ?_
     have hF : F_l_heldHeyting hp0 hp1 hp2 hp3 hp4 kp = F_l_heldInt64SS hp2 (F_l_heldInt64SS hp1 (F_l_heldInt64SS hp0 kp)) := by unfold F_l_heldHeyting; rw [ht92, ht63, ht34]; first | done | rfl
     refine c_ret1 hE104 rfl rfl ?_
     exact ⟨(by rw [hF]; first | done | (dsimp only; done) | rfl), hS81.ext⟩
end Go.Proofs.Ytkilkfhjfobcdaa
