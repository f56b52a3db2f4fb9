/- GPC: models and contracts, printed by wip/gen/gen.py -/
import Derived.Test.YthogljcjjmclcaaGPO
set_option linter.unusedVariables false
set_option linter.unusedSimpArgs false
namespace Go.Proofs.Ythogljcjjmclcaa
open Go.RowKit

theorem isMask_t {np mask : Int} (h : F_isMask np mask = true) : (0 ≤ np ∧ np ≤ 30) ∧ 0 ≤ mask ∧ mask ≤ fullI np := by
  unfold F_isMask at h
  rw [Bool.and_eq_true] at h
  have h1 := F_inRange_t h.1
  have h2 := F_inRange_t h.2
  rw [full_wI h1.1 (by omega)] at h2
  exact ⟨h1, h2⟩

theorem mask_sm {f0 mask : Int} (h0 : 0 ≤ f0 ∧ f0 ≤ 8) (h : mask ≤ fullI f0) : mask < 4611686018427387904 := by
  have := fullI_bd (n := f0) (by omega) (by omega); omega

def F_l16Code (pp0 : Int) (pp1 : List Int) (mask : Int) : Int :=
  bif (!(F_l16Is pp0 pp1)) then 1 else (bif (!(F_l01In mask 0 (fullI pp0))) then 2 else 0)
theorem cf_l16Code (args : Array Value) (w : World) : (callFunc 54 args).run Try.prog w = .ok (.enter 54 args) w := by kernel_rfl
set_option maxRecDepth 100000 in
theorem c_l16Code (pp0 : Int) (pp1A : Option Addr) (pp1N pp1C : Nat) (pp1 : List Int) (mask : Int) (w : World) (pp1R : RdS w 1 pp1A pp1N pp1C pp1) :
    Calls Try.prog 54 #[.agg #[.int .i64 pp0, .slice pp1A pp1N pp1C], .int .i64 mask] w (Ret fun v w' => v = .int .i64 (F_l16Code pp0 pp1 mask) ∧ Ext w w') := by
  obtain rfl : pp1N = pp1.length := pp1R.len1.symm
  have pp1Le := pp1R.le
  have hS := St.nil w
  have hS1 := St.rd0 hS rfl pp1R; clear hS
  refine enter (args := [.agg #[.int .i64 pp0, .slice pp1A pp1.length pp1C], .int .i64 mask]) Try.func54 rfl rfl ?_
  rw [Try.ntmps54]; intro a hE
  have hE := hE.sub (L' := [(0, .agg #[.int .i64 pp0, .slice pp1A pp1.length pp1C]), (1, .int .i64 mask)]) ⟨rfl, rfl, trivial⟩
  refine c_seq ?_
  refine c_reg ?_
  refine l_step hE rfl (l_box (v := .agg #[.int .i64 pp0, .slice pp1A pp1.length pp1C]) (cs := #[.int .i64 pp0, .slice pp1A pp1.length pp1C]) hS1 hE rfl rfl rfl ?_)
  intro b2 w3 hS6 he7 a4 hE5; clear hS1 hE
  refine q_step (v := .int .i64 0) hE5 (y_assign rfl) rfl rfl rfl ?_; intro a8 hE9; clear hE5
  refine c_nil ?_
  have hE10 := hE9.sub (L' := [(1, .int .i64 mask), (2, .pointer (some ⟨b2, 0, none⟩))]) ⟨rfl, rfl, trivial⟩; clear hE9
  refine p_tn ?_
  refine c_seq ?_
  refine wp_block ?_
  refine c_seq ?_
  refine c_reg ?_
  refine q_step (v := .agg #[.int .i64 pp0, .slice pp1A pp1.length pp1C]) hE10 (y_loadS Try.underlying27 rfl (by kernel_rfl) rfl (St.row (i := 0) hS6 rfl)) rfl rfl rfl ?_; intro a11 hE12; clear hE10
  refine l_step hE12 rfl (l_call (f := 50) (argv := [.agg #[.int .i64 pp0, .slice pp1A pp1.length pp1C]]) hE12 (fun _ => cf_l16Is _ _) rfl rfl (c_l16Is pp0 pp1A pp1.length pp1C pp1 w3 (St.rdR (i := 1) hS6 rfl)) ?_)
  rintro _ w14 ⟨rfl, he18⟩ a15 hE16; clear hE12
  have hS17 := St.go hS6 he18; clear hS6
  refine q_step (v := .bool (!(F_l16Is pp0 pp1))) hE16 (y_not rfl) rfl rfl rfl ?_; intro a19 hE20; clear hE16
  refine q_step (v := .bool (!(F_l16Is pp0 pp1))) hE20 (y_assign rfl) rfl rfl rfl ?_; intro a21 hE22; clear hE20
  refine c_nil ?_
  have hE23 := hE22.sub (L' := [(1, .int .i64 mask), (2, .pointer (some ⟨b2, 0, none⟩)), (5, .bool (!(F_l16Is pp0 pp1)))]) ⟨rfl, rfl, rfl, trivial⟩; clear hE22
  refine p_tn ?_
  refine c_cond hE23 rfl (fun ht24 => ?_) (fun ht24 => ?_)
  ·
    have ht25 := bn_t ht24
    have hE26 := hE23; rw [ht24] at hE26; clear hE23
    refine c_seq ?_
    refine c_reg ?_
    refine q_step (v := .int .i64 1) hE26 (y_assign rfl) rfl rfl rfl ?_; intro a27 hE28; clear hE26
    refine c_nil ?_
    have hE29 := hE28.sub (L' := [(4, .int .i64 1)]) ⟨rfl, trivial⟩; clear hE28
    refine p_tn ?_
    refine wp_ret ?_
    refine p_br ?_
    refine p_tr ?_
    have hF : F_l16Code pp0 pp1 mask = 1 := by unfold F_l16Code; rw [ht24]; first | done | rfl
    refine c_ret1 hE29 rfl rfl ?_
    exact ⟨(by rw [hF]; first | done | rfl), hS17.ext⟩
  ·
    have ht30 := bn_f ht24
    have hp31 := l16Is_t ht30
    have hE32 := hE23; rw [ht24] at hE32; clear hE23
    refine c_seq ?_
    refine c_reg ?_
    refine q_step (v := .int .i64 mask) hE32 (y_move rfl) rfl rfl rfl ?_; intro a33 hE34; clear hE32
    refine q_step (v := .pointer (some ⟨b2, 0, none⟩)) hE34 (y_field rfl (fun _ => by kernel_rfl)) rfl rfl rfl ?_; intro a35 hE36; clear hE34
    refine q_step (v := .int .i64 pp0) hE36 (y_load (fun _ => by kernel_rfl) rfl (St.cell (i := 0) hS17 rfl rfl)) rfl rfl rfl ?_; intro a37 hE38; clear hE36
    refine l_step hE38 rfl (l_call (f := 89) (argv := [.int .i64 pp0]) hE38 (fun _ => cf_l01Full _ _) rfl rfl (d_l01Full pp0 w14 (by omega) (by omega)) ?_)
    rintro _ _ ⟨rfl, rfl⟩ a41 hE42; clear hE38
    refine l_step hE42 rfl (l_call (f := 82) (argv := [.int .i64 mask, .int .i64 0, .int .i64 (fullI pp0)]) hE42 (fun _ => cf_l01In _ _) rfl rfl (c_l01In mask 0 (fullI pp0) w14) ?_)
    rintro _ _ ⟨rfl, rfl⟩ a47 hE48; clear hE42
    refine q_step (v := .bool (!(F_l01In mask 0 (fullI pp0)))) hE48 (y_not rfl) rfl rfl rfl ?_; intro a51 hE52; clear hE48
    refine q_step (v := .bool (!(F_l01In mask 0 (fullI pp0)))) hE52 (y_assign rfl) rfl rfl rfl ?_; intro a53 hE54; clear hE52
    refine c_nil ?_
    have hE55 := hE54.sub (L' := [(9, .bool (!(F_l01In mask 0 (fullI pp0))))]) ⟨rfl, trivial⟩; clear hE54
    refine p_tn ?_
    refine c_cond hE55 rfl (fun ht56 => ?_) (fun ht56 => ?_)
    ·
      have ht57 := bn_t ht56
      have hE58 := hE55; rw [ht56] at hE58; clear hE55
      refine c_seq ?_
      refine c_reg ?_
      refine q_step (v := .int .i64 2) hE58 (y_assign rfl) rfl rfl rfl ?_; intro a59 hE60; clear hE58
      refine c_nil ?_
      have hE61 := hE60.sub (L' := [(4, .int .i64 2)]) ⟨rfl, trivial⟩; clear hE60
      refine p_tn ?_
      refine wp_ret ?_
      refine p_br ?_
      refine p_tr ?_
      have hF : F_l16Code pp0 pp1 mask = 2 := by unfold F_l16Code; rw [ht56, ht24]; first | done | rfl
      refine c_ret1 hE61 rfl rfl ?_
      exact ⟨(by rw [hF]; first | done | rfl), hS17.ext⟩
    ·
      have ht62 := bn_f ht56
      have hp63 := F_l01In_t ht62
      have hE64 := hE55; rw [ht56] at hE64; clear hE55
      refine wp_skip ?_
      refine p_bn ?_
      refine p_tn ?_
      refine c_seq ?_
      refine c_reg ?_
      refine q_step (v := .int .i64 0) hE64 (y_assign rfl) rfl rfl rfl ?_; intro a65 hE66; clear hE64
      refine c_nil ?_
      have hE67 := hE66.sub (L' := [(4, .int .i64 0)]) ⟨rfl, trivial⟩; clear hE66
      refine p_tn ?_
      refine wp_ret ?_
      have hF : F_l16Code pp0 pp1 mask = 0 := by unfold F_l16Code; rw [ht56, ht24]; first | done | rfl
      refine c_ret1 hE67 rfl rfl ?_
      exact ⟨(by rw [hF]; first | done | rfl), hS17.ext⟩

def F_posetCode (pp0 : Int) (pp1 : List Int) (mask : Int) : Int :=
  bif (!(F_isPoset pp0 pp1)) then 1 else (bif (!(F_isMask pp0 mask)) then 2 else 0)
theorem cf_posetCode (args : Array Value) (w : World) : (callFunc 56 args).run Try.prog w = .ok (.enter 56 args) w := by kernel_rfl
set_option maxRecDepth 100000 in
theorem c_posetCode (pp0 : Int) (pp1A : Option Addr) (pp1N pp1C : Nat) (pp1 : List Int) (mask : Int) (w : World) (pp1R : RdS w 1 pp1A pp1N pp1C pp1) :
    Calls Try.prog 56 #[.agg #[.int .i64 pp0, .slice pp1A pp1N pp1C], .int .i64 mask] w (Ret fun v w' => v = .int .i64 (F_posetCode pp0 pp1 mask) ∧ Ext w w') := by
  obtain rfl : pp1N = pp1.length := pp1R.len1.symm
  have pp1Le := pp1R.le
  have hS := St.nil w
  have hS1 := St.rd0 hS rfl pp1R; clear hS
  refine enter (args := [.agg #[.int .i64 pp0, .slice pp1A pp1.length pp1C], .int .i64 mask]) Try.func56 rfl rfl ?_
  rw [Try.ntmps56]; intro a hE
  have hE := hE.sub (L' := [(0, .agg #[.int .i64 pp0, .slice pp1A pp1.length pp1C]), (1, .int .i64 mask)]) ⟨rfl, rfl, trivial⟩
  refine c_seq ?_
  refine c_reg ?_
  refine l_step hE rfl (l_box (v := .agg #[.int .i64 pp0, .slice pp1A pp1.length pp1C]) (cs := #[.int .i64 pp0, .slice pp1A pp1.length pp1C]) hS1 hE rfl rfl rfl ?_)
  intro b2 w3 hS6 he7 a4 hE5; clear hS1 hE
  refine q_step (v := .int .i64 0) hE5 (y_assign rfl) rfl rfl rfl ?_; intro a8 hE9; clear hE5
  refine c_nil ?_
  have hE10 := hE9.sub (L' := [(1, .int .i64 mask), (2, .pointer (some ⟨b2, 0, none⟩))]) ⟨rfl, rfl, trivial⟩; clear hE9
  refine p_tn ?_
  refine c_seq ?_
  refine wp_block ?_
  refine c_seq ?_
  refine c_reg ?_
  refine q_step (v := .agg #[.int .i64 pp0, .slice pp1A pp1.length pp1C]) hE10 (y_loadS Try.underlying27 rfl (by kernel_rfl) rfl (St.row (i := 0) hS6 rfl)) rfl rfl rfl ?_; intro a11 hE12; clear hE10
  refine l_step hE12 rfl (l_call (f := 51) (argv := [.agg #[.int .i64 pp0, .slice pp1A pp1.length pp1C]]) hE12 (fun _ => cf_isPoset _ _) rfl rfl (c_isPoset pp0 pp1A pp1.length pp1C pp1 w3 (St.rdR (i := 1) hS6 rfl)) ?_)
  rintro _ w14 ⟨rfl, he18⟩ a15 hE16; clear hE12
  have hS17 := St.go hS6 he18; clear hS6
  refine q_step (v := .bool (!(F_isPoset pp0 pp1))) hE16 (y_not rfl) rfl rfl rfl ?_; intro a19 hE20; clear hE16
  refine q_step (v := .bool (!(F_isPoset pp0 pp1))) hE20 (y_assign rfl) rfl rfl rfl ?_; intro a21 hE22; clear hE20
  refine c_nil ?_
  have hE23 := hE22.sub (L' := [(1, .int .i64 mask), (2, .pointer (some ⟨b2, 0, none⟩)), (5, .bool (!(F_isPoset pp0 pp1)))]) ⟨rfl, rfl, rfl, trivial⟩; clear hE22
  refine p_tn ?_
  refine c_cond hE23 rfl (fun ht24 => ?_) (fun ht24 => ?_)
  ·
    have ht25 := bn_t ht24
    have hE26 := hE23; rw [ht24] at hE26; clear hE23
    refine c_seq ?_
    refine c_reg ?_
    refine q_step (v := .int .i64 1) hE26 (y_assign rfl) rfl rfl rfl ?_; intro a27 hE28; clear hE26
    refine c_nil ?_
    have hE29 := hE28.sub (L' := [(4, .int .i64 1)]) ⟨rfl, trivial⟩; clear hE28
    refine p_tn ?_
    refine wp_ret ?_
    refine p_br ?_
    refine p_tr ?_
    have hF : F_posetCode pp0 pp1 mask = 1 := by unfold F_posetCode; rw [ht24]; first | done | rfl
    refine c_ret1 hE29 rfl rfl ?_
    exact ⟨(by rw [hF]; first | done | rfl), hS17.ext⟩
  ·
    have ht30 := bn_f ht24
    have hp31 := isPoset_t ht30
    have hE32 := hE23; rw [ht24] at hE32; clear hE23
    refine c_seq ?_
    refine c_reg ?_
    refine q_step (v := .pointer (some ⟨b2, 0, none⟩)) hE32 (y_field rfl (fun _ => by kernel_rfl)) rfl rfl rfl ?_; intro a33 hE34; clear hE32
    refine q_step (v := .int .i64 pp0) hE34 (y_load (fun _ => by kernel_rfl) rfl (St.cell (i := 0) hS17 rfl rfl)) rfl rfl rfl ?_; intro a35 hE36; clear hE34
    refine q_step (v := .int .i64 mask) hE36 (y_move rfl) rfl rfl rfl ?_; intro a37 hE38; clear hE36
    refine l_step hE38 rfl (l_call (f := 91) (argv := [.int .i64 pp0, .int .i64 mask]) hE38 (fun _ => cf_isMask _ _) rfl rfl (c_isMask pp0 mask w14) ?_)
    rintro _ _ ⟨rfl, rfl⟩ a41 hE42; clear hE38
    refine q_step (v := .bool (!(F_isMask pp0 mask))) hE42 (y_not rfl) rfl rfl rfl ?_; intro a45 hE46; clear hE42
    refine q_step (v := .bool (!(F_isMask pp0 mask))) hE46 (y_assign rfl) rfl rfl rfl ?_; intro a47 hE48; clear hE46
    refine c_nil ?_
    have hE49 := hE48.sub (L' := [(9, .bool (!(F_isMask pp0 mask)))]) ⟨rfl, trivial⟩; clear hE48
    refine p_tn ?_
    refine c_cond hE49 rfl (fun ht50 => ?_) (fun ht50 => ?_)
    ·
      have ht51 := bn_t ht50
      have hE52 := hE49; rw [ht50] at hE52; clear hE49
      refine c_seq ?_
      refine c_reg ?_
      refine q_step (v := .int .i64 2) hE52 (y_assign rfl) rfl rfl rfl ?_; intro a53 hE54; clear hE52
      refine c_nil ?_
      have hE55 := hE54.sub (L' := [(4, .int .i64 2)]) ⟨rfl, trivial⟩; clear hE54
      refine p_tn ?_
      refine wp_ret ?_
      refine p_br ?_
      refine p_tr ?_
      have hF : F_posetCode pp0 pp1 mask = 2 := by unfold F_posetCode; rw [ht50, ht24]; first | done | rfl
      refine c_ret1 hE55 rfl rfl ?_
      exact ⟨(by rw [hF]; first | done | rfl), hS17.ext⟩
    ·
      have ht56 := bn_f ht50
      have hp57 := isMask_t ht56
      have hE58 := hE49; rw [ht50] at hE58; clear hE49
      refine wp_skip ?_
      refine p_bn ?_
      refine p_tn ?_
      refine c_seq ?_
      refine c_reg ?_
      refine q_step (v := .int .i64 0) hE58 (y_assign rfl) rfl rfl rfl ?_; intro a59 hE60; clear hE58
      refine c_nil ?_
      have hE61 := hE60.sub (L' := [(4, .int .i64 0)]) ⟨rfl, trivial⟩; clear hE60
      refine p_tn ?_
      refine wp_ret ?_
      have hF : F_posetCode pp0 pp1 mask = 0 := by unfold F_posetCode; rw [ht50, ht24]; first | done | rfl
      refine c_ret1 hE61 rfl rfl ?_
      exact ⟨(by rw [hF]; first | done | rfl), hS17.ext⟩

theorem l16Code_t {p0 : Int} {p1 : List Int} {mask : Int} (h : F_l16Code p0 p1 mask = 0) : ((0 ≤ p0 ∧ p0 ≤ 8) ∧ 0 ≤ fullI p0 ∧ fullI p0 < 4611686018427387904) ∧ (p1.length : Int) = p0 ∧ (0 ≤ mask ∧ mask ≤ fullI p0) ∧ F_l16Is p0 p1 = true := by
  unfold F_l16Code at h
  cases h1 : F_l16Is p0 p1
  · rw [h1] at h; cases h
  · rw [h1, Bool.not_true, cond_false] at h
    have hp := l16Is_t h1
    cases h2 : F_l01In mask 0 (fullI p0)
    · rw [h2] at h; cases h
    · exact ⟨⟨hp.1, fullI_bd (by omega) (by omega)⟩, hp.2.1, F_l01In_t h2, rfl⟩
theorem posetCode_eq (p0 : Int) (p1 : List Int) (mask : Int) : F_posetCode p0 p1 mask = F_l16Code p0 p1 mask := by
  unfold F_posetCode F_l16Code
  rw [isPoset_eq]
  cases h : F_l16Is p0 p1
  · rw [Bool.not_false, cond_true, cond_true]
  · have hp := l16Is_t h
    rw [isMask_eq hp.1.1 (by omega)]
theorem posetCode_t {p0 : Int} {p1 : List Int} {mask : Int} (h : F_posetCode p0 p1 mask = 0) : ((0 ≤ p0 ∧ p0 ≤ 8) ∧ 0 ≤ fullI p0 ∧ fullI p0 < 4611686018427387904) ∧ (p1.length : Int) = p0 ∧ (0 ≤ mask ∧ mask ≤ fullI p0) ∧ F_l16Is p0 p1 = true := by
  rw [posetCode_eq] at h; exact l16Code_t h

def F_s_UpsetOf (pp0 : Int) (pp1 : List Int) (mask : Int) : (Int) × (Int) :=
  bif (!decide ((F_l16Code pp0 pp1 mask) = 0)) then (0, F_l16Code pp0 pp1 mask) else (F_l01Image pp1 mask, 0)
theorem cf_s_UpsetOf (args : Array Value) (w : World) : (callFunc 21 args).run Try.prog w = .ok (.enter 21 args) w := by kernel_rfl
set_option maxRecDepth 100000 in
theorem c_s_UpsetOf (pp0 : Int) (pp1A : Option Addr) (pp1N pp1C : Nat) (pp1 : List Int) (mask : Int) (w : World) (pp1R : RdS w 1 pp1A pp1N pp1C pp1) :
    Calls Try.prog 21 #[.agg #[.int .i64 pp0, .slice pp1A pp1N pp1C], .int .i64 mask] w (Ret fun v w' => v = .tuple #[.int .i64 ((F_s_UpsetOf pp0 pp1 mask).1), .int .i64 ((F_s_UpsetOf pp0 pp1 mask).2)] ∧ Ext w w') := by
  obtain rfl : pp1N = pp1.length := pp1R.len1.symm
  have pp1Le := pp1R.le
  have hS := St.nil w
  have hS1 := St.rd0 hS rfl pp1R; clear hS
  refine enter (args := [.agg #[.int .i64 pp0, .slice pp1A pp1.length pp1C], .int .i64 mask]) Try.func21 rfl rfl ?_
  rw [Try.ntmps21]; intro a hE
  have hE := hE.sub (L' := [(0, .agg #[.int .i64 pp0, .slice pp1A pp1.length pp1C]), (1, .int .i64 mask)]) ⟨rfl, rfl, trivial⟩
  refine c_seq ?_
  refine c_reg ?_
  refine l_step hE rfl (l_box (v := .agg #[.int .i64 pp0, .slice pp1A pp1.length pp1C]) (cs := #[.int .i64 pp0, .slice pp1A pp1.length pp1C]) hS1 hE rfl rfl rfl ?_)
  intro b2 w3 hS6 he7 a4 hE5; clear hS1 hE
  refine q_step (v := .int .i64 0) hE5 (y_assign rfl) rfl rfl rfl ?_; intro a8 hE9; clear hE5
  refine q_step (v := .int .i64 0) hE9 (y_assign rfl) rfl rfl rfl ?_; intro a10 hE11; clear hE9
  refine c_nil ?_
  have hE12 := hE11.sub (L' := [(1, .int .i64 mask), (2, .pointer (some ⟨b2, 0, none⟩))]) ⟨rfl, rfl, trivial⟩; clear hE11
  refine p_tn ?_
  refine c_seq ?_
  refine c_reg ?_
  refine q_step (v := .agg #[.int .i64 pp0, .slice pp1A pp1.length pp1C]) hE12 (y_loadS Try.underlying27 rfl (by kernel_rfl) rfl (St.row (i := 0) hS6 rfl)) rfl rfl rfl ?_; intro a13 hE14; clear hE12
  refine q_step (v := .int .i64 mask) hE14 (y_move rfl) rfl rfl rfl ?_; intro a15 hE16; clear hE14
  refine l_step hE16 rfl (l_call (f := 54) (argv := [.agg #[.int .i64 pp0, .slice pp1A pp1.length pp1C], .int .i64 mask]) hE16 (fun _ => cf_l16Code _ _) rfl rfl (c_l16Code pp0 pp1A pp1.length pp1C pp1 mask w3 (St.rdR (i := 1) hS6 rfl)) ?_)
  rintro _ w18 ⟨rfl, he22⟩ a19 hE20; clear hE16
  have hS21 := St.go hS6 he22; clear hS6
  refine q_step (v := .int .i64 (F_l16Code pp0 pp1 mask)) hE20 (y_assign rfl) rfl rfl rfl ?_; intro a23 hE24; clear hE20
  refine c_nil ?_
  have hE25 := hE24.sub (L' := [(1, .int .i64 mask), (2, .pointer (some ⟨b2, 0, none⟩)), (6, .int .i64 (F_l16Code pp0 pp1 mask))]) ⟨rfl, rfl, rfl, trivial⟩; clear hE24
  refine p_tn ?_
  refine c_seq ?_
  refine c_seq ?_
  refine c_reg ?_
  refine q_step (v := .int .i64 (F_l16Code pp0 pp1 mask)) hE25 (y_move rfl) rfl rfl rfl ?_; intro a26 hE27; clear hE25
  refine q_step (v := .bool (!decide ((F_l16Code pp0 pp1 mask) = 0))) hE27 (y_neq rfl rfl) rfl rfl rfl ?_; intro a28 hE29; clear hE27
  refine c_nil ?_
  have hE30 := hE29.sub (L' := [(1, .int .i64 mask), (2, .pointer (some ⟨b2, 0, none⟩)), (6, .int .i64 (F_l16Code pp0 pp1 mask)), (11, .bool (!decide ((F_l16Code pp0 pp1 mask) = 0)))]) ⟨rfl, rfl, rfl, rfl, trivial⟩; clear hE29
  refine p_tn ?_
  refine c_cond hE30 rfl (fun ht31 => ?_) (fun ht31 => ?_)
  ·
    have ht32 := bn_t ht31
    have hp33 := of_decide_eq_false ht32
    have hE34 := hE30; rw [ht31] at hE34; clear hE30
    refine c_seq ?_
    refine c_reg ?_
    refine q_step (v := .int .i64 (F_l16Code pp0 pp1 mask)) hE34 (y_move rfl) rfl rfl rfl ?_; intro a35 hE36; clear hE34
    refine q_step (v := .int .i64 0) hE36 (y_assign rfl) rfl rfl rfl ?_; intro a37 hE38; clear hE36
    refine q_step (v := .int .i64 (F_l16Code pp0 pp1 mask)) hE38 (y_assign rfl) rfl rfl rfl ?_; intro a39 hE40; clear hE38
    refine c_nil ?_
    have hE41 := hE40.sub (L' := [(4, .int .i64 0), (5, .int .i64 (F_l16Code pp0 pp1 mask))]) ⟨rfl, rfl, trivial⟩; clear hE40
    refine p_tn ?_
    refine wp_ret ?_
    refine p_tr ?_
    have hF : F_s_UpsetOf pp0 pp1 mask = (0, F_l16Code pp0 pp1 mask) := by unfold F_s_UpsetOf; rw [ht31]; first | done | rfl
    refine c_ret2 hE41 rfl rfl rfl ?_
    exact ⟨(by rw [hF]; first | done | rfl), hS21.ext⟩
  ·
    have ht42 := bn_f ht31
    have hp43 := of_decide_eq_true ht42
    have hq44 := l16Code_t hp43
    have hE45 := hE30; rw [ht31] at hE45; clear hE30
    refine wp_skip ?_
    refine p_tn ?_
    refine c_seq ?_
    refine c_reg ?_
    refine q_step (v := .pointer (some ⟨b2, 1, none⟩)) hE45 (y_field rfl (fun _ => by kernel_rfl)) rfl rfl rfl ?_; intro a46 hE47; clear hE45
    refine q_step (v := .slice pp1A pp1.length pp1C) hE47 (y_load (fun _ => by kernel_rfl) rfl (St.cell (i := 0) hS21 rfl rfl)) rfl rfl rfl ?_; intro a48 hE49; clear hE47
    refine q_step (v := .int .i64 mask) hE49 (y_move rfl) rfl rfl rfl ?_; intro a50 hE51; clear hE49
    refine l_step hE51 rfl (l_call (f := 55) (argv := [.slice pp1A pp1.length pp1C, .int .i64 mask]) hE51 (fun _ => cf_l01Image _ _) rfl rfl (c_l01Image pp1A pp1.length pp1C pp1 mask w18 (St.rdR (i := 1) hS21 rfl) (by omega)) ?_)
    rintro _ w53 ⟨rfl, he57⟩ a54 hE55; clear hE51
    have hS56 := St.go hS21 he57; clear hS21
    refine q_step (v := .int .i64 (F_l01Image pp1 mask)) hE55 (y_assign rfl) rfl rfl rfl ?_; intro a58 hE59; clear hE55
    refine q_step (v := .int .i64 0) hE59 (y_assign rfl) rfl rfl rfl ?_; intro a60 hE61; clear hE59
    refine c_nil ?_
    have hE62 := hE61.sub (L' := [(4, .int .i64 (F_l01Image pp1 mask)), (5, .int .i64 0)]) ⟨rfl, rfl, trivial⟩; clear hE61
    refine p_tn ?_
    refine wp_ret ?_
    have hF : F_s_UpsetOf pp0 pp1 mask = (F_l01Image pp1 mask, 0) := by unfold F_s_UpsetOf; rw [ht31]; first | done | rfl
    refine c_ret2 hE62 rfl rfl rfl ?_
    exact ⟨(by rw [hF]; first | done | rfl), hS56.ext⟩

def F_UpsetOf (pp0 : Int) (pp1 : List Int) (mask : Int) : (Int) × (Int) :=
  bif (!decide ((F_posetCode pp0 pp1 mask) = 0)) then (0, F_posetCode pp0 pp1 mask) else (F_image pp1 mask, 0)
theorem cf_UpsetOf (args : Array Value) (w : World) : (callFunc 22 args).run Try.prog w = .ok (.enter 22 args) w := by kernel_rfl
set_option maxRecDepth 100000 in
theorem c_UpsetOf (pp0 : Int) (pp1A : Option Addr) (pp1N pp1C : Nat) (pp1 : List Int) (mask : Int) (w : World) (pp1R : RdS w 1 pp1A pp1N pp1C pp1) :
    Calls Try.prog 22 #[.agg #[.int .i64 pp0, .slice pp1A pp1N pp1C], .int .i64 mask] w (Ret fun v w' => v = .tuple #[.int .i64 ((F_UpsetOf pp0 pp1 mask).1), .int .i64 ((F_UpsetOf pp0 pp1 mask).2)] ∧ Ext w w') := by
  obtain rfl : pp1N = pp1.length := pp1R.len1.symm
  have pp1Le := pp1R.le
  have hS := St.nil w
  have hS1 := St.rd0 hS rfl pp1R; clear hS
  refine enter (args := [.agg #[.int .i64 pp0, .slice pp1A pp1.length pp1C], .int .i64 mask]) Try.func22 rfl rfl ?_
  rw [Try.ntmps22]; intro a hE
  have hE := hE.sub (L' := [(0, .agg #[.int .i64 pp0, .slice pp1A pp1.length pp1C]), (1, .int .i64 mask)]) ⟨rfl, rfl, trivial⟩
  refine c_seq ?_
  refine c_reg ?_
  refine l_step hE rfl (l_box (v := .agg #[.int .i64 pp0, .slice pp1A pp1.length pp1C]) (cs := #[.int .i64 pp0, .slice pp1A pp1.length pp1C]) hS1 hE rfl rfl rfl ?_)
  intro b2 w3 hS6 he7 a4 hE5; clear hS1 hE
  refine q_step (v := .int .i64 0) hE5 (y_assign rfl) rfl rfl rfl ?_; intro a8 hE9; clear hE5
  refine q_step (v := .int .i64 0) hE9 (y_assign rfl) rfl rfl rfl ?_; intro a10 hE11; clear hE9
  refine c_nil ?_
  have hE12 := hE11.sub (L' := [(1, .int .i64 mask), (2, .pointer (some ⟨b2, 0, none⟩))]) ⟨rfl, rfl, trivial⟩; clear hE11
  refine p_tn ?_
  refine c_seq ?_
  refine c_seq ?_
  refine c_reg ?_
  refine q_step (v := .agg #[.int .i64 pp0, .slice pp1A pp1.length pp1C]) hE12 (y_loadS Try.underlying27 rfl (by kernel_rfl) rfl (St.row (i := 0) hS6 rfl)) rfl rfl rfl ?_; intro a13 hE14; clear hE12
  refine q_step (v := .int .i64 mask) hE14 (y_move rfl) rfl rfl rfl ?_; intro a15 hE16; clear hE14
  refine l_step hE16 rfl (l_call (f := 56) (argv := [.agg #[.int .i64 pp0, .slice pp1A pp1.length pp1C], .int .i64 mask]) hE16 (fun _ => cf_posetCode _ _) rfl rfl (c_posetCode pp0 pp1A pp1.length pp1C pp1 mask w3 (St.rdR (i := 1) hS6 rfl)) ?_)
  rintro _ w18 ⟨rfl, he22⟩ a19 hE20; clear hE16
  have hS21 := St.go hS6 he22; clear hS6
  refine q_step (v := .int .i64 (F_posetCode pp0 pp1 mask)) hE20 (y_assign rfl) rfl rfl rfl ?_; intro a23 hE24; clear hE20
  refine c_nil ?_
  have hE25 := hE24.sub (L' := [(1, .int .i64 mask), (2, .pointer (some ⟨b2, 0, none⟩)), (6, .int .i64 (F_posetCode pp0 pp1 mask))]) ⟨rfl, rfl, rfl, trivial⟩; clear hE24
  refine p_tn ?_
  refine c_seq ?_
  refine c_reg ?_
  refine q_step (v := .int .i64 (F_posetCode pp0 pp1 mask)) hE25 (y_move rfl) rfl rfl rfl ?_; intro a26 hE27; clear hE25
  refine q_step (v := .bool (!decide ((F_posetCode pp0 pp1 mask) = 0))) hE27 (y_neq rfl rfl) rfl rfl rfl ?_; intro a28 hE29; clear hE27
  refine c_nil ?_
  have hE30 := hE29.sub (L' := [(1, .int .i64 mask), (2, .pointer (some ⟨b2, 0, none⟩)), (6, .int .i64 (F_posetCode pp0 pp1 mask)), (11, .bool (!decide ((F_posetCode pp0 pp1 mask) = 0)))]) ⟨rfl, rfl, rfl, rfl, trivial⟩; clear hE29
  refine p_tn ?_
  refine c_cond hE30 rfl (fun ht31 => ?_) (fun ht31 => ?_)
  ·
    have ht32 := bn_t ht31
    have hp33 := of_decide_eq_false ht32
    have hE34 := hE30; rw [ht31] at hE34; clear hE30
    refine c_seq ?_
    refine c_reg ?_
    refine q_step (v := .int .i64 (F_posetCode pp0 pp1 mask)) hE34 (y_move rfl) rfl rfl rfl ?_; intro a35 hE36; clear hE34
    refine q_step (v := .int .i64 0) hE36 (y_assign rfl) rfl rfl rfl ?_; intro a37 hE38; clear hE36
    refine q_step (v := .int .i64 (F_posetCode pp0 pp1 mask)) hE38 (y_assign rfl) rfl rfl rfl ?_; intro a39 hE40; clear hE38
    refine c_nil ?_
    have hE41 := hE40.sub (L' := [(4, .int .i64 0), (5, .int .i64 (F_posetCode pp0 pp1 mask))]) ⟨rfl, rfl, trivial⟩; clear hE40
    refine p_tn ?_
    refine wp_ret ?_
    refine p_tr ?_
    have hF : F_UpsetOf pp0 pp1 mask = (0, F_posetCode pp0 pp1 mask) := by unfold F_UpsetOf; rw [ht31]; first | done | rfl
    refine c_ret2 hE41 rfl rfl rfl ?_
    exact ⟨(by rw [hF]; first | done | rfl), hS21.ext⟩
  ·
    have ht42 := bn_f ht31
    have hp43 := of_decide_eq_true ht42
    have hq44 := posetCode_t hp43
    have hE45 := hE30; rw [ht31] at hE45; clear hE30
    refine wp_skip ?_
    refine p_tn ?_
    refine c_seq ?_
    refine c_reg ?_
    refine q_step (v := .pointer (some ⟨b2, 1, none⟩)) hE45 (y_field rfl (fun _ => by kernel_rfl)) rfl rfl rfl ?_; intro a46 hE47; clear hE45
    refine q_step (v := .slice pp1A pp1.length pp1C) hE47 (y_load (fun _ => by kernel_rfl) rfl (St.cell (i := 0) hS21 rfl rfl)) rfl rfl rfl ?_; intro a48 hE49; clear hE47
    refine q_step (v := .int .i64 mask) hE49 (y_move rfl) rfl rfl rfl ?_; intro a50 hE51; clear hE49
    refine l_step hE51 rfl (l_call (f := 57) (argv := [.slice pp1A pp1.length pp1C, .int .i64 mask]) hE51 (fun _ => cf_image _ _) rfl rfl (c_image pp1A pp1.length pp1C pp1 mask w18 (St.rdR (i := 1) hS21 rfl) (by omega) (by omega) (by rw [(posetCode_t (by assumption)).2.1]; omega) (mask_sm (f0 := pp0) (by omega) (by omega))) ?_)
    rintro _ w53 ⟨rfl, he57⟩ a54 hE55; clear hE51
    have hS56 := St.go hS21 he57; clear hS21
    refine q_step (v := .int .i64 (F_image pp1 mask)) hE55 (y_assign rfl) rfl rfl rfl ?_; intro a58 hE59; clear hE55
    refine q_step (v := .int .i64 0) hE59 (y_assign rfl) rfl rfl rfl ?_; intro a60 hE61; clear hE59
    refine c_nil ?_
    have hE62 := hE61.sub (L' := [(4, .int .i64 (F_image pp1 mask)), (5, .int .i64 0)]) ⟨rfl, rfl, trivial⟩; clear hE61
    refine p_tn ?_
    refine wp_ret ?_
    have hF : F_UpsetOf pp0 pp1 mask = (F_image pp1 mask, 0) := by unfold F_UpsetOf; rw [ht31]; first | done | rfl
    refine c_ret2 hE62 rfl rfl rfl ?_
    exact ⟨(by rw [hF]; first | done | rfl), hS56.ext⟩

def F_s_InteriorOf (pp0 : Int) (pp1 : List Int) (mask : Int) : (Int) × (Int) :=
  bif (!decide ((F_l16Code pp0 pp1 mask) = 0)) then (0, F_l16Code pp0 pp1 mask) else (F_l01Box pp1 mask, 0)
theorem cf_s_InteriorOf (args : Array Value) (w : World) : (callFunc 27 args).run Try.prog w = .ok (.enter 27 args) w := by kernel_rfl
set_option maxRecDepth 100000 in
theorem c_s_InteriorOf (pp0 : Int) (pp1A : Option Addr) (pp1N pp1C : Nat) (pp1 : List Int) (mask : Int) (w : World) (pp1R : RdS w 1 pp1A pp1N pp1C pp1) :
    Calls Try.prog 27 #[.agg #[.int .i64 pp0, .slice pp1A pp1N pp1C], .int .i64 mask] w (Ret fun v w' => v = .tuple #[.int .i64 ((F_s_InteriorOf pp0 pp1 mask).1), .int .i64 ((F_s_InteriorOf pp0 pp1 mask).2)] ∧ Ext w w') := by
  obtain rfl : pp1N = pp1.length := pp1R.len1.symm
  have pp1Le := pp1R.le
  have hS := St.nil w
  have hS1 := St.rd0 hS rfl pp1R; clear hS
  refine enter (args := [.agg #[.int .i64 pp0, .slice pp1A pp1.length pp1C], .int .i64 mask]) Try.func27 rfl rfl ?_
  rw [Try.ntmps27]; intro a hE
  have hE := hE.sub (L' := [(0, .agg #[.int .i64 pp0, .slice pp1A pp1.length pp1C]), (1, .int .i64 mask)]) ⟨rfl, rfl, trivial⟩
  refine c_seq ?_
  refine c_reg ?_
  refine l_step hE rfl (l_box (v := .agg #[.int .i64 pp0, .slice pp1A pp1.length pp1C]) (cs := #[.int .i64 pp0, .slice pp1A pp1.length pp1C]) hS1 hE rfl rfl rfl ?_)
  intro b2 w3 hS6 he7 a4 hE5; clear hS1 hE
  refine q_step (v := .int .i64 0) hE5 (y_assign rfl) rfl rfl rfl ?_; intro a8 hE9; clear hE5
  refine q_step (v := .int .i64 0) hE9 (y_assign rfl) rfl rfl rfl ?_; intro a10 hE11; clear hE9
  refine c_nil ?_
  have hE12 := hE11.sub (L' := [(1, .int .i64 mask), (2, .pointer (some ⟨b2, 0, none⟩))]) ⟨rfl, rfl, trivial⟩; clear hE11
  refine p_tn ?_
  refine c_seq ?_
  refine c_reg ?_
  refine q_step (v := .agg #[.int .i64 pp0, .slice pp1A pp1.length pp1C]) hE12 (y_loadS Try.underlying27 rfl (by kernel_rfl) rfl (St.row (i := 0) hS6 rfl)) rfl rfl rfl ?_; intro a13 hE14; clear hE12
  refine q_step (v := .int .i64 mask) hE14 (y_move rfl) rfl rfl rfl ?_; intro a15 hE16; clear hE14
  refine l_step hE16 rfl (l_call (f := 54) (argv := [.agg #[.int .i64 pp0, .slice pp1A pp1.length pp1C], .int .i64 mask]) hE16 (fun _ => cf_l16Code _ _) rfl rfl (c_l16Code pp0 pp1A pp1.length pp1C pp1 mask w3 (St.rdR (i := 1) hS6 rfl)) ?_)
  rintro _ w18 ⟨rfl, he22⟩ a19 hE20; clear hE16
  have hS21 := St.go hS6 he22; clear hS6
  refine q_step (v := .int .i64 (F_l16Code pp0 pp1 mask)) hE20 (y_assign rfl) rfl rfl rfl ?_; intro a23 hE24; clear hE20
  refine c_nil ?_
  have hE25 := hE24.sub (L' := [(1, .int .i64 mask), (2, .pointer (some ⟨b2, 0, none⟩)), (6, .int .i64 (F_l16Code pp0 pp1 mask))]) ⟨rfl, rfl, rfl, trivial⟩; clear hE24
  refine p_tn ?_
  refine c_seq ?_
  refine c_seq ?_
  refine c_reg ?_
  refine q_step (v := .int .i64 (F_l16Code pp0 pp1 mask)) hE25 (y_move rfl) rfl rfl rfl ?_; intro a26 hE27; clear hE25
  refine q_step (v := .bool (!decide ((F_l16Code pp0 pp1 mask) = 0))) hE27 (y_neq rfl rfl) rfl rfl rfl ?_; intro a28 hE29; clear hE27
  refine c_nil ?_
  have hE30 := hE29.sub (L' := [(1, .int .i64 mask), (2, .pointer (some ⟨b2, 0, none⟩)), (6, .int .i64 (F_l16Code pp0 pp1 mask)), (11, .bool (!decide ((F_l16Code pp0 pp1 mask) = 0)))]) ⟨rfl, rfl, rfl, rfl, trivial⟩; clear hE29
  refine p_tn ?_
  refine c_cond hE30 rfl (fun ht31 => ?_) (fun ht31 => ?_)
  ·
    have ht32 := bn_t ht31
    have hp33 := of_decide_eq_false ht32
    have hE34 := hE30; rw [ht31] at hE34; clear hE30
    refine c_seq ?_
    refine c_reg ?_
    refine q_step (v := .int .i64 (F_l16Code pp0 pp1 mask)) hE34 (y_move rfl) rfl rfl rfl ?_; intro a35 hE36; clear hE34
    refine q_step (v := .int .i64 0) hE36 (y_assign rfl) rfl rfl rfl ?_; intro a37 hE38; clear hE36
    refine q_step (v := .int .i64 (F_l16Code pp0 pp1 mask)) hE38 (y_assign rfl) rfl rfl rfl ?_; intro a39 hE40; clear hE38
    refine c_nil ?_
    have hE41 := hE40.sub (L' := [(4, .int .i64 0), (5, .int .i64 (F_l16Code pp0 pp1 mask))]) ⟨rfl, rfl, trivial⟩; clear hE40
    refine p_tn ?_
    refine wp_ret ?_
    refine p_tr ?_
    have hF : F_s_InteriorOf pp0 pp1 mask = (0, F_l16Code pp0 pp1 mask) := by unfold F_s_InteriorOf; rw [ht31]; first | done | rfl
    refine c_ret2 hE41 rfl rfl rfl ?_
    exact ⟨(by rw [hF]; first | done | rfl), hS21.ext⟩
  ·
    have ht42 := bn_f ht31
    have hp43 := of_decide_eq_true ht42
    have hq44 := l16Code_t hp43
    have hE45 := hE30; rw [ht31] at hE45; clear hE30
    refine wp_skip ?_
    refine p_tn ?_
    refine c_seq ?_
    refine c_reg ?_
    refine q_step (v := .pointer (some ⟨b2, 1, none⟩)) hE45 (y_field rfl (fun _ => by kernel_rfl)) rfl rfl rfl ?_; intro a46 hE47; clear hE45
    refine q_step (v := .slice pp1A pp1.length pp1C) hE47 (y_load (fun _ => by kernel_rfl) rfl (St.cell (i := 0) hS21 rfl rfl)) rfl rfl rfl ?_; intro a48 hE49; clear hE47
    refine q_step (v := .int .i64 mask) hE49 (y_move rfl) rfl rfl rfl ?_; intro a50 hE51; clear hE49
    refine l_step hE51 rfl (l_call (f := 62) (argv := [.slice pp1A pp1.length pp1C, .int .i64 mask]) hE51 (fun _ => cf_l01Box _ _) rfl rfl (c_l01Box pp1A pp1.length pp1C pp1 mask w18 (St.rdR (i := 1) hS21 rfl) (by omega)) ?_)
    rintro _ w53 ⟨rfl, he57⟩ a54 hE55; clear hE51
    have hS56 := St.go hS21 he57; clear hS21
    refine q_step (v := .int .i64 (F_l01Box pp1 mask)) hE55 (y_assign rfl) rfl rfl rfl ?_; intro a58 hE59; clear hE55
    refine q_step (v := .int .i64 0) hE59 (y_assign rfl) rfl rfl rfl ?_; intro a60 hE61; clear hE59
    refine c_nil ?_
    have hE62 := hE61.sub (L' := [(4, .int .i64 (F_l01Box pp1 mask)), (5, .int .i64 0)]) ⟨rfl, rfl, trivial⟩; clear hE61
    refine p_tn ?_
    refine wp_ret ?_
    have hF : F_s_InteriorOf pp0 pp1 mask = (F_l01Box pp1 mask, 0) := by unfold F_s_InteriorOf; rw [ht31]; first | done | rfl
    refine c_ret2 hE62 rfl rfl rfl ?_
    exact ⟨(by rw [hF]; first | done | rfl), hS56.ext⟩

def F_InteriorOf (pp0 : Int) (pp1 : List Int) (mask : Int) : (Int) × (Int) :=
  bif (!decide ((F_posetCode pp0 pp1 mask) = 0)) then (0, F_posetCode pp0 pp1 mask) else (F_box pp1 mask, 0)
theorem cf_InteriorOf (args : Array Value) (w : World) : (callFunc 28 args).run Try.prog w = .ok (.enter 28 args) w := by kernel_rfl
set_option maxRecDepth 100000 in
theorem c_InteriorOf (pp0 : Int) (pp1A : Option Addr) (pp1N pp1C : Nat) (pp1 : List Int) (mask : Int) (w : World) (pp1R : RdS w 1 pp1A pp1N pp1C pp1) :
    Calls Try.prog 28 #[.agg #[.int .i64 pp0, .slice pp1A pp1N pp1C], .int .i64 mask] w (Ret fun v w' => v = .tuple #[.int .i64 ((F_InteriorOf pp0 pp1 mask).1), .int .i64 ((F_InteriorOf pp0 pp1 mask).2)] ∧ Ext w w') := by
  obtain rfl : pp1N = pp1.length := pp1R.len1.symm
  have pp1Le := pp1R.le
  have hS := St.nil w
  have hS1 := St.rd0 hS rfl pp1R; clear hS
  refine enter (args := [.agg #[.int .i64 pp0, .slice pp1A pp1.length pp1C], .int .i64 mask]) Try.func28 rfl rfl ?_
  rw [Try.ntmps28]; intro a hE
  have hE := hE.sub (L' := [(0, .agg #[.int .i64 pp0, .slice pp1A pp1.length pp1C]), (1, .int .i64 mask)]) ⟨rfl, rfl, trivial⟩
  refine c_seq ?_
  refine c_reg ?_
  refine l_step hE rfl (l_box (v := .agg #[.int .i64 pp0, .slice pp1A pp1.length pp1C]) (cs := #[.int .i64 pp0, .slice pp1A pp1.length pp1C]) hS1 hE rfl rfl rfl ?_)
  intro b2 w3 hS6 he7 a4 hE5; clear hS1 hE
  refine q_step (v := .int .i64 0) hE5 (y_assign rfl) rfl rfl rfl ?_; intro a8 hE9; clear hE5
  refine q_step (v := .int .i64 0) hE9 (y_assign rfl) rfl rfl rfl ?_; intro a10 hE11; clear hE9
  refine c_nil ?_
  have hE12 := hE11.sub (L' := [(1, .int .i64 mask), (2, .pointer (some ⟨b2, 0, none⟩))]) ⟨rfl, rfl, trivial⟩; clear hE11
  refine p_tn ?_
  refine c_seq ?_
  refine c_seq ?_
  refine c_reg ?_
  refine q_step (v := .agg #[.int .i64 pp0, .slice pp1A pp1.length pp1C]) hE12 (y_loadS Try.underlying27 rfl (by kernel_rfl) rfl (St.row (i := 0) hS6 rfl)) rfl rfl rfl ?_; intro a13 hE14; clear hE12
  refine q_step (v := .int .i64 mask) hE14 (y_move rfl) rfl rfl rfl ?_; intro a15 hE16; clear hE14
  refine l_step hE16 rfl (l_call (f := 56) (argv := [.agg #[.int .i64 pp0, .slice pp1A pp1.length pp1C], .int .i64 mask]) hE16 (fun _ => cf_posetCode _ _) rfl rfl (c_posetCode pp0 pp1A pp1.length pp1C pp1 mask w3 (St.rdR (i := 1) hS6 rfl)) ?_)
  rintro _ w18 ⟨rfl, he22⟩ a19 hE20; clear hE16
  have hS21 := St.go hS6 he22; clear hS6
  refine q_step (v := .int .i64 (F_posetCode pp0 pp1 mask)) hE20 (y_assign rfl) rfl rfl rfl ?_; intro a23 hE24; clear hE20
  refine c_nil ?_
  have hE25 := hE24.sub (L' := [(1, .int .i64 mask), (2, .pointer (some ⟨b2, 0, none⟩)), (6, .int .i64 (F_posetCode pp0 pp1 mask))]) ⟨rfl, rfl, rfl, trivial⟩; clear hE24
  refine p_tn ?_
  refine c_seq ?_
  refine c_reg ?_
  refine q_step (v := .int .i64 (F_posetCode pp0 pp1 mask)) hE25 (y_move rfl) rfl rfl rfl ?_; intro a26 hE27; clear hE25
  refine q_step (v := .bool (!decide ((F_posetCode pp0 pp1 mask) = 0))) hE27 (y_neq rfl rfl) rfl rfl rfl ?_; intro a28 hE29; clear hE27
  refine c_nil ?_
  have hE30 := hE29.sub (L' := [(1, .int .i64 mask), (2, .pointer (some ⟨b2, 0, none⟩)), (6, .int .i64 (F_posetCode pp0 pp1 mask)), (11, .bool (!decide ((F_posetCode pp0 pp1 mask) = 0)))]) ⟨rfl, rfl, rfl, rfl, trivial⟩; clear hE29
  refine p_tn ?_
  refine c_cond hE30 rfl (fun ht31 => ?_) (fun ht31 => ?_)
  ·
    have ht32 := bn_t ht31
    have hp33 := of_decide_eq_false ht32
    have hE34 := hE30; rw [ht31] at hE34; clear hE30
    refine c_seq ?_
    refine c_reg ?_
    refine q_step (v := .int .i64 (F_posetCode pp0 pp1 mask)) hE34 (y_move rfl) rfl rfl rfl ?_; intro a35 hE36; clear hE34
    refine q_step (v := .int .i64 0) hE36 (y_assign rfl) rfl rfl rfl ?_; intro a37 hE38; clear hE36
    refine q_step (v := .int .i64 (F_posetCode pp0 pp1 mask)) hE38 (y_assign rfl) rfl rfl rfl ?_; intro a39 hE40; clear hE38
    refine c_nil ?_
    have hE41 := hE40.sub (L' := [(4, .int .i64 0), (5, .int .i64 (F_posetCode pp0 pp1 mask))]) ⟨rfl, rfl, trivial⟩; clear hE40
    refine p_tn ?_
    refine wp_ret ?_
    refine p_tr ?_
    have hF : F_InteriorOf pp0 pp1 mask = (0, F_posetCode pp0 pp1 mask) := by unfold F_InteriorOf; rw [ht31]; first | done | rfl
    refine c_ret2 hE41 rfl rfl rfl ?_
    exact ⟨(by rw [hF]; first | done | rfl), hS21.ext⟩
  ·
    have ht42 := bn_f ht31
    have hp43 := of_decide_eq_true ht42
    have hq44 := posetCode_t hp43
    have hE45 := hE30; rw [ht31] at hE45; clear hE30
    refine wp_skip ?_
    refine p_tn ?_
    refine c_seq ?_
    refine c_reg ?_
    refine q_step (v := .pointer (some ⟨b2, 1, none⟩)) hE45 (y_field rfl (fun _ => by kernel_rfl)) rfl rfl rfl ?_; intro a46 hE47; clear hE45
    refine q_step (v := .slice pp1A pp1.length pp1C) hE47 (y_load (fun _ => by kernel_rfl) rfl (St.cell (i := 0) hS21 rfl rfl)) rfl rfl rfl ?_; intro a48 hE49; clear hE47
    refine q_step (v := .int .i64 mask) hE49 (y_move rfl) rfl rfl rfl ?_; intro a50 hE51; clear hE49
    refine l_step hE51 rfl (l_call (f := 63) (argv := [.slice pp1A pp1.length pp1C, .int .i64 mask]) hE51 (fun _ => cf_box _ _) rfl rfl (c_box pp1A pp1.length pp1C pp1 mask w18 (St.rdR (i := 1) hS21 rfl) (by omega)) ?_)
    rintro _ w53 ⟨rfl, he57⟩ a54 hE55; clear hE51
    have hS56 := St.go hS21 he57; clear hS21
    refine q_step (v := .int .i64 (F_box pp1 mask)) hE55 (y_assign rfl) rfl rfl rfl ?_; intro a58 hE59; clear hE55
    refine q_step (v := .int .i64 0) hE59 (y_assign rfl) rfl rfl rfl ?_; intro a60 hE61; clear hE59
    refine c_nil ?_
    have hE62 := hE61.sub (L' := [(4, .int .i64 (F_box pp1 mask)), (5, .int .i64 0)]) ⟨rfl, rfl, trivial⟩; clear hE61
    refine p_tn ?_
    refine wp_ret ?_
    have hF : F_InteriorOf pp0 pp1 mask = (F_box pp1 mask, 0) := by unfold F_InteriorOf; rw [ht31]; first | done | rfl
    refine c_ret2 hE62 rfl rfl rfl ?_
    exact ⟨(by rw [hF]; first | done | rfl), hS56.ext⟩

theorem UpsetOf_eq (p0 : Int) (p1 : List Int) (mask : Int) : F_UpsetOf p0 p1 mask = F_s_UpsetOf p0 p1 mask := by
  unfold F_UpsetOf F_s_UpsetOf
  rw [posetCode_eq]
  by_cases h : F_l16Code p0 p1 mask = 0
  · obtain ⟨h1, h2, h3, h4⟩ := l16Code_t h
    obtain ⟨hR, hn⟩ := l16_rl h4
    rw [image_eq (n := p0.toNat) (by omega) hR.1 ⟨h3.1, by rw [Int.toNat_of_nonneg h1.1.1]; exact h3.2⟩]
  · rw [decide_eq_false h, Bool.not_false, cond_true, cond_true]
theorem InteriorOf_eq (p0 : Int) (p1 : List Int) (mask : Int) : F_InteriorOf p0 p1 mask = F_s_InteriorOf p0 p1 mask := by
  unfold F_InteriorOf F_s_InteriorOf
  rw [posetCode_eq]
  by_cases h : F_l16Code p0 p1 mask = 0
  · obtain ⟨h1, h2, h3, h4⟩ := l16Code_t h
    have hp := l16Is_t h4
    rw [box_eq (n := p0) hp.1.1 (by omega) (by omega) hp.2.2 h3.1 h3.2]
  · rw [decide_eq_false h, Bool.not_false, cond_true, cond_true]

end Go.Proofs.Ythogljcjjmclcaa
