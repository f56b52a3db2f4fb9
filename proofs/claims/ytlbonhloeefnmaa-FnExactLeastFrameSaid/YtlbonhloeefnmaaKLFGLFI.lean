/- GLFI: models and contracts, printed by wip/gen/gen.py -/
import Derived.Test.YtlbonhloeefnmaaKLFGLFD
set_option linter.unusedVariables false
set_option linter.unusedSimpArgs false
namespace Go.Proofs.Ytlbonhloeefnmaa
open Go.RowKit
def F_cmp_isNaN (xp : Int) : Bool :=
  (!decide (xp = xp))
theorem cf_cmp_isNaN (args : Array Value) (w : World) : (callFunc 242 args).run Try.prog w = .ok (.enter 242 args) w := by kernel_rfl
set_option maxRecDepth 100000 in
theorem c_cmp_isNaN (xp : Int) (w : World) :
    Calls Try.prog 242 #[.int .i64 xp] w (Ret fun v w' => v = .bool (F_cmp_isNaN xp) ∧ w = w') := by
  have hS := St.nil w
  refine enter (args := [.int .i64 xp]) Try.func242 rfl rfl ?_
  rw [Try.ntmps242]; intro a hE
  have hE := hE.sub (L' := [(0, .int .i64 xp)]) ⟨rfl, trivial⟩
  refine c_seq ?_
  refine c_reg ?_
  refine q_step (v := .bool false) hE (y_assign rfl) rfl rfl rfl ?_; intro a1 hE2; clear hE
  refine c_nil ?_
  have hE3 := hE2.sub (L' := [(0, .int .i64 xp)]) ⟨rfl, trivial⟩; clear hE2
  refine p_tn ?_
  refine c_seq ?_
  refine c_reg ?_
  refine q_step (v := .int .i64 xp) hE3 (y_move rfl) rfl rfl rfl ?_; intro a4 hE5; clear hE3
  refine q_step (v := .int .i64 xp) hE5 (y_move rfl) rfl rfl rfl ?_; intro a6 hE7; clear hE5
  refine q_step (v := .bool (!decide (xp = xp))) hE7 (y_neq rfl rfl) rfl rfl rfl ?_; intro a8 hE9; clear hE7
  refine q_step (v := .bool (!decide (xp = xp))) hE9 (y_assign rfl) rfl rfl rfl ?_; intro a10 hE11; clear hE9
  refine c_nil ?_
  have hE12 := hE11.sub (L' := [(2, .bool (!decide (xp = xp)))]) ⟨rfl, trivial⟩; clear hE11
  refine p_tn ?_
  refine wp_ret ?_
  have hF : F_cmp_isNaN xp = (!decide (xp = xp)) := by unfold F_cmp_isNaN; rfl
  refine c_ret1 hE12 rfl rfl ?_
  exact ⟨(by rw [hF]; first | done | (dsimp only; done) | rfl), rfl⟩
def F_cmp_Compare (xp : Int) (yp : Int) : Int :=
  bif (F_cmp_isNaN xp) then (bif (F_cmp_isNaN yp) then 0 else (-1)) else (bif (F_cmp_isNaN yp) then 1 else (bif (decide (xp < yp)) then (-1) else (bif (decide (yp < xp)) then 1 else 0)))
theorem cf_cmp_Compare (args : Array Value) (w : World) : (callFunc 235 args).run Try.prog w = .ok (.enter 235 args) w := by kernel_rfl
set_option maxRecDepth 100000 in
theorem c_cmp_Compare (xp : Int) (yp : Int) (w : World) :
    Calls Try.prog 235 #[.int .i64 xp, .int .i64 yp] w (Ret fun v w' => v = .int .i64 (F_cmp_Compare xp yp) ∧ w = w') := by
  have hS := St.nil w
  refine enter (args := [.int .i64 xp, .int .i64 yp]) Try.func235 rfl rfl ?_
  rw [Try.ntmps235]; intro a hE
  have hE := hE.sub (L' := [(0, .int .i64 xp), (1, .int .i64 yp)]) ⟨rfl, rfl, trivial⟩
  refine c_seq ?_
  refine c_reg ?_
  refine q_step (v := .int .i64 0) hE (y_assign rfl) rfl rfl rfl ?_; intro a1 hE2; clear hE
  refine c_nil ?_
  have hE3 := hE2.sub (L' := [(0, .int .i64 xp), (1, .int .i64 yp)]) ⟨rfl, rfl, trivial⟩; clear hE2
  refine p_tn ?_
  refine c_seq ?_
  refine c_reg ?_
  refine q_step (v := .int .i64 xp) hE3 (y_move rfl) rfl rfl rfl ?_; intro a4 hE5; clear hE3
  refine l_step hE5 rfl (l_call (f := 242) (argv := [.int .i64 xp]) hE5 (fun _ => cf_cmp_isNaN _ _) rfl rfl (c_cmp_isNaN xp w) ?_)
  rintro _ _ ⟨rfl, rfl⟩ a8 hE9; clear hE5
  refine q_step (v := .bool (F_cmp_isNaN xp)) hE9 (y_assign rfl) rfl rfl rfl ?_; intro a12 hE13; clear hE9
  refine c_nil ?_
  have hE14 := hE13.sub (L' := [(0, .int .i64 xp), (1, .int .i64 yp), (5, .bool (F_cmp_isNaN xp))]) ⟨rfl, rfl, rfl, trivial⟩; clear hE13
  refine p_tn ?_
  refine c_seq ?_
  refine c_reg ?_
  refine q_step (v := .int .i64 yp) hE14 (y_move rfl) rfl rfl rfl ?_; intro a15 hE16; clear hE14
  refine l_step hE16 rfl (l_call (f := 242) (argv := [.int .i64 yp]) hE16 (fun _ => cf_cmp_isNaN _ _) rfl rfl (c_cmp_isNaN yp w) ?_)
  rintro _ _ ⟨rfl, rfl⟩ a19 hE20; clear hE16
  refine q_step (v := .bool (F_cmp_isNaN yp)) hE20 (y_assign rfl) rfl rfl rfl ?_; intro a23 hE24; clear hE20
  refine c_nil ?_
  have hE25 := hE24.sub (L' := [(0, .int .i64 xp), (1, .int .i64 yp), (5, .bool (F_cmp_isNaN xp)), (6, .bool (F_cmp_isNaN yp))]) ⟨rfl, rfl, rfl, rfl, trivial⟩; clear hE24
  refine p_tn ?_
  refine c_seq ?_
  refine c_seq ?_
  refine c_reg ?_
  refine q_step (v := .bool (F_cmp_isNaN xp)) hE25 (y_move rfl) rfl rfl rfl ?_; intro a26 hE27; clear hE25
  refine c_nil ?_
  have hE28 := hE27.sub (L' := [(0, .int .i64 xp), (1, .int .i64 yp), (6, .bool (F_cmp_isNaN yp)), (11, .bool (F_cmp_isNaN xp))]) ⟨rfl, rfl, rfl, rfl, trivial⟩; clear hE27
  refine p_tn ?_
  refine c_cond hE28 rfl (fun ht29 => ?_) (fun ht29 => ?_)
  ·
   have hE30 := hE28; rw [ht29] at hE30; clear hE28
   refine c_seq ?_
   refine c_seq ?_
   refine c_reg ?_
   refine q_step (v := .bool (F_cmp_isNaN yp)) hE30 (y_move rfl) rfl rfl rfl ?_; intro a31 hE32; clear hE30
   refine c_nil ?_
   have hE33 := hE32.sub (L' := [(12, .bool (F_cmp_isNaN yp))]) ⟨rfl, trivial⟩; clear hE32
   refine p_tn ?_
   refine c_cond hE33 rfl (fun ht34 => ?_) (fun ht34 => ?_)
   ·
    have hE35 := hE33; rw [ht34] at hE35; clear hE33
    refine c_seq ?_
    refine c_reg ?_
    refine q_step (v := .int .i64 0) hE35 (y_assign rfl) rfl rfl rfl ?_; intro a36 hE37; clear hE35
    refine c_nil ?_
    have hE38 := hE37.sub (L' := [(4, .int .i64 0)]) ⟨rfl, trivial⟩; clear hE37
    refine p_tn ?_
    refine wp_ret ?_
    refine p_tr ?_
    refine p_tr ?_
    have hF : F_cmp_Compare xp yp = 0 := by unfold F_cmp_Compare; rw [ht34, ht29]; first | done | rfl
    refine c_ret1 hE38 rfl rfl ?_
    exact ⟨(by rw [hF]; first | done | (dsimp only; done) | rfl), rfl⟩
   ·
    have hE39 := hE33; rw [ht34] at hE39; clear hE33
    refine wp_skip ?_
    refine p_tn ?_
    refine c_seq ?_
    refine c_reg ?_
    refine q_step (v := .int .i64 (-1)) hE39 (y_assign rfl) rfl rfl rfl ?_; intro a40 hE41; clear hE39
    refine c_nil ?_
    have hE42 := hE41.sub (L' := [(4, .int .i64 (-1))]) ⟨rfl, trivial⟩; clear hE41
    refine p_tn ?_
    refine wp_ret ?_
    refine p_tr ?_
    have hF : F_cmp_Compare xp yp = -1 := by unfold F_cmp_Compare; rw [ht34, ht29]; first | done | rfl
    refine c_ret1 hE42 rfl rfl ?_
    exact ⟨(by rw [hF]; first | done | (dsimp only; done) | rfl), rfl⟩
  ·
   have hE43 := hE28; rw [ht29] at hE43; clear hE28
   refine wp_skip ?_
   refine p_tn ?_
   refine c_seq ?_
   refine c_seq ?_
   refine c_reg ?_
   refine q_step (v := .bool (F_cmp_isNaN yp)) hE43 (y_move rfl) rfl rfl rfl ?_; intro a44 hE45; clear hE43
   refine c_nil ?_
   have hE46 := hE45.sub (L' := [(0, .int .i64 xp), (1, .int .i64 yp), (13, .bool (F_cmp_isNaN yp))]) ⟨rfl, rfl, rfl, trivial⟩; clear hE45
   refine p_tn ?_
   refine c_cond hE46 rfl (fun ht47 => ?_) (fun ht47 => ?_)
   ·
    have hE48 := hE46; rw [ht47] at hE48; clear hE46
    refine c_seq ?_
    refine c_reg ?_
    refine q_step (v := .int .i64 1) hE48 (y_assign rfl) rfl rfl rfl ?_; intro a49 hE50; clear hE48
    refine c_nil ?_
    have hE51 := hE50.sub (L' := [(4, .int .i64 1)]) ⟨rfl, trivial⟩; clear hE50
    refine p_tn ?_
    refine wp_ret ?_
    refine p_tr ?_
    have hF : F_cmp_Compare xp yp = 1 := by unfold F_cmp_Compare; rw [ht47, ht29]; first | done | rfl
    refine c_ret1 hE51 rfl rfl ?_
    exact ⟨(by rw [hF]; first | done | (dsimp only; done) | rfl), rfl⟩
   ·
    have hE52 := hE46; rw [ht47] at hE52; clear hE46
    refine wp_skip ?_
    refine p_tn ?_
    refine c_seq ?_
    refine c_seq ?_
    refine c_reg ?_
    refine q_step (v := .int .i64 xp) hE52 (y_move rfl) rfl rfl rfl ?_; intro a53 hE54; clear hE52
    refine q_step (v := .int .i64 yp) hE54 (y_move rfl) rfl rfl rfl ?_; intro a55 hE56; clear hE54
    refine q_step (v := .bool (decide (xp < yp))) hE56 (y_lss rfl rfl) rfl rfl rfl ?_; intro a57 hE58; clear hE56
    refine c_nil ?_
    have hE59 := hE58.sub (L' := [(0, .int .i64 xp), (1, .int .i64 yp), (16, .bool (decide (xp < yp)))]) ⟨rfl, rfl, rfl, trivial⟩; clear hE58
    refine p_tn ?_
    refine c_cond hE59 rfl (fun ht60 => ?_) (fun ht60 => ?_)
    ·
     have hp61 := of_decide_eq_true ht60
     have hE62 := hE59; rw [ht60] at hE62; clear hE59
     refine c_seq ?_
     refine c_reg ?_
     refine q_step (v := .int .i64 (-1)) hE62 (y_assign rfl) rfl rfl rfl ?_; intro a63 hE64; clear hE62
     refine c_nil ?_
     have hE65 := hE64.sub (L' := [(4, .int .i64 (-1))]) ⟨rfl, trivial⟩; clear hE64
     refine p_tn ?_
     refine wp_ret ?_
     refine p_tr ?_
     have hF : F_cmp_Compare xp yp = -1 := by unfold F_cmp_Compare; rw [ht60, ht47, ht29]; first | done | rfl
     refine c_ret1 hE65 rfl rfl ?_
     exact ⟨(by rw [hF]; first | done | (dsimp only; done) | rfl), rfl⟩
    ·
     have hp66 := of_decide_eq_false ht60
     have hE67 := hE59; rw [ht60] at hE67; clear hE59
     refine wp_skip ?_
     refine p_tn ?_
     refine c_seq ?_
     refine c_seq ?_
     refine c_reg ?_
     refine q_step (v := .int .i64 xp) hE67 (y_move rfl) rfl rfl rfl ?_; intro a68 hE69; clear hE67
     refine q_step (v := .int .i64 yp) hE69 (y_move rfl) rfl rfl rfl ?_; intro a70 hE71; clear hE69
     refine q_step (v := .bool (decide (yp < xp))) hE71 (y_gtr rfl rfl) rfl rfl rfl ?_; intro a72 hE73; clear hE71
     refine c_nil ?_
     have hE74 := hE73.sub (L' := [(19, .bool (decide (yp < xp)))]) ⟨rfl, trivial⟩; clear hE73
     refine p_tn ?_
     refine c_cond hE74 rfl (fun ht75 => ?_) (fun ht75 => ?_)
     ·
      have hp76 := of_decide_eq_true ht75
      have hE77 := hE74; rw [ht75] at hE77; clear hE74
      refine c_seq ?_
      refine c_reg ?_
      refine q_step (v := .int .i64 1) hE77 (y_assign rfl) rfl rfl rfl ?_; intro a78 hE79; clear hE77
      refine c_nil ?_
      have hE80 := hE79.sub (L' := [(4, .int .i64 1)]) ⟨rfl, trivial⟩; clear hE79
      refine p_tn ?_
      refine wp_ret ?_
      refine p_tr ?_
      have hF : F_cmp_Compare xp yp = 1 := by unfold F_cmp_Compare; rw [ht75, ht60, ht47, ht29]; first | done | rfl
      refine c_ret1 hE80 rfl rfl ?_
      exact ⟨(by rw [hF]; first | done | (dsimp only; done) | rfl), rfl⟩
     ·
      have hp81 := of_decide_eq_false ht75
      have hE82 := hE74; rw [ht75] at hE82; clear hE74
      refine wp_skip ?_
      refine p_tn ?_
      refine c_seq ?_
      refine c_reg ?_
      refine q_step (v := .int .i64 0) hE82 (y_assign rfl) rfl rfl rfl ?_; intro a83 hE84; clear hE82
      refine c_nil ?_
      have hE85 := hE84.sub (L' := [(4, .int .i64 0)]) ⟨rfl, trivial⟩; clear hE84
      refine p_tn ?_
      refine wp_ret ?_
      have hF : F_cmp_Compare xp yp = 0 := by unfold F_cmp_Compare; rw [ht75, ht60, ht47, ht29]; first | done | rfl
      refine c_ret1 hE85 rfl rfl ?_
      exact ⟨(by rw [hF]; first | done | (dsimp only; done) | rfl), rfl⟩
def F_z_Compare_L1b (s1 : List Int) (s2 : List Int) (rec : Int → Except (Int) (Int)) (t11 : Int) : Except (Int) (Int) :=
  bif (decide (t11 < (s1.length : Int))) then (bif (decide ((s2.length : Int) ≤ t11)) then (.error 1) else (bif (!decide ((F_cmp_Compare (gI s1 t11) (gI s2 t11)) = 0)) then (.error (F_cmp_Compare (gI s1 t11) (gI s2 t11))) else (rec (t11 + 1)))) else (.ok t11)
def F_z_Compare_L1 (s1 : List Int) (s2 : List Int) : Nat → Int → Except (Int) (Int)
  | 0, t11 => .ok t11
  | r + 1, t11 => F_z_Compare_L1b s1 s2 (F_z_Compare_L1 s1 s2 r) t11
def F_z_Compare (s1 : List Int) (s2 : List Int) : Int :=
  bif (isOk (F_z_Compare_L1 s1 s2 (Int.toNat ((s1.length : Int) - 0) + 1) 0)) then (bif (decide ((s1.length : Int) < (s2.length : Int))) then (-1) else 0) else (errD (F_z_Compare_L1 s1 s2 (Int.toNat ((s1.length : Int) - 0) + 1) 0))
theorem cf_z_Compare (args : Array Value) (w : World) : (callFunc 188 args).run Try.prog w = .ok (.enter 188 args) w := by kernel_rfl
set_option maxRecDepth 100000 in
theorem c_z_Compare (s1A : Option Addr) (s1N s1C : Nat) (s1 : List Int) (s2A : Option Addr) (s2N s2C : Nat) (s2 : List Int) (w : World) (s1R : RdS w 1 s1A s1N s1C s1) (s2R : RdS w 1 s2A s2N s2C s2) :
    Calls Try.prog 188 #[.slice s1A s1N s1C, .slice s2A s2N s2C] w (Ret fun v w' => v = .int .i64 (F_z_Compare s1 s2) ∧ Ext w w') := by
  obtain rfl : s1N = s1.length := s1R.len1.symm
  have s1Le := s1R.le
  obtain rfl : s2N = s2.length := s2R.len1.symm
  have s2Le := s2R.le
  have hS := St.nil w
  have hS1 := St.rd0 hS rfl s1R; clear hS
  have hS2 := St.rd0 hS1 rfl s2R; clear hS1
  refine enter (args := [.slice s1A s1.length s1C, .slice s2A s2.length s2C]) Try.func188 rfl rfl ?_
  rw [Try.ntmps188]; intro a hE
  have hE := hE.sub (L' := [(0, .slice s1A s1.length s1C), (1, .slice s2A s2.length s2C)]) ⟨rfl, rfl, trivial⟩
  refine c_seq ?_
  refine c_reg ?_
  refine q_step (v := .int .i64 0) hE (y_assign rfl) rfl rfl rfl ?_; intro a3 hE4; clear hE
  refine c_nil ?_
  have hE5 := hE4.sub (L' := [(0, .slice s1A s1.length s1C), (1, .slice s2A s2.length s2C)]) ⟨rfl, rfl, trivial⟩; clear hE4
  refine p_tn ?_
  refine c_seq ?_
  refine c_seq ?_
  refine c_reg ?_
  refine q_step (v := .slice s1A s1.length s1C) hE5 (y_move rfl) rfl rfl rfl ?_; intro a6 hE7; clear hE5
  refine q_step (v := .int .i64 (s1.length : Int)) hE7 (y_len (e := 2) (by kernel_rfl) rfl) rfl rfl rfl ?_; intro a8 hE9; clear hE7
  refine q_step (v := .int .i64 0) hE9 (y_move rfl) rfl rfl rfl ?_; intro a10 hE11; clear hE9
  refine c_nil ?_
  have hE12 := hE11.sub (L' := [(0, .slice s1A s1.length s1C), (1, .slice s2A s2.length s2C), (9, .slice s1A s1.length s1C), (10, .int .i64 (s1.length : Int)), (11, .int .i64 0)]) ⟨rfl, rfl, rfl, rfl, rfl, trivial⟩; clear hE11
  refine p_tn ?_
  refine c_cut1 (fun a' w' => isOk (F_z_Compare_L1 s1 s2 (Int.toNat ((s1.length : Int) - 0) + 1) 0) = true ∧ (0 ≤ (okD (F_z_Compare_L1 s1 s2 (Int.toNat ((s1.length : Int) - 0) + 1) 0))) ∧ ((okD (F_z_Compare_L1 s1 s2 (Int.toNat ((s1.length : Int) - 0) + 1) 0)) ≤ (s1.length : Int)) ∧ E a' 36 [(0, .slice s1A s1.length s1C), (1, .slice s2A s2.length s2C), (9, .slice s1A s1.length s1C), (10, .int .i64 (s1.length : Int)), (11, .int .i64 (okD (F_z_Compare_L1 s1 s2 (Int.toNat ((s1.length : Int) - 0) + 1) 0)))] ∧ St w w' [.rd 1 s2A s2.length s2C s2, .rd 1 s1A s1.length s1C s1]) ?_ ?_
  ·
   refine wp_block ?_
   refine c_loop (fun r a' w' => ∃ t11 : Int, F_z_Compare_L1 s1 s2 r t11 = F_z_Compare_L1 s1 s2 (Int.toNat ((s1.length : Int) - 0) + 1) 0 ∧ Int.toNat ((s1.length : Int) - t11) < r ∧ (0 ≤ t11) ∧ (t11 ≤ (s1.length : Int)) ∧ E a' 36 [(0, .slice s1A s1.length s1C), (1, .slice s2A s2.length s2C), (9, .slice s1A s1.length s1C), (10, .int .i64 (s1.length : Int)), (11, .int .i64 t11)] ∧ St w w' [.rd 1 s2A s2.length s2C s2, .rd 1 s1A s1.length s1C s1]) (r := (Int.toNat ((s1.length : Int) - 0) + 1)) ?_ ?_
   · exact ⟨0, rfl, Nat.lt_succ_self _, (by first | omega | (simp only [sS_len, sL_len]; omega) | (simp only [List.length_replicate, sI_len]; omega) | (simp only [List.length_append, List.length_cons, List.length_nil, sI_len, cond_true, cond_false]; omega) | (simp only [List.length_append, List.length_cons, List.length_nil, sI_len, cond_eq_ite, apply_ite List.length]; split <;> simp only [List.length_append, List.length_cons, List.length_nil, sI_len] <;> omega) | grind), (by first | omega | (simp only [sS_len, sL_len]; omega) | (simp only [List.length_replicate, sI_len]; omega) | (simp only [List.length_append, List.length_cons, List.length_nil, sI_len, cond_true, cond_false]; omega) | (simp only [List.length_append, List.length_cons, List.length_nil, sI_len, cond_eq_ite, apply_ite List.length]; split <;> simp only [List.length_append, List.length_cons, List.length_nil, sI_len] <;> omega) | grind), (hE12.sub (L' := [(0, .slice s1A s1.length s1C), (1, .slice s2A s2.length s2C), (9, .slice s1A s1.length s1C), (10, .int .i64 (s1.length : Int)), (11, .int .i64 0)]) ⟨rfl, rfl, rfl, rfl, rfl, trivial⟩), (St.pick (Γ' := [.rd 1 s2A s2.length s2C s2, .rd 1 s1A s1.length s1C s1]) hS2 [0, 1] (by decide) rfl)⟩
   ·
    clear hE12 hS2
    rintro r22 a14 w15 ⟨t11, hT18, hr19, hi20, hi21, hE16, hS17⟩
    obtain ⟨r22, rfl⟩ : ∃ r', r22 = r' + 1 := ⟨r22 - 1, by omega⟩
    refine c_seq ?_
    refine c_reg ?_
    refine q_step (v := .bool (decide (t11 < (s1.length : Int)))) hE16 (y_lss rfl rfl) rfl rfl rfl ?_; intro a23 hE24; clear hE16
    refine c_nil ?_
    have hE25 := hE24.sub (L' := [(0, .slice s1A s1.length s1C), (1, .slice s2A s2.length s2C), (9, .slice s1A s1.length s1C), (10, .int .i64 (s1.length : Int)), (11, .int .i64 t11), (12, .bool (decide (t11 < (s1.length : Int))))]) ⟨rfl, rfl, rfl, rfl, rfl, rfl, trivial⟩; clear hE24
    refine p_tn ?_
    refine c_seq ?_
    refine c_cond hE25 rfl (fun ht26 => ?_) (fun ht26 => ?_)
    ·
     have hp27 := of_decide_eq_true ht26
     have hE28 := hE25; rw [ht26] at hE28; clear hE25
     refine wp_skip ?_
     refine p_tn ?_
     refine c_seq ?_
     refine wp_block ?_
     refine c_seq ?_
     refine c_reg ?_
     refine q_step (v := .int .i64 t11) hE28 (y_move rfl) rfl rfl rfl ?_; intro a29 hE30; clear hE28
     refine q_step (v := .pointer (some (adr s1A (Int.toNat t11)))) hE30 (y_idx (by kernel_rfl) (fun _ => by kernel_rfl) rfl rfl (RdS.isS (m := t11) (St.rdR (i := 1) hS17 rfl) (by omega) (by omega)) (by omega) (by omega) (Nat.mul_one _).symm) rfl rfl rfl ?_; intro a31 hE32; clear hE30
     refine q_step (v := .int .i64 (gI s1 t11)) hE32 (y_load (fun _ => by kernel_rfl) rfl (RdS.elt (St.rdR (i := 1) hS17 rfl) (by omega) (by omega))) rfl rfl rfl ?_; intro a33 hE34; clear hE32
     refine q_step (v := .int .i64 t11) hE34 (y_assign rfl) rfl rfl rfl ?_; intro a35 hE36; clear hE34
     refine q_step (v := .int .i64 (gI s1 t11)) hE36 (y_assign rfl) rfl rfl rfl ?_; intro a37 hE38; clear hE36
     refine c_nil ?_
     have hE39 := hE38.sub (L' := [(0, .slice s1A s1.length s1C), (1, .slice s2A s2.length s2C), (5, .int .i64 t11), (6, .int .i64 (gI s1 t11)), (9, .slice s1A s1.length s1C), (10, .int .i64 (s1.length : Int)), (11, .int .i64 t11)]) ⟨rfl, rfl, rfl, rfl, rfl, rfl, rfl, trivial⟩; clear hE38
     refine p_tn ?_
     refine c_seq ?_
     refine c_seq ?_
     refine c_reg ?_
     refine q_step (v := .int .i64 t11) hE39 (y_move rfl) rfl rfl rfl ?_; intro a40 hE41; clear hE39
     refine q_step (v := .slice s2A s2.length s2C) hE41 (y_move rfl) rfl rfl rfl ?_; intro a42 hE43; clear hE41
     refine q_step (v := .int .i64 (s2.length : Int)) hE43 (y_len (e := 2) (by kernel_rfl) rfl) rfl rfl rfl ?_; intro a44 hE45; clear hE43
     refine q_step (v := .bool (decide ((s2.length : Int) ≤ t11))) hE45 (y_geq rfl rfl) rfl rfl rfl ?_; intro a46 hE47; clear hE45
     refine c_nil ?_
     have hE48 := hE47.sub (L' := [(0, .slice s1A s1.length s1C), (1, .slice s2A s2.length s2C), (5, .int .i64 t11), (6, .int .i64 (gI s1 t11)), (9, .slice s1A s1.length s1C), (10, .int .i64 (s1.length : Int)), (11, .int .i64 t11), (19, .bool (decide ((s2.length : Int) ≤ t11)))]) ⟨rfl, rfl, rfl, rfl, rfl, rfl, rfl, rfl, trivial⟩; clear hE47
     refine p_tn ?_
     refine c_cond hE48 rfl (fun ht49 => ?_) (fun ht49 => ?_)
     ·
      have hp50 := of_decide_eq_true ht49
      have hE51 := hE48; rw [ht49] at hE51; clear hE48
      refine c_seq ?_
      refine c_reg ?_
      refine q_step (v := .int .i64 1) hE51 (y_assign rfl) rfl rfl rfl ?_; intro a52 hE53; clear hE51
      refine c_nil ?_
      have hE54 := hE53.sub (L' := [(4, .int .i64 1)]) ⟨rfl, trivial⟩; clear hE53
      refine p_tn ?_
      refine wp_ret ?_
      refine p_tr ?_
      refine p_br ?_
      refine p_tr ?_
      have hX55 : F_z_Compare_L1 s1 s2 (Int.toNat ((s1.length : Int) - 0) + 1) 0 = .error 1 := hT18.symm.trans (show F_z_Compare_L1b s1 s2 (F_z_Compare_L1 s1 s2 r22) t11 = .error 1 by unfold F_z_Compare_L1b; rw [ht49, ht26]; first | done | rfl)
      refine p_tr (p_br (p_tr ?_))
      refine p_tr ?_
      have hF : F_z_Compare s1 s2 = 1 := by unfold F_z_Compare; rw [hX55]; first | done | rfl
      refine c_ret1 hE54 rfl rfl ?_
      exact ⟨(by rw [hF]; first | done | (dsimp only; done) | rfl), hS17.ext⟩
     ·
      have hp56 := of_decide_eq_false ht49
      have hE57 := hE48; rw [ht49] at hE57; clear hE48
      refine wp_skip ?_
      refine p_tn ?_
      refine c_seq ?_
      refine c_reg ?_
      refine q_step (v := .slice s2A s2.length s2C) hE57 (y_move rfl) rfl rfl rfl ?_; intro a58 hE59; clear hE57
      refine q_step (v := .int .i64 t11) hE59 (y_move rfl) rfl rfl rfl ?_; intro a60 hE61; clear hE59
      refine q_step (v := .pointer (some (adr s2A (Int.toNat t11)))) hE61 (y_idx (by kernel_rfl) (fun _ => by kernel_rfl) rfl rfl (RdS.isS (m := t11) (St.rdR (i := 0) hS17 rfl) (by omega) (by omega)) (by omega) (by omega) (Nat.mul_one _).symm) rfl rfl rfl ?_; intro a62 hE63; clear hE61
      refine q_step (v := .int .i64 (gI s2 t11)) hE63 (y_load (fun _ => by kernel_rfl) rfl (RdS.elt (St.rdR (i := 0) hS17 rfl) (by omega) (by omega))) rfl rfl rfl ?_; intro a64 hE65; clear hE63
      refine q_step (v := .int .i64 (gI s2 t11)) hE65 (y_assign rfl) rfl rfl rfl ?_; intro a66 hE67; clear hE65
      refine c_nil ?_
      have hE68 := hE67.sub (L' := [(0, .slice s1A s1.length s1C), (1, .slice s2A s2.length s2C), (6, .int .i64 (gI s1 t11)), (7, .int .i64 (gI s2 t11)), (9, .slice s1A s1.length s1C), (10, .int .i64 (s1.length : Int)), (11, .int .i64 t11)]) ⟨rfl, rfl, rfl, rfl, rfl, rfl, rfl, trivial⟩; clear hE67
      refine p_tn ?_
      refine c_seq ?_
      refine c_reg ?_
      refine q_step (v := .int .i64 (gI s1 t11)) hE68 (y_move rfl) rfl rfl rfl ?_; intro a69 hE70; clear hE68
      refine q_step (v := .int .i64 (gI s2 t11)) hE70 (y_move rfl) rfl rfl rfl ?_; intro a71 hE72; clear hE70
      refine l_step hE72 rfl (l_call (f := 235) (argv := [.int .i64 (gI s1 t11), .int .i64 (gI s2 t11)]) hE72 (fun _ => cf_cmp_Compare _ _) rfl rfl (c_cmp_Compare (gI s1 t11) (gI s2 t11) w15) ?_)
      rintro _ _ ⟨rfl, rfl⟩ a75 hE76; clear hE72
      refine q_step (v := .int .i64 (F_cmp_Compare (gI s1 t11) (gI s2 t11))) hE76 (y_assign rfl) rfl rfl rfl ?_; intro a79 hE80; clear hE76
      refine c_nil ?_
      have hE81 := hE80.sub (L' := [(0, .slice s1A s1.length s1C), (1, .slice s2A s2.length s2C), (8, .int .i64 (F_cmp_Compare (gI s1 t11) (gI s2 t11))), (9, .slice s1A s1.length s1C), (10, .int .i64 (s1.length : Int)), (11, .int .i64 t11)]) ⟨rfl, rfl, rfl, rfl, rfl, rfl, trivial⟩; clear hE80
      refine p_tn ?_
      refine c_seq ?_
      refine c_reg ?_
      refine q_step (v := .int .i64 (F_cmp_Compare (gI s1 t11) (gI s2 t11))) hE81 (y_move rfl) rfl rfl rfl ?_; intro a82 hE83; clear hE81
      refine q_step (v := .bool (!decide ((F_cmp_Compare (gI s1 t11) (gI s2 t11)) = 0))) hE83 (y_neq rfl rfl) rfl rfl rfl ?_; intro a84 hE85; clear hE83
      refine c_nil ?_
      have hE86 := hE85.sub (L' := [(0, .slice s1A s1.length s1C), (1, .slice s2A s2.length s2C), (8, .int .i64 (F_cmp_Compare (gI s1 t11) (gI s2 t11))), (9, .slice s1A s1.length s1C), (10, .int .i64 (s1.length : Int)), (11, .int .i64 t11), (28, .bool (!decide ((F_cmp_Compare (gI s1 t11) (gI s2 t11)) = 0)))]) ⟨rfl, rfl, rfl, rfl, rfl, rfl, rfl, trivial⟩; clear hE85
      refine p_tn ?_
      refine c_cond hE86 rfl (fun ht87 => ?_) (fun ht87 => ?_)
      ·
       have ht88 := bn_t ht87
       have hp89 := of_decide_eq_false ht88
       have hE90 := hE86; rw [ht87] at hE90; clear hE86
       refine c_seq ?_
       refine c_reg ?_
       refine q_step (v := .int .i64 (F_cmp_Compare (gI s1 t11) (gI s2 t11))) hE90 (y_move rfl) rfl rfl rfl ?_; intro a91 hE92; clear hE90
       refine q_step (v := .int .i64 (F_cmp_Compare (gI s1 t11) (gI s2 t11))) hE92 (y_assign rfl) rfl rfl rfl ?_; intro a93 hE94; clear hE92
       refine c_nil ?_
       have hE95 := hE94.sub (L' := [(4, .int .i64 (F_cmp_Compare (gI s1 t11) (gI s2 t11)))]) ⟨rfl, trivial⟩; clear hE94
       refine p_tn ?_
       refine wp_ret ?_
       refine p_br ?_
       refine p_tr ?_
       have hX96 : F_z_Compare_L1 s1 s2 (Int.toNat ((s1.length : Int) - 0) + 1) 0 = .error (F_cmp_Compare (gI s1 t11) (gI s2 t11)) := hT18.symm.trans (show F_z_Compare_L1b s1 s2 (F_z_Compare_L1 s1 s2 r22) t11 = .error (F_cmp_Compare (gI s1 t11) (gI s2 t11)) by unfold F_z_Compare_L1b; rw [ht87, ht49, ht26]; first | done | rfl)
       refine p_tr (p_br (p_tr ?_))
       refine p_tr ?_
       have hF : F_z_Compare s1 s2 = F_cmp_Compare (gI s1 t11) (gI s2 t11) := by unfold F_z_Compare; rw [hX96]; first | done | rfl
       refine c_ret1 hE95 rfl rfl ?_
       exact ⟨(by rw [hF]; first | done | (dsimp only; done) | rfl), hS17.ext⟩
      ·
       have ht97 := bn_f ht87
       have hp98 := of_decide_eq_true ht97
       have hE99 := hE86; rw [ht87] at hE99; clear hE86
       refine wp_skip ?_
       refine p_bn ?_
       refine p_tn ?_
       refine c_reg ?_
       refine q_step (v := .int .i64 (t11 + 1)) hE99 (y_add rfl rfl ⟨(by omega), (by omega)⟩) rfl rfl rfl ?_; intro a100 hE101; clear hE99
       refine q_step (v := .int .i64 (t11 + 1)) hE101 (y_move rfl) rfl rfl rfl ?_; intro a102 hE103; clear hE101
       refine c_nil ?_
       have hE104 := hE103.sub (L' := [(0, .slice s1A s1.length s1C), (1, .slice s2A s2.length s2C), (9, .slice s1A s1.length s1C), (10, .int .i64 (s1.length : Int)), (11, .int .i64 (t11 + 1))]) ⟨rfl, rfl, rfl, rfl, rfl, trivial⟩; clear hE103
       refine p_tn ⟨r22, Nat.lt_succ_self _, t11 + 1, (hT18.symm.trans (show F_z_Compare_L1b s1 s2 (F_z_Compare_L1 s1 s2 r22) t11 = F_z_Compare_L1 s1 s2 r22 (t11 + 1) by unfold F_z_Compare_L1b; rw [ht87, ht49, ht26]; first | done | rfl)).symm, (by omega), (by first | omega | (simp only [sS_len, sL_len]; omega) | (simp only [List.length_replicate, sI_len]; omega) | (simp only [List.length_append, List.length_cons, List.length_nil, sI_len, cond_true, cond_false]; omega) | (simp only [List.length_append, List.length_cons, List.length_nil, sI_len, cond_eq_ite, apply_ite List.length]; split <;> simp only [List.length_append, List.length_cons, List.length_nil, sI_len] <;> omega) | grind), (by first | omega | (simp only [sS_len, sL_len]; omega) | (simp only [List.length_replicate, sI_len]; omega) | (simp only [List.length_append, List.length_cons, List.length_nil, sI_len, cond_true, cond_false]; omega) | (simp only [List.length_append, List.length_cons, List.length_nil, sI_len, cond_eq_ite, apply_ite List.length]; split <;> simp only [List.length_append, List.length_cons, List.length_nil, sI_len] <;> omega) | grind), (hE104.sub (L' := [(0, .slice s1A s1.length s1C), (1, .slice s2A s2.length s2C), (9, .slice s1A s1.length s1C), (10, .int .i64 (s1.length : Int)), (11, .int .i64 (t11 + 1))]) ⟨rfl, rfl, rfl, rfl, rfl, trivial⟩), (St.pick (Γ' := [.rd 1 s2A s2.length s2C s2, .rd 1 s1A s1.length s1C s1]) hS17 [0, 1] (by decide) rfl)⟩
    ·
     have hp105 := of_decide_eq_false ht26
     have hE106 := hE25; rw [ht26] at hE106; clear hE25
     refine wp_exit ?_
     refine p_te ?_
     have hX107 : F_z_Compare_L1 s1 s2 (Int.toNat ((s1.length : Int) - 0) + 1) 0 = .ok t11 := hT18.symm.trans (show F_z_Compare_L1b s1 s2 (F_z_Compare_L1 s1 s2 r22) t11 = .ok t11 by unfold F_z_Compare_L1b; rw [ht26]; first | done | rfl)
     refine p_te (p_be (p_tn ?_))
     exact ⟨(by rw [hX107]; rfl), (by rw [hX107]; exact (show 0 ≤ t11 from (by first | omega | (simp only [sS_len, sL_len]; omega) | (simp only [List.length_replicate, sI_len]; omega) | (simp only [List.length_append, List.length_cons, List.length_nil, sI_len, cond_true, cond_false]; omega) | (simp only [List.length_append, List.length_cons, List.length_nil, sI_len, cond_eq_ite, apply_ite List.length]; split <;> simp only [List.length_append, List.length_cons, List.length_nil, sI_len] <;> omega) | grind))), (by rw [hX107]; exact (show t11 ≤ (s1.length : Int) from (by first | omega | (simp only [sS_len, sL_len]; omega) | (simp only [List.length_replicate, sI_len]; omega) | (simp only [List.length_append, List.length_cons, List.length_nil, sI_len, cond_true, cond_false]; omega) | (simp only [List.length_append, List.length_cons, List.length_nil, sI_len, cond_eq_ite, apply_ite List.length]; split <;> simp only [List.length_append, List.length_cons, List.length_nil, sI_len] <;> omega) | grind))), (by rw [hX107]; exact (hE106.sub (L' := [(0, .slice s1A s1.length s1C), (1, .slice s2A s2.length s2C), (9, .slice s1A s1.length s1C), (10, .int .i64 (s1.length : Int)), (11, .int .i64 t11)]) ⟨rfl, rfl, rfl, rfl, rfl, trivial⟩)), (St.pick (Γ' := [.rd 1 s2A s2.length s2C s2, .rd 1 s1A s1.length s1C s1]) hS17 [0, 1] (by decide) rfl)⟩
  ·
   rintro a108 w109 ⟨hO112, hi113, hi114, hE110, hS111⟩; clear hE12 hS2
   refine p_tn ?_
   refine c_seq ?_
   refine c_seq ?_
   refine c_reg ?_
   refine q_step (v := .slice s1A s1.length s1C) hE110 (y_move rfl) rfl rfl rfl ?_; intro a115 hE116; clear hE110
   refine q_step (v := .int .i64 (s1.length : Int)) hE116 (y_len (e := 2) (by kernel_rfl) rfl) rfl rfl rfl ?_; intro a117 hE118; clear hE116
   refine q_step (v := .slice s2A s2.length s2C) hE118 (y_move rfl) rfl rfl rfl ?_; intro a119 hE120; clear hE118
   refine q_step (v := .int .i64 (s2.length : Int)) hE120 (y_len (e := 2) (by kernel_rfl) rfl) rfl rfl rfl ?_; intro a121 hE122; clear hE120
   refine q_step (v := .bool (decide ((s1.length : Int) < (s2.length : Int)))) hE122 (y_lss rfl rfl) rfl rfl rfl ?_; intro a123 hE124; clear hE122
   refine c_nil ?_
   have hE125 := hE124.sub (L' := [(35, .bool (decide ((s1.length : Int) < (s2.length : Int))))]) ⟨rfl, trivial⟩; clear hE124
   refine p_tn ?_
   refine c_cond hE125 rfl (fun ht126 => ?_) (fun ht126 => ?_)
   ·
    have hp127 := of_decide_eq_true ht126
    have hE128 := hE125; rw [ht126] at hE128; clear hE125
    refine c_seq ?_
    refine c_reg ?_
    refine q_step (v := .int .i64 (-1)) hE128 (y_assign rfl) rfl rfl rfl ?_; intro a129 hE130; clear hE128
    refine c_nil ?_
    have hE131 := hE130.sub (L' := [(4, .int .i64 (-1))]) ⟨rfl, trivial⟩; clear hE130
    refine p_tn ?_
    refine wp_ret ?_
    refine p_tr ?_
    have hF : F_z_Compare s1 s2 = -1 := by unfold F_z_Compare; rw [ht126, hO112]; first | done | rfl
    refine c_ret1 hE131 rfl rfl ?_
    exact ⟨(by rw [hF]; first | done | (dsimp only; done) | rfl), hS111.ext⟩
   ·
    have hp132 := of_decide_eq_false ht126
    have hE133 := hE125; rw [ht126] at hE133; clear hE125
    refine wp_skip ?_
    refine p_tn ?_
    refine c_seq ?_
    refine c_reg ?_
    refine q_step (v := .int .i64 0) hE133 (y_assign rfl) rfl rfl rfl ?_; intro a134 hE135; clear hE133
    refine c_nil ?_
    have hE136 := hE135.sub (L' := [(4, .int .i64 0)]) ⟨rfl, trivial⟩; clear hE135
    refine p_tn ?_
    refine wp_ret ?_
    have hF : F_z_Compare s1 s2 = 0 := by unfold F_z_Compare; rw [ht126, hO112]; first | done | rfl
    refine c_ret1 hE136 rfl rfl ?_
    exact ⟨(by rw [hF]; first | done | (dsimp only; done) | rfl), hS111.ext⟩
def F_reordered_L1b (order : List Int) (rec : Int → (List Int) → Int × (List Int)) (t18 : Int) (to5 : List Int) : Int × (List Int) :=
  bif (decide (t18 < (order.length : Int))) then (rec (t18 + 1) (sI to5 (gI order t18) t18)) else (t18, to5)
def F_reordered_L1 (order : List Int) : Nat → Int → (List Int) → Int × (List Int)
  | 0, t18, to5 => (t18, to5)
  | r + 1, t18, to5 => F_reordered_L1b order (F_reordered_L1 order r) t18 to5
def F_reordered_L3b (ap : List Int) (order : List Int) (t33L2 : Int) (rec : Int → (List Int) → Int × (List Int)) (t44L3 : Int) (out8L3 : List Int) : Int × (List Int) :=
  bif (decide (t44L3 < ((F_membersOf (gI ap (gI order t33L2))).length : Int))) then (rec (t44L3 + 1) (sI out8L3 t33L2 (orI (gI out8L3 t33L2) (shlI 1 (gI ((F_reordered_L1 order (Int.toNat ((order.length : Int) - 0) + 1) 0 (List.replicate (Int.toNat (order.length : Int)) 0)).2) (gI (F_membersOf (gI ap (gI order t33L2))) t44L3)))))) else (t44L3, out8L3)
def F_reordered_L3 (ap : List Int) (order : List Int) (t33L2 : Int) : Nat → Int → (List Int) → Int × (List Int)
  | 0, t44L3, out8L3 => (t44L3, out8L3)
  | r + 1, t44L3, out8L3 => F_reordered_L3b ap order t33L2 (F_reordered_L3 ap order t33L2 r) t44L3 out8L3
def F_reordered_L2b (ap : List Int) (order : List Int) (rec : Int → (List Int) → Int × (List Int)) (t33L2 : Int) (out8L2 : List Int) : Int × (List Int) :=
  bif (decide (t33L2 < (order.length : Int))) then (rec (t33L2 + 1) ((F_reordered_L3 ap order t33L2 (Int.toNat (((F_membersOf (gI ap (gI order t33L2))).length : Int) - 0) + 1) 0 out8L2).2)) else (t33L2, out8L2)
def F_reordered_L2 (ap : List Int) (order : List Int) : Nat → Int → (List Int) → Int × (List Int)
  | 0, t33L2, out8L2 => (t33L2, out8L2)
  | r + 1, t33L2, out8L2 => F_reordered_L2b ap order (F_reordered_L2 ap order r) t33L2 out8L2
def F_reordered (ap : List Int) (order : List Int) : List Int :=
  (F_reordered_L2 ap order (Int.toNat ((order.length : Int) - 0) + 1) 0 (List.replicate (Int.toNat (order.length : Int)) 0)).2
theorem cf_reordered (args : Array Value) (w : World) : (callFunc 187 args).run Try.prog w = .ok (.enter 187 args) w := by kernel_rfl
set_option maxRecDepth 100000 in
theorem c_reordered (apA : Option Addr) (apN apC : Nat) (ap : List Int) (orderA : Option Addr) (orderN orderC : Nat) (order : List Int) (w : World) (apR : RdS w 1 apA apN apC ap) (orderR : RdS w 1 orderA orderN orderC order) (hl : ap.length ≤ 8) (ho : order.length = ap.length) (hx : ∀ m : Int, 0 ≤ m → m < (order.length : Int) → 0 ≤ gI order m ∧ gI order m < (ap.length : Int)) (hm : ∀ m : Int, 0 ≤ m → m < (ap.length : Int) → 0 ≤ gI ap m ∧ gI ap m ≤ fullI (ap.length : Int)) :
    Calls Try.prog 187 #[.slice apA apN apC, .slice orderA orderN orderC] w (Ret fun v w' => ∃ b1 : Option Addr, ∃ c1 : Nat, v = .slice b1 (F_reordered ap order).length c1 ∧ OwnS w' w.heap.size 2 1 b1 (F_reordered ap order).length c1 (F_reordered ap order) ∧ Ext w w') := by
  obtain rfl : apN = ap.length := apR.len1.symm
  have apLe := apR.le
  obtain rfl : orderN = order.length := orderR.len1.symm
  have orderLe := orderR.le
  have hfb := fullI_bd (n := (ap.length : Int)) (by omega) (by omega)
  have hS := St.nil w
  have hS1 := St.rd0 hS rfl apR; clear hS
  have hS2 := St.rd0 hS1 rfl orderR; clear hS1
  refine enter (args := [.slice apA ap.length apC, .slice orderA order.length orderC]) Try.func187 rfl rfl ?_
  rw [Try.ntmps187]; intro a hE
  have hE := hE.sub (L' := [(0, .slice apA ap.length apC), (1, .slice orderA order.length orderC)]) ⟨rfl, rfl, trivial⟩
  refine c_seq ?_
  refine c_reg ?_
  refine q_step (v := .slice none 0 0) hE (y_assign rfl) rfl rfl rfl ?_; intro a3 hE4; clear hE
  refine c_nil ?_
  have hE5 := hE4.sub (L' := [(0, .slice apA ap.length apC), (1, .slice orderA order.length orderC)]) ⟨rfl, rfl, trivial⟩; clear hE4
  refine p_tn ?_
  refine c_seq ?_
  refine c_reg ?_
  refine q_step (v := .slice orderA order.length orderC) hE5 (y_move rfl) rfl rfl rfl ?_; intro a6 hE7; clear hE5
  refine q_step (v := .int .i64 (order.length : Int)) hE7 (y_len (e := 2) (by kernel_rfl) rfl) rfl rfl rfl ?_; intro a8 hE9; clear hE7
  refine l_step hE9 rfl (l_make (e := 2) (m := (order.length : Int)) hS2 hE9 (by kernel_rfl) (by kernel_rfl) rfl rfl (by omega) (by omega) rfl ?_)
  intro b10 w11 hS14 he15 a12 hE13; clear hS2 hE9
  refine q_step (v := .slice b10 (Int.toNat (order.length : Int)) (Int.toNat (order.length : Int))) hE13 (y_assign rfl) rfl rfl rfl ?_; intro a16 hE17; clear hE13
  refine c_nil ?_
  have hE18 := hE17.sub (L' := [(0, .slice apA ap.length apC), (1, .slice orderA order.length orderC), (5, .slice b10 (Int.toNat (order.length : Int)) (Int.toNat (order.length : Int)))]) ⟨rfl, rfl, rfl, trivial⟩; clear hE17
  refine p_tn ?_
  refine c_seq ?_
  refine c_seq ?_
  refine c_reg ?_
  refine q_step (v := .slice orderA order.length orderC) hE18 (y_move rfl) rfl rfl rfl ?_; intro a19 hE20; clear hE18
  refine q_step (v := .int .i64 (order.length : Int)) hE20 (y_len (e := 2) (by kernel_rfl) rfl) rfl rfl rfl ?_; intro a21 hE22; clear hE20
  refine q_step (v := .int .i64 0) hE22 (y_move rfl) rfl rfl rfl ?_; intro a23 hE24; clear hE22
  refine c_nil ?_
  have hE25 := hE24.sub (L' := [(0, .slice apA ap.length apC), (1, .slice orderA order.length orderC), (5, .slice b10 (Int.toNat (order.length : Int)) (Int.toNat (order.length : Int))), (16, .slice orderA order.length orderC), (17, .int .i64 (order.length : Int)), (18, .int .i64 0)]) ⟨rfl, rfl, rfl, rfl, rfl, rfl, trivial⟩; clear hE24
  refine p_tn ?_
  refine c_cut1 (fun a' w' => (0 ≤ ((F_reordered_L1 order (Int.toNat ((order.length : Int) - 0) + 1) 0 (List.replicate (Int.toNat (order.length : Int)) 0)).1)) ∧ (((F_reordered_L1 order (Int.toNat ((order.length : Int) - 0) + 1) 0 (List.replicate (Int.toNat (order.length : Int)) 0)).2).length = order.length) ∧ (∀ m : Int, 0 ≤ m → m < (((F_reordered_L1 order (Int.toNat ((order.length : Int) - 0) + 1) 0 (List.replicate (Int.toNat (order.length : Int)) 0)).2).length : Int) → 0 ≤ gI ((F_reordered_L1 order (Int.toNat ((order.length : Int) - 0) + 1) 0 (List.replicate (Int.toNat (order.length : Int)) 0)).2) m ∧ gI ((F_reordered_L1 order (Int.toNat ((order.length : Int) - 0) + 1) 0 (List.replicate (Int.toNat (order.length : Int)) 0)).2) m ≤ 8) ∧ (((F_reordered_L1 order (Int.toNat ((order.length : Int) - 0) + 1) 0 (List.replicate (Int.toNat (order.length : Int)) 0)).1) ≤ (order.length : Int)) ∧ E a' 62 [(0, .slice apA ap.length apC), (1, .slice orderA order.length orderC), (5, .slice b10 (Int.toNat (order.length : Int)) (Int.toNat (order.length : Int))), (16, .slice orderA order.length orderC), (17, .int .i64 (order.length : Int)), (18, .int .i64 ((F_reordered_L1 order (Int.toNat ((order.length : Int) - 0) + 1) 0 (List.replicate (Int.toNat (order.length : Int)) 0)).1))] ∧ St w w' [.own 2 1 b10 (Int.toNat (order.length : Int)) (Int.toNat (order.length : Int)) ((F_reordered_L1 order (Int.toNat ((order.length : Int) - 0) + 1) 0 (List.replicate (Int.toNat (order.length : Int)) 0)).2), .rd 1 orderA order.length orderC order, .rd 1 apA ap.length apC ap]) ?_ ?_
  ·
   refine wp_block ?_
   refine c_loop (fun r a' w' => ∃ t18 : Int, ∃ to5 : List Int, F_reordered_L1 order r t18 to5 = F_reordered_L1 order (Int.toNat ((order.length : Int) - 0) + 1) 0 (List.replicate (Int.toNat (order.length : Int)) 0) ∧ Int.toNat ((order.length : Int) - t18) < r ∧ (0 ≤ t18) ∧ (to5.length = order.length) ∧ (∀ m : Int, 0 ≤ m → m < (to5.length : Int) → 0 ≤ gI to5 m ∧ gI to5 m ≤ 8) ∧ (t18 ≤ (order.length : Int)) ∧ E a' 62 [(0, .slice apA ap.length apC), (1, .slice orderA order.length orderC), (5, .slice b10 (Int.toNat (order.length : Int)) (Int.toNat (order.length : Int))), (16, .slice orderA order.length orderC), (17, .int .i64 (order.length : Int)), (18, .int .i64 t18)] ∧ St w w' [.own 2 1 b10 (Int.toNat (order.length : Int)) (Int.toNat (order.length : Int)) to5, .rd 1 orderA order.length orderC order, .rd 1 apA ap.length apC ap]) (r := (Int.toNat ((order.length : Int) - 0) + 1)) ?_ ?_
   · exact ⟨0, List.replicate (Int.toNat (order.length : Int)) 0, rfl, Nat.lt_succ_self _, (by first | omega | (simp only [sS_len, sL_len]; omega) | (simp only [List.length_replicate, sI_len]; omega) | (simp only [List.length_append, List.length_cons, List.length_nil, sI_len, cond_true, cond_false]; omega) | (simp only [List.length_append, List.length_cons, List.length_nil, sI_len, cond_eq_ite, apply_ite List.length]; split <;> simp only [List.length_append, List.length_cons, List.length_nil, sI_len] <;> omega) | grind), (by first | omega | (simp only [sS_len, sL_len]; omega) | (simp only [List.length_replicate, sI_len]; omega) | (simp only [List.length_append, List.length_cons, List.length_nil, sI_len, cond_true, cond_false]; omega) | (simp only [List.length_append, List.length_cons, List.length_nil, sI_len, cond_eq_ite, apply_ite List.length]; split <;> simp only [List.length_append, List.length_cons, List.length_nil, sI_len] <;> omega) | grind), (rng_rep _ _ (by decide)), (by first | omega | (simp only [sS_len, sL_len]; omega) | (simp only [List.length_replicate, sI_len]; omega) | (simp only [List.length_append, List.length_cons, List.length_nil, sI_len, cond_true, cond_false]; omega) | (simp only [List.length_append, List.length_cons, List.length_nil, sI_len, cond_eq_ite, apply_ite List.length]; split <;> simp only [List.length_append, List.length_cons, List.length_nil, sI_len] <;> omega) | grind), (hE25.sub (L' := [(0, .slice apA ap.length apC), (1, .slice orderA order.length orderC), (5, .slice b10 (Int.toNat (order.length : Int)) (Int.toNat (order.length : Int))), (16, .slice orderA order.length orderC), (17, .int .i64 (order.length : Int)), (18, .int .i64 0)]) ⟨rfl, rfl, rfl, rfl, rfl, rfl, trivial⟩), (St.pick (Γ' := [.own 2 1 b10 (Int.toNat (order.length : Int)) (Int.toNat (order.length : Int)) (List.replicate (Int.toNat (order.length : Int)) 0), .rd 1 orderA order.length orderC order, .rd 1 apA ap.length apC ap]) hS14 [0, 1, 2] (by decide) rfl)⟩
   ·
    clear hE25 hS14
    rintro r37 a27 w28 ⟨t18, to5, hT31, hr32, hi33, hi34, hi35, hi36, hE29, hS30⟩
    obtain ⟨r37, rfl⟩ : ∃ r', r37 = r' + 1 := ⟨r37 - 1, by omega⟩
    refine c_seq ?_
    refine c_reg ?_
    refine q_step (v := .bool (decide (t18 < (order.length : Int)))) hE29 (y_lss rfl rfl) rfl rfl rfl ?_; intro a38 hE39; clear hE29
    refine c_nil ?_
    have hE40 := hE39.sub (L' := [(0, .slice apA ap.length apC), (1, .slice orderA order.length orderC), (5, .slice b10 (Int.toNat (order.length : Int)) (Int.toNat (order.length : Int))), (16, .slice orderA order.length orderC), (17, .int .i64 (order.length : Int)), (18, .int .i64 t18), (19, .bool (decide (t18 < (order.length : Int))))]) ⟨rfl, rfl, rfl, rfl, rfl, rfl, rfl, trivial⟩; clear hE39
    refine p_tn ?_
    refine c_seq ?_
    refine c_cond hE40 rfl (fun ht41 => ?_) (fun ht41 => ?_)
    ·
     have hp42 := of_decide_eq_true ht41
     have hE43 := hE40; rw [ht41] at hE43; clear hE40
     have hx1 := hx t18 (by omega) (by omega)
     refine wp_skip ?_
     refine p_tn ?_
     refine c_seq ?_
     refine wp_block ?_
     refine c_seq ?_
     refine c_reg ?_
     refine q_step (v := .int .i64 t18) hE43 (y_move rfl) rfl rfl rfl ?_; intro a44 hE45; clear hE43
     refine q_step (v := .pointer (some (adr orderA (Int.toNat t18)))) hE45 (y_idx (by kernel_rfl) (fun _ => by kernel_rfl) rfl rfl (RdS.isS (m := t18) (St.rdR (i := 1) hS30 rfl) (by omega) (by omega)) (by omega) (by omega) (Nat.mul_one _).symm) rfl rfl rfl ?_; intro a46 hE47; clear hE45
     refine q_step (v := .int .i64 (gI order t18)) hE47 (y_load (fun _ => by kernel_rfl) rfl (RdS.elt (St.rdR (i := 1) hS30 rfl) (by omega) (by omega))) rfl rfl rfl ?_; intro a48 hE49; clear hE47
     refine q_step (v := .int .i64 t18) hE49 (y_assign rfl) rfl rfl rfl ?_; intro a50 hE51; clear hE49
     refine q_step (v := .int .i64 (gI order t18)) hE51 (y_assign rfl) rfl rfl rfl ?_; intro a52 hE53; clear hE51
     refine c_nil ?_
     have hE54 := hE53.sub (L' := [(0, .slice apA ap.length apC), (1, .slice orderA order.length orderC), (5, .slice b10 (Int.toNat (order.length : Int)) (Int.toNat (order.length : Int))), (6, .int .i64 t18), (7, .int .i64 (gI order t18)), (16, .slice orderA order.length orderC), (17, .int .i64 (order.length : Int)), (18, .int .i64 t18)]) ⟨rfl, rfl, rfl, rfl, rfl, rfl, rfl, rfl, trivial⟩; clear hE53
     refine p_tn ?_
     refine c_reg ?_
     refine q_step (v := .slice b10 (Int.toNat (order.length : Int)) (Int.toNat (order.length : Int))) hE54 (y_move rfl) rfl rfl rfl ?_; intro a55 hE56; clear hE54
     refine q_step (v := .int .i64 (gI order t18)) hE56 (y_move rfl) rfl rfl rfl ?_; intro a57 hE58; clear hE56
     refine q_step (v := .int .i64 t18) hE58 (y_move rfl) rfl rfl rfl ?_; intro a59 hE60; clear hE58
     refine q_step (v := .pointer (some (adr b10 (Int.toNat (gI order t18))))) hE60 (y_idx (by kernel_rfl) (fun _ => by kernel_rfl) rfl rfl (RdS.isS (m := gI order t18) (St.rdO (i := 0) hS30 rfl) (by omega) (by omega)) (by omega) (by omega) (Nat.mul_one _).symm) rfl rfl rfl ?_; intro a61 hE62; clear hE60
     refine l_step hE62 rfl (l_store (k := 0) hS30 hE62 (fun _ => by kernel_rfl) rfl rfl rfl (by omega) (by omega) ?_)
     intro w64 hS67 a65 hE66; clear hS30 hE62
     refine c_nil ?_
     have hE69 := hE66.sub (L' := [(0, .slice apA ap.length apC), (1, .slice orderA order.length orderC), (5, .slice b10 (Int.toNat (order.length : Int)) (Int.toNat (order.length : Int))), (16, .slice orderA order.length orderC), (17, .int .i64 (order.length : Int)), (18, .int .i64 t18)]) ⟨rfl, rfl, rfl, rfl, rfl, rfl, trivial⟩; clear hE66
     refine p_bn ?_
     refine p_tn ?_
     refine c_reg ?_
     refine q_step (v := .int .i64 (t18 + 1)) hE69 (y_add rfl rfl ⟨(by omega), (by omega)⟩) rfl rfl rfl ?_; intro a70 hE71; clear hE69
     refine q_step (v := .int .i64 (t18 + 1)) hE71 (y_move rfl) rfl rfl rfl ?_; intro a72 hE73; clear hE71
     refine c_nil ?_
     have hE74 := hE73.sub (L' := [(0, .slice apA ap.length apC), (1, .slice orderA order.length orderC), (5, .slice b10 (Int.toNat (order.length : Int)) (Int.toNat (order.length : Int))), (16, .slice orderA order.length orderC), (17, .int .i64 (order.length : Int)), (18, .int .i64 (t18 + 1))]) ⟨rfl, rfl, rfl, rfl, rfl, rfl, trivial⟩; clear hE73
     refine p_tn ⟨r37, Nat.lt_succ_self _, t18 + 1, sI to5 (gI order t18) t18, (hT31.symm.trans (show F_reordered_L1b order (F_reordered_L1 order r37) t18 to5 = F_reordered_L1 order r37 (t18 + 1) (sI to5 (gI order t18) t18) by unfold F_reordered_L1b; rw [ht41]; first | done | rfl)).symm, (by omega), (by first | omega | (simp only [sS_len, sL_len]; omega) | (simp only [List.length_replicate, sI_len]; omega) | (simp only [List.length_append, List.length_cons, List.length_nil, sI_len, cond_true, cond_false]; omega) | (simp only [List.length_append, List.length_cons, List.length_nil, sI_len, cond_eq_ite, apply_ite List.length]; split <;> simp only [List.length_append, List.length_cons, List.length_nil, sI_len] <;> omega) | grind), (by rw [sI_len]; assumption), (rng_sI (by assumption) (by omega) (by omega)), (by first | omega | (simp only [sS_len, sL_len]; omega) | (simp only [List.length_replicate, sI_len]; omega) | (simp only [List.length_append, List.length_cons, List.length_nil, sI_len, cond_true, cond_false]; omega) | (simp only [List.length_append, List.length_cons, List.length_nil, sI_len, cond_eq_ite, apply_ite List.length]; split <;> simp only [List.length_append, List.length_cons, List.length_nil, sI_len] <;> omega) | grind), (hE74.sub (L' := [(0, .slice apA ap.length apC), (1, .slice orderA order.length orderC), (5, .slice b10 (Int.toNat (order.length : Int)) (Int.toNat (order.length : Int))), (16, .slice orderA order.length orderC), (17, .int .i64 (order.length : Int)), (18, .int .i64 (t18 + 1))]) ⟨rfl, rfl, rfl, rfl, rfl, rfl, trivial⟩), (St.pick (Γ' := [.own 2 1 b10 (Int.toNat (order.length : Int)) (Int.toNat (order.length : Int)) (sI to5 (gI order t18) t18), .rd 1 orderA order.length orderC order, .rd 1 apA ap.length apC ap]) hS67 [0, 1, 2] (by decide) rfl)⟩
    ·
     have hp75 := of_decide_eq_false ht41
     have hE76 := hE40; rw [ht41] at hE76; clear hE40
     refine wp_exit ?_
     refine p_te ?_
     have hX77 : F_reordered_L1 order (Int.toNat ((order.length : Int) - 0) + 1) 0 (List.replicate (Int.toNat (order.length : Int)) 0) = (t18, to5) := hT31.symm.trans (show F_reordered_L1b order (F_reordered_L1 order r37) t18 to5 = (t18, to5) by unfold F_reordered_L1b; rw [ht41]; first | done | rfl)
     refine p_te (p_be (p_tn ?_))
     exact ⟨(by rw [hX77]; exact (show 0 ≤ t18 from (by first | omega | (simp only [sS_len, sL_len]; omega) | (simp only [List.length_replicate, sI_len]; omega) | (simp only [List.length_append, List.length_cons, List.length_nil, sI_len, cond_true, cond_false]; omega) | (simp only [List.length_append, List.length_cons, List.length_nil, sI_len, cond_eq_ite, apply_ite List.length]; split <;> simp only [List.length_append, List.length_cons, List.length_nil, sI_len] <;> omega) | grind))), (by rw [hX77]; exact (show to5.length = order.length from (by first | omega | (simp only [sS_len, sL_len]; omega) | (simp only [List.length_replicate, sI_len]; omega) | (simp only [List.length_append, List.length_cons, List.length_nil, sI_len, cond_true, cond_false]; omega) | (simp only [List.length_append, List.length_cons, List.length_nil, sI_len, cond_eq_ite, apply_ite List.length]; split <;> simp only [List.length_append, List.length_cons, List.length_nil, sI_len] <;> omega) | grind))), (by rw [hX77]; exact (show ∀ m : Int, 0 ≤ m → m < (to5.length : Int) → 0 ≤ gI to5 m ∧ gI to5 m ≤ 8 from (by first | omega | (simp only [sS_len, sL_len]; omega) | (simp only [List.length_replicate, sI_len]; omega) | (simp only [List.length_append, List.length_cons, List.length_nil, sI_len, cond_true, cond_false]; omega) | (simp only [List.length_append, List.length_cons, List.length_nil, sI_len, cond_eq_ite, apply_ite List.length]; split <;> simp only [List.length_append, List.length_cons, List.length_nil, sI_len] <;> omega) | grind))), (by rw [hX77]; exact (show t18 ≤ (order.length : Int) from (by first | omega | (simp only [sS_len, sL_len]; omega) | (simp only [List.length_replicate, sI_len]; omega) | (simp only [List.length_append, List.length_cons, List.length_nil, sI_len, cond_true, cond_false]; omega) | (simp only [List.length_append, List.length_cons, List.length_nil, sI_len, cond_eq_ite, apply_ite List.length]; split <;> simp only [List.length_append, List.length_cons, List.length_nil, sI_len] <;> omega) | grind))), (by rw [hX77]; exact (hE76.sub (L' := [(0, .slice apA ap.length apC), (1, .slice orderA order.length orderC), (5, .slice b10 (Int.toNat (order.length : Int)) (Int.toNat (order.length : Int))), (16, .slice orderA order.length orderC), (17, .int .i64 (order.length : Int)), (18, .int .i64 t18)]) ⟨rfl, rfl, rfl, rfl, rfl, rfl, trivial⟩)), (by rw [hX77]; exact (St.pick (Γ' := [.own 2 1 b10 (Int.toNat (order.length : Int)) (Int.toNat (order.length : Int)) to5, .rd 1 orderA order.length orderC order, .rd 1 apA ap.length apC ap]) hS30 [0, 1, 2] (by decide) rfl))⟩
  ·
   rintro a78 w79 ⟨hi83, hi84, hi85, hi86, hE80, hS81⟩; clear hE25 hS14
   have hto9 := (show ∀ m : Int, 0 ≤ m → m < ((F_reordered_L1 order (Int.toNat ((order.length : Int) - 0) + 1) 0 (List.replicate (Int.toNat (order.length : Int)) 0)).2.length : Int) → 0 ≤ gI (F_reordered_L1 order (Int.toNat ((order.length : Int) - 0) + 1) 0 (List.replicate (Int.toNat (order.length : Int)) 0)).2 m ∧ gI (F_reordered_L1 order (Int.toNat ((order.length : Int) - 0) + 1) 0 (List.replicate (Int.toNat (order.length : Int)) 0)).2 m ≤ 8 by assumption)
   refine p_tn ?_
   refine c_seq ?_
   refine c_reg ?_
   refine q_step (v := .slice orderA order.length orderC) hE80 (y_move rfl) rfl rfl rfl ?_; intro a87 hE88; clear hE80
   refine q_step (v := .int .i64 (order.length : Int)) hE88 (y_len (e := 2) (by kernel_rfl) rfl) rfl rfl rfl ?_; intro a89 hE90; clear hE88
   refine l_step hE90 rfl (l_make (e := 2) (m := (order.length : Int)) hS81 hE90 (by kernel_rfl) (by kernel_rfl) rfl rfl (by omega) (by omega) rfl ?_)
   intro b91 w92 hS95 he96 a93 hE94; clear hS81 hE90
   refine q_step (v := .slice b91 (Int.toNat (order.length : Int)) (Int.toNat (order.length : Int))) hE94 (y_assign rfl) rfl rfl rfl ?_; intro a97 hE98; clear hE94
   refine c_nil ?_
   have hE99 := hE98.sub (L' := [(0, .slice apA ap.length apC), (1, .slice orderA order.length orderC), (5, .slice b10 (Int.toNat (order.length : Int)) (Int.toNat (order.length : Int))), (8, .slice b91 (Int.toNat (order.length : Int)) (Int.toNat (order.length : Int)))]) ⟨rfl, rfl, rfl, rfl, trivial⟩; clear hE98
   refine p_tn ?_
   refine c_seq ?_
   refine c_seq ?_
   refine c_reg ?_
   refine q_step (v := .slice orderA order.length orderC) hE99 (y_move rfl) rfl rfl rfl ?_; intro a100 hE101; clear hE99
   refine q_step (v := .int .i64 (order.length : Int)) hE101 (y_len (e := 2) (by kernel_rfl) rfl) rfl rfl rfl ?_; intro a102 hE103; clear hE101
   refine q_step (v := .int .i64 0) hE103 (y_move rfl) rfl rfl rfl ?_; intro a104 hE105; clear hE103
   refine c_nil ?_
   have hE106 := hE105.sub (L' := [(0, .slice apA ap.length apC), (5, .slice b10 (Int.toNat (order.length : Int)) (Int.toNat (order.length : Int))), (8, .slice b91 (Int.toNat (order.length : Int)) (Int.toNat (order.length : Int))), (31, .slice orderA order.length orderC), (32, .int .i64 (order.length : Int)), (33, .int .i64 0)]) ⟨rfl, rfl, rfl, rfl, rfl, rfl, trivial⟩; clear hE105
   refine p_tn ?_
   refine c_cut1 (fun a' w' => (0 ≤ ((F_reordered_L2 ap order (Int.toNat ((order.length : Int) - 0) + 1) 0 (List.replicate (Int.toNat (order.length : Int)) 0)).1)) ∧ (((F_reordered_L2 ap order (Int.toNat ((order.length : Int) - 0) + 1) 0 (List.replicate (Int.toNat (order.length : Int)) 0)).2).length = order.length) ∧ (((F_reordered_L2 ap order (Int.toNat ((order.length : Int) - 0) + 1) 0 (List.replicate (Int.toNat (order.length : Int)) 0)).1) ≤ (order.length : Int)) ∧ E a' 62 [(0, .slice apA ap.length apC), (5, .slice b10 (Int.toNat (order.length : Int)) (Int.toNat (order.length : Int))), (8, .slice b91 (Int.toNat (order.length : Int)) (Int.toNat (order.length : Int))), (31, .slice orderA order.length orderC), (32, .int .i64 (order.length : Int)), (33, .int .i64 ((F_reordered_L2 ap order (Int.toNat ((order.length : Int) - 0) + 1) 0 (List.replicate (Int.toNat (order.length : Int)) 0)).1))] ∧ St w w' [.own 2 1 b91 (Int.toNat (order.length : Int)) (Int.toNat (order.length : Int)) ((F_reordered_L2 ap order (Int.toNat ((order.length : Int) - 0) + 1) 0 (List.replicate (Int.toNat (order.length : Int)) 0)).2), .own 2 1 b10 (Int.toNat (order.length : Int)) (Int.toNat (order.length : Int)) ((F_reordered_L1 order (Int.toNat ((order.length : Int) - 0) + 1) 0 (List.replicate (Int.toNat (order.length : Int)) 0)).2), .rd 1 orderA order.length orderC order, .rd 1 apA ap.length apC ap]) ?_ ?_
   ·
    refine wp_block ?_
    refine c_loop (fun r a' w' => ∃ t33L2 : Int, ∃ out8L2 : List Int, F_reordered_L2 ap order r t33L2 out8L2 = F_reordered_L2 ap order (Int.toNat ((order.length : Int) - 0) + 1) 0 (List.replicate (Int.toNat (order.length : Int)) 0) ∧ Int.toNat ((order.length : Int) - t33L2) < r ∧ (0 ≤ t33L2) ∧ (out8L2.length = order.length) ∧ (t33L2 ≤ (order.length : Int)) ∧ E a' 62 [(0, .slice apA ap.length apC), (5, .slice b10 (Int.toNat (order.length : Int)) (Int.toNat (order.length : Int))), (8, .slice b91 (Int.toNat (order.length : Int)) (Int.toNat (order.length : Int))), (31, .slice orderA order.length orderC), (32, .int .i64 (order.length : Int)), (33, .int .i64 t33L2)] ∧ St w w' [.own 2 1 b91 (Int.toNat (order.length : Int)) (Int.toNat (order.length : Int)) out8L2, .own 2 1 b10 (Int.toNat (order.length : Int)) (Int.toNat (order.length : Int)) ((F_reordered_L1 order (Int.toNat ((order.length : Int) - 0) + 1) 0 (List.replicate (Int.toNat (order.length : Int)) 0)).2), .rd 1 orderA order.length orderC order, .rd 1 apA ap.length apC ap]) (r := (Int.toNat ((order.length : Int) - 0) + 1)) ?_ ?_
    · exact ⟨0, List.replicate (Int.toNat (order.length : Int)) 0, rfl, Nat.lt_succ_self _, (by first | omega | (simp only [sS_len, sL_len]; omega) | (simp only [List.length_replicate, sI_len]; omega) | (simp only [List.length_append, List.length_cons, List.length_nil, sI_len, cond_true, cond_false]; omega) | (simp only [List.length_append, List.length_cons, List.length_nil, sI_len, cond_eq_ite, apply_ite List.length]; split <;> simp only [List.length_append, List.length_cons, List.length_nil, sI_len] <;> omega) | grind), (by first | omega | (simp only [sS_len, sL_len]; omega) | (simp only [List.length_replicate, sI_len]; omega) | (simp only [List.length_append, List.length_cons, List.length_nil, sI_len, cond_true, cond_false]; omega) | (simp only [List.length_append, List.length_cons, List.length_nil, sI_len, cond_eq_ite, apply_ite List.length]; split <;> simp only [List.length_append, List.length_cons, List.length_nil, sI_len] <;> omega) | grind), (by first | omega | (simp only [sS_len, sL_len]; omega) | (simp only [List.length_replicate, sI_len]; omega) | (simp only [List.length_append, List.length_cons, List.length_nil, sI_len, cond_true, cond_false]; omega) | (simp only [List.length_append, List.length_cons, List.length_nil, sI_len, cond_eq_ite, apply_ite List.length]; split <;> simp only [List.length_append, List.length_cons, List.length_nil, sI_len] <;> omega) | grind), (hE106.sub (L' := [(0, .slice apA ap.length apC), (5, .slice b10 (Int.toNat (order.length : Int)) (Int.toNat (order.length : Int))), (8, .slice b91 (Int.toNat (order.length : Int)) (Int.toNat (order.length : Int))), (31, .slice orderA order.length orderC), (32, .int .i64 (order.length : Int)), (33, .int .i64 0)]) ⟨rfl, rfl, rfl, rfl, rfl, rfl, trivial⟩), (St.pick (Γ' := [.own 2 1 b91 (Int.toNat (order.length : Int)) (Int.toNat (order.length : Int)) (List.replicate (Int.toNat (order.length : Int)) 0), .own 2 1 b10 (Int.toNat (order.length : Int)) (Int.toNat (order.length : Int)) ((F_reordered_L1 order (Int.toNat ((order.length : Int) - 0) + 1) 0 (List.replicate (Int.toNat (order.length : Int)) 0)).2), .rd 1 orderA order.length orderC order, .rd 1 apA ap.length apC ap]) hS95 [0, 1, 2, 3] (by decide) rfl)⟩
    ·
     clear hE106 hS95
     rintro r117 a108 w109 ⟨t33L2, out8L2, hT112, hr113, hi114, hi115, hi116, hE110, hS111⟩
     obtain ⟨r117, rfl⟩ : ∃ r', r117 = r' + 1 := ⟨r117 - 1, by omega⟩
     refine c_seq ?_
     refine c_reg ?_
     refine q_step (v := .bool (decide (t33L2 < (order.length : Int)))) hE110 (y_lss rfl rfl) rfl rfl rfl ?_; intro a118 hE119; clear hE110
     refine c_nil ?_
     have hE120 := hE119.sub (L' := [(0, .slice apA ap.length apC), (5, .slice b10 (Int.toNat (order.length : Int)) (Int.toNat (order.length : Int))), (8, .slice b91 (Int.toNat (order.length : Int)) (Int.toNat (order.length : Int))), (31, .slice orderA order.length orderC), (32, .int .i64 (order.length : Int)), (33, .int .i64 t33L2), (34, .bool (decide (t33L2 < (order.length : Int))))]) ⟨rfl, rfl, rfl, rfl, rfl, rfl, rfl, trivial⟩; clear hE119
     refine p_tn ?_
     refine c_seq ?_
     refine c_cond hE120 rfl (fun ht121 => ?_) (fun ht121 => ?_)
     ·
      have hp122 := of_decide_eq_true ht121
      have hE123 := hE120; rw [ht121] at hE123; clear hE120
      have hx1 := hx t33L2 (by omega) (by omega)
      have hm1 := hm (gI order t33L2) (by omega) (by omega)
      have hml := members_len (mask := gI ap (gI order t33L2)) (n := ap.length) (by omega) hm1.1 hm1.2
      refine wp_skip ?_
      refine p_tn ?_
      refine c_seq ?_
      refine wp_block ?_
      refine c_seq ?_
      refine c_reg ?_
      refine q_step (v := .int .i64 t33L2) hE123 (y_move rfl) rfl rfl rfl ?_; intro a124 hE125; clear hE123
      refine q_step (v := .pointer (some (adr orderA (Int.toNat t33L2)))) hE125 (y_idx (by kernel_rfl) (fun _ => by kernel_rfl) rfl rfl (RdS.isS (m := t33L2) (St.rdR (i := 2) hS111 rfl) (by omega) (by omega)) (by omega) (by omega) (Nat.mul_one _).symm) rfl rfl rfl ?_; intro a126 hE127; clear hE125
      refine q_step (v := .int .i64 (gI order t33L2)) hE127 (y_load (fun _ => by kernel_rfl) rfl (RdS.elt (St.rdR (i := 2) hS111 rfl) (by omega) (by omega))) rfl rfl rfl ?_; intro a128 hE129; clear hE127
      refine q_step (v := .int .i64 t33L2) hE129 (y_assign rfl) rfl rfl rfl ?_; intro a130 hE131; clear hE129
      refine q_step (v := .int .i64 (gI order t33L2)) hE131 (y_assign rfl) rfl rfl rfl ?_; intro a132 hE133; clear hE131
      refine c_nil ?_
      have hE134 := hE133.sub (L' := [(0, .slice apA ap.length apC), (5, .slice b10 (Int.toNat (order.length : Int)) (Int.toNat (order.length : Int))), (8, .slice b91 (Int.toNat (order.length : Int)) (Int.toNat (order.length : Int))), (9, .int .i64 t33L2), (10, .int .i64 (gI order t33L2)), (31, .slice orderA order.length orderC), (32, .int .i64 (order.length : Int)), (33, .int .i64 t33L2)]) ⟨rfl, rfl, rfl, rfl, rfl, rfl, rfl, rfl, trivial⟩; clear hE133
      refine p_tn ?_
      refine c_seq ?_
      refine c_reg ?_
      refine q_step (v := .slice apA ap.length apC) hE134 (y_move rfl) rfl rfl rfl ?_; intro a135 hE136; clear hE134
      refine q_step (v := .int .i64 (gI order t33L2)) hE136 (y_move rfl) rfl rfl rfl ?_; intro a137 hE138; clear hE136
      refine q_step (v := .pointer (some (adr apA (Int.toNat (gI order t33L2))))) hE138 (y_idx (by kernel_rfl) (fun _ => by kernel_rfl) rfl rfl (RdS.isS (m := gI order t33L2) (St.rdR (i := 3) hS111 rfl) (by omega) (by omega)) (by omega) (by omega) (Nat.mul_one _).symm) rfl rfl rfl ?_; intro a139 hE140; clear hE138
      refine q_step (v := .int .i64 (gI ap (gI order t33L2))) hE140 (y_load (fun _ => by kernel_rfl) rfl (RdS.elt (St.rdR (i := 3) hS111 rfl) (by omega) (by omega))) rfl rfl rfl ?_; intro a141 hE142; clear hE140
      refine l_step hE142 rfl (l_call (f := 170) (argv := [.int .i64 (gI ap (gI order t33L2))]) hE142 (fun _ => cf_membersOf _ _) rfl rfl (c_membersOf (gI ap (gI order t33L2)) w109 (by omega) (by omega)) ?_)
      rintro _ w144 ⟨b149, c150, rfl, ho151, he148⟩ a145 hE146; clear hE142
      have hS147 := St.own hS111 he148 ho151; clear hS111
      refine q_step (v := .int .i64 ((F_membersOf (gI ap (gI order t33L2))).length : Int)) hE146 (y_len (e := 2) (by kernel_rfl) rfl) rfl rfl rfl ?_; intro a152 hE153; clear hE146
      refine q_step (v := .int .i64 0) hE153 (y_move rfl) rfl rfl rfl ?_; intro a154 hE155; clear hE153
      refine c_nil ?_
      have hE156 := hE155.sub (L' := [(0, .slice apA ap.length apC), (5, .slice b10 (Int.toNat (order.length : Int)) (Int.toNat (order.length : Int))), (8, .slice b91 (Int.toNat (order.length : Int)) (Int.toNat (order.length : Int))), (9, .int .i64 t33L2), (31, .slice orderA order.length orderC), (32, .int .i64 (order.length : Int)), (33, .int .i64 t33L2), (42, .slice b149 ((F_membersOf (gI ap (gI order t33L2))).length) c150), (43, .int .i64 ((F_membersOf (gI ap (gI order t33L2))).length : Int)), (44, .int .i64 0)]) ⟨rfl, rfl, rfl, rfl, rfl, rfl, rfl, rfl, rfl, rfl, trivial⟩; clear hE155
      refine p_tn ?_
      refine c_cut1 (fun a' w' => (0 ≤ ((F_reordered_L3 ap order t33L2 (Int.toNat (((F_membersOf (gI ap (gI order t33L2))).length : Int) - 0) + 1) 0 out8L2).1)) ∧ (((F_reordered_L3 ap order t33L2 (Int.toNat (((F_membersOf (gI ap (gI order t33L2))).length : Int) - 0) + 1) 0 out8L2).2).length = order.length) ∧ (((F_reordered_L3 ap order t33L2 (Int.toNat (((F_membersOf (gI ap (gI order t33L2))).length : Int) - 0) + 1) 0 out8L2).1) ≤ ((F_membersOf (gI ap (gI order t33L2))).length : Int)) ∧ E a' 62 [(0, .slice apA ap.length apC), (5, .slice b10 (Int.toNat (order.length : Int)) (Int.toNat (order.length : Int))), (8, .slice b91 (Int.toNat (order.length : Int)) (Int.toNat (order.length : Int))), (9, .int .i64 t33L2), (31, .slice orderA order.length orderC), (32, .int .i64 (order.length : Int)), (33, .int .i64 t33L2), (42, .slice b149 ((F_membersOf (gI ap (gI order t33L2))).length) c150), (43, .int .i64 ((F_membersOf (gI ap (gI order t33L2))).length : Int)), (44, .int .i64 ((F_reordered_L3 ap order t33L2 (Int.toNat (((F_membersOf (gI ap (gI order t33L2))).length : Int) - 0) + 1) 0 out8L2).1))] ∧ St w w' [.own 2 1 b149 ((F_membersOf (gI ap (gI order t33L2))).length) c150 (F_membersOf (gI ap (gI order t33L2))), .own 2 1 b91 (Int.toNat (order.length : Int)) (Int.toNat (order.length : Int)) ((F_reordered_L3 ap order t33L2 (Int.toNat (((F_membersOf (gI ap (gI order t33L2))).length : Int) - 0) + 1) 0 out8L2).2), .own 2 1 b10 (Int.toNat (order.length : Int)) (Int.toNat (order.length : Int)) ((F_reordered_L1 order (Int.toNat ((order.length : Int) - 0) + 1) 0 (List.replicate (Int.toNat (order.length : Int)) 0)).2), .rd 1 orderA order.length orderC order, .rd 1 apA ap.length apC ap]) ?_ ?_
      ·
       refine wp_block ?_
       refine c_loop (fun r a' w' => ∃ t44L3 : Int, ∃ out8L3 : List Int, F_reordered_L3 ap order t33L2 r t44L3 out8L3 = F_reordered_L3 ap order t33L2 (Int.toNat (((F_membersOf (gI ap (gI order t33L2))).length : Int) - 0) + 1) 0 out8L2 ∧ Int.toNat (((F_membersOf (gI ap (gI order t33L2))).length : Int) - t44L3) < r ∧ (0 ≤ t44L3) ∧ (out8L3.length = order.length) ∧ (t44L3 ≤ ((F_membersOf (gI ap (gI order t33L2))).length : Int)) ∧ E a' 62 [(0, .slice apA ap.length apC), (5, .slice b10 (Int.toNat (order.length : Int)) (Int.toNat (order.length : Int))), (8, .slice b91 (Int.toNat (order.length : Int)) (Int.toNat (order.length : Int))), (9, .int .i64 t33L2), (31, .slice orderA order.length orderC), (32, .int .i64 (order.length : Int)), (33, .int .i64 t33L2), (42, .slice b149 ((F_membersOf (gI ap (gI order t33L2))).length) c150), (43, .int .i64 ((F_membersOf (gI ap (gI order t33L2))).length : Int)), (44, .int .i64 t44L3)] ∧ St w w' [.own 2 1 b149 ((F_membersOf (gI ap (gI order t33L2))).length) c150 (F_membersOf (gI ap (gI order t33L2))), .own 2 1 b91 (Int.toNat (order.length : Int)) (Int.toNat (order.length : Int)) out8L3, .own 2 1 b10 (Int.toNat (order.length : Int)) (Int.toNat (order.length : Int)) ((F_reordered_L1 order (Int.toNat ((order.length : Int) - 0) + 1) 0 (List.replicate (Int.toNat (order.length : Int)) 0)).2), .rd 1 orderA order.length orderC order, .rd 1 apA ap.length apC ap]) (r := (Int.toNat (((F_membersOf (gI ap (gI order t33L2))).length : Int) - 0) + 1)) ?_ ?_
       · exact ⟨0, out8L2, rfl, Nat.lt_succ_self _, (by first | omega | (simp only [sS_len, sL_len]; omega) | (simp only [List.length_replicate, sI_len]; omega) | (simp only [List.length_append, List.length_cons, List.length_nil, sI_len, cond_true, cond_false]; omega) | (simp only [List.length_append, List.length_cons, List.length_nil, sI_len, cond_eq_ite, apply_ite List.length]; split <;> simp only [List.length_append, List.length_cons, List.length_nil, sI_len] <;> omega) | grind), (by first | omega | (simp only [sS_len, sL_len]; omega) | (simp only [List.length_replicate, sI_len]; omega) | (simp only [List.length_append, List.length_cons, List.length_nil, sI_len, cond_true, cond_false]; omega) | (simp only [List.length_append, List.length_cons, List.length_nil, sI_len, cond_eq_ite, apply_ite List.length]; split <;> simp only [List.length_append, List.length_cons, List.length_nil, sI_len] <;> omega) | grind), (by first | omega | (simp only [sS_len, sL_len]; omega) | (simp only [List.length_replicate, sI_len]; omega) | (simp only [List.length_append, List.length_cons, List.length_nil, sI_len, cond_true, cond_false]; omega) | (simp only [List.length_append, List.length_cons, List.length_nil, sI_len, cond_eq_ite, apply_ite List.length]; split <;> simp only [List.length_append, List.length_cons, List.length_nil, sI_len] <;> omega) | grind), (hE156.sub (L' := [(0, .slice apA ap.length apC), (5, .slice b10 (Int.toNat (order.length : Int)) (Int.toNat (order.length : Int))), (8, .slice b91 (Int.toNat (order.length : Int)) (Int.toNat (order.length : Int))), (9, .int .i64 t33L2), (31, .slice orderA order.length orderC), (32, .int .i64 (order.length : Int)), (33, .int .i64 t33L2), (42, .slice b149 ((F_membersOf (gI ap (gI order t33L2))).length) c150), (43, .int .i64 ((F_membersOf (gI ap (gI order t33L2))).length : Int)), (44, .int .i64 0)]) ⟨rfl, rfl, rfl, rfl, rfl, rfl, rfl, rfl, rfl, rfl, trivial⟩), (St.pick (Γ' := [.own 2 1 b149 ((F_membersOf (gI ap (gI order t33L2))).length) c150 (F_membersOf (gI ap (gI order t33L2))), .own 2 1 b91 (Int.toNat (order.length : Int)) (Int.toNat (order.length : Int)) out8L2, .own 2 1 b10 (Int.toNat (order.length : Int)) (Int.toNat (order.length : Int)) ((F_reordered_L1 order (Int.toNat ((order.length : Int) - 0) + 1) 0 (List.replicate (Int.toNat (order.length : Int)) 0)).2), .rd 1 orderA order.length orderC order, .rd 1 apA ap.length apC ap]) hS147 [0, 1, 2, 3, 4] (by decide) rfl)⟩
       ·
        clear hE156 hS147
        rintro r167 a158 w159 ⟨t44L3, out8L3, hT162, hr163, hi164, hi165, hi166, hE160, hS161⟩
        obtain ⟨r167, rfl⟩ : ∃ r', r167 = r' + 1 := ⟨r167 - 1, by omega⟩
        refine c_seq ?_
        refine c_reg ?_
        refine q_step (v := .bool (decide (t44L3 < ((F_membersOf (gI ap (gI order t33L2))).length : Int)))) hE160 (y_lss rfl rfl) rfl rfl rfl ?_; intro a168 hE169; clear hE160
        refine c_nil ?_
        have hE170 := hE169.sub (L' := [(0, .slice apA ap.length apC), (5, .slice b10 (Int.toNat (order.length : Int)) (Int.toNat (order.length : Int))), (8, .slice b91 (Int.toNat (order.length : Int)) (Int.toNat (order.length : Int))), (9, .int .i64 t33L2), (31, .slice orderA order.length orderC), (32, .int .i64 (order.length : Int)), (33, .int .i64 t33L2), (42, .slice b149 ((F_membersOf (gI ap (gI order t33L2))).length) c150), (43, .int .i64 ((F_membersOf (gI ap (gI order t33L2))).length : Int)), (44, .int .i64 t44L3), (45, .bool (decide (t44L3 < ((F_membersOf (gI ap (gI order t33L2))).length : Int))))]) ⟨rfl, rfl, rfl, rfl, rfl, rfl, rfl, rfl, rfl, rfl, rfl, trivial⟩; clear hE169
        refine p_tn ?_
        refine c_seq ?_
        refine c_cond hE170 rfl (fun ht171 => ?_) (fun ht171 => ?_)
        ·
         have hp172 := of_decide_eq_true ht171
         have hE173 := hE170; rw [ht171] at hE173; clear hE170
         have hy1 := members_lt (mask := gI ap (gI order t33L2)) (n := ap.length) (by omega) hm1.1 hm1.2 t44L3 (by omega) (by omega)
         have hto := hto9 (gI (F_membersOf (gI ap (gI order t33L2))) t44L3) (by omega) (by omega)
         refine wp_skip ?_
         refine p_tn ?_
         refine c_seq ?_
         refine wp_block ?_
         refine c_seq ?_
         refine c_reg ?_
         refine q_step (v := .pointer (some (adr b149 (Int.toNat t44L3)))) hE173 (y_idx (by kernel_rfl) (fun _ => by kernel_rfl) rfl rfl (RdS.isS (m := t44L3) (St.rdO (i := 0) hS161 rfl) (by omega) (by omega)) (by omega) (by omega) (Nat.mul_one _).symm) rfl rfl rfl ?_; intro a174 hE175; clear hE173
         refine q_step (v := .int .i64 (gI (F_membersOf (gI ap (gI order t33L2))) t44L3)) hE175 (y_load (fun _ => by kernel_rfl) rfl (RdS.elt (St.rdO (i := 0) hS161 rfl) (by omega) (by omega))) rfl rfl rfl ?_; intro a176 hE177; clear hE175
         refine q_step (v := .int .i64 (gI (F_membersOf (gI ap (gI order t33L2))) t44L3)) hE177 (y_assign rfl) rfl rfl rfl ?_; intro a178 hE179; clear hE177
         refine c_nil ?_
         have hE180 := hE179.sub (L' := [(0, .slice apA ap.length apC), (5, .slice b10 (Int.toNat (order.length : Int)) (Int.toNat (order.length : Int))), (8, .slice b91 (Int.toNat (order.length : Int)) (Int.toNat (order.length : Int))), (9, .int .i64 t33L2), (12, .int .i64 (gI (F_membersOf (gI ap (gI order t33L2))) t44L3)), (31, .slice orderA order.length orderC), (32, .int .i64 (order.length : Int)), (33, .int .i64 t33L2), (42, .slice b149 ((F_membersOf (gI ap (gI order t33L2))).length) c150), (43, .int .i64 ((F_membersOf (gI ap (gI order t33L2))).length : Int)), (44, .int .i64 t44L3)]) ⟨rfl, rfl, rfl, rfl, rfl, rfl, rfl, rfl, rfl, rfl, rfl, trivial⟩; clear hE179
         refine p_tn ?_
         refine d_start (fun w w' => (fun w' => w'.cell? (adr b91 (Int.toNat t33L2)) = some (.int .i64 (gI out8L3 t33L2)) ∧ w'.cell? (adr b10 (Int.toNat (gI (F_membersOf (gI ap (gI order t33L2))) t44L3))) = some (.int .i64 (gI ((F_reordered_L1 order (Int.toNat ((order.length : Int) - 0) + 1) 0 (List.replicate (Int.toNat (order.length : Int)) 0)).2) (gI (F_membersOf (gI ap (gI order t33L2))) t44L3))) ∧ True) w → (fun w' => w'.cell? (adr b91 (Int.toNat t33L2)) = some (.int .i64 (gI out8L3 t33L2)) ∧ w'.cell? (adr b10 (Int.toNat (gI (F_membersOf (gI ap (gI order t33L2))) t44L3))) = some (.int .i64 (gI ((F_reordered_L1 order (Int.toNat ((order.length : Int) - 0) + 1) 0 (List.replicate (Int.toNat (order.length : Int)) 0)).2) (gI (F_membersOf (gI ap (gI order t33L2))) t44L3))) ∧ True) w') [3, 7] 12 (by kernel_rfl) rfl ?_
         intro w181 he182; have hS183 := St.go hS161 he182; clear hS161
         refine d_pure (fun _ h => h) (v := .slice b91 (Int.toNat (order.length : Int)) (Int.toNat (order.length : Int))) 0 rfl hE180 (y_move rfl) rfl (by kernel_rfl) (by kernel_rfl) (by kernel_rfl) rfl rfl (fun _ _ _ h => h) ?_; intro a184 hE185; clear hE180
         refine d_pure (fun _ h => h) (v := .int .i64 t33L2) 1 rfl hE185 (y_move rfl) rfl (by kernel_rfl) (by kernel_rfl) (by kernel_rfl) rfl rfl (fun _ _ _ h => h) ?_; intro a186 hE187; clear hE185
         refine d_pure (fun _ h => h) (v := .pointer (some (adr b91 (Int.toNat t33L2)))) 2 rfl hE187 (y_idx (by kernel_rfl) (fun _ => by kernel_rfl) rfl rfl (RdS.isS (m := t33L2) (St.rdO (i := 1) hS183 rfl) (by omega) (by omega)) (by omega) (by omega) (Nat.mul_one _).symm) rfl (by kernel_rfl) (by kernel_rfl) (by kernel_rfl) rfl rfl (fun _ _ _ h => h) ?_; intro a188 hE189; clear hE187
         refine d_take (fun _ h => h) (fun _ _ h k => h k) (v := .int .i64 (gI out8L3 t33L2)) 3 rfl hE189 (S := fun w' => w'.cell? (adr b91 (Int.toNat t33L2)) = some (.int .i64 (gI out8L3 t33L2)) ∧ w'.cell? (adr b10 (Int.toNat (gI (F_membersOf (gI ap (gI order t33L2))) t44L3))) = some (.int .i64 (gI ((F_reordered_L1 order (Int.toNat ((order.length : Int) - 0) + 1) 0 (List.replicate (Int.toNat (order.length : Int)) 0)).2) (gI (F_membersOf (gI ap (gI order t33L2))) t44L3))) ∧ True) ⟨(RdS.elt (St.rdO (i := 1) hS183 rfl) (by omega) (by omega) _ (Ext.refl _)), (RdS.elt (St.rdO (i := 2) hS183 rfl) (by omega) (by omega) _ (Ext.refl _)), trivial⟩ (y_load (fun _ => by kernel_rfl) rfl (fun _ h => h.1)) rfl rfl (by kernel_rfl) (by kernel_rfl) (by kernel_rfl) (by kernel_rfl) rfl rfl (fun _ _ _ h => h) ?_; intro a190 hE191; clear hE189
         refine d_pure (fun _ h => h) (v := .slice b10 (Int.toNat (order.length : Int)) (Int.toNat (order.length : Int))) 4 rfl hE191 (y_move rfl) rfl (by kernel_rfl) (by kernel_rfl) (by kernel_rfl) rfl rfl (fun _ _ _ h => h) ?_; intro a192 hE193; clear hE191
         refine d_pure (fun _ h => h) (v := .int .i64 (gI (F_membersOf (gI ap (gI order t33L2))) t44L3)) 5 rfl hE193 (y_move rfl) rfl (by kernel_rfl) (by kernel_rfl) (by kernel_rfl) rfl rfl (fun _ _ _ h => h) ?_; intro a194 hE195; clear hE193
         refine d_pure (fun _ h => h) (v := .pointer (some (adr b10 (Int.toNat (gI (F_membersOf (gI ap (gI order t33L2))) t44L3))))) 6 rfl hE195 (y_idx (by kernel_rfl) (fun _ => by kernel_rfl) rfl rfl (RdS.isS (m := gI (F_membersOf (gI ap (gI order t33L2))) t44L3) (St.rdO (i := 2) hS183 rfl) (by omega) (by omega)) (by omega) (by omega) (Nat.mul_one _).symm) rfl (by kernel_rfl) (by kernel_rfl) (by kernel_rfl) rfl rfl (fun _ _ _ h => h) ?_; intro a196 hE197; clear hE195
         refine d_take (fun _ h => h) (fun _ _ h k => h k) (v := .int .i64 (gI ((F_reordered_L1 order (Int.toNat ((order.length : Int) - 0) + 1) 0 (List.replicate (Int.toNat (order.length : Int)) 0)).2) (gI (F_membersOf (gI ap (gI order t33L2))) t44L3))) 7 rfl hE197 (S := fun w' => w'.cell? (adr b91 (Int.toNat t33L2)) = some (.int .i64 (gI out8L3 t33L2)) ∧ w'.cell? (adr b10 (Int.toNat (gI (F_membersOf (gI ap (gI order t33L2))) t44L3))) = some (.int .i64 (gI ((F_reordered_L1 order (Int.toNat ((order.length : Int) - 0) + 1) 0 (List.replicate (Int.toNat (order.length : Int)) 0)).2) (gI (F_membersOf (gI ap (gI order t33L2))) t44L3))) ∧ True) ⟨(RdS.elt (St.rdO (i := 1) hS183 rfl) (by omega) (by omega) _ (Ext.refl _)), (RdS.elt (St.rdO (i := 2) hS183 rfl) (by omega) (by omega) _ (Ext.refl _)), trivial⟩ (y_load (fun _ => by kernel_rfl) rfl (fun _ h => h.2.1)) rfl rfl (by kernel_rfl) (by kernel_rfl) (by kernel_rfl) (by kernel_rfl) rfl rfl (fun _ _ _ h => h) ?_; intro a198 hE199; clear hE197
         refine d_pure (fun _ h => h) (v := .int .i64 (shlI 1 (gI ((F_reordered_L1 order (Int.toNat ((order.length : Int) - 0) + 1) 0 (List.replicate (Int.toNat (order.length : Int)) 0)).2) (gI (F_membersOf (gI ap (gI order t33L2))) t44L3)))) 8 rfl hE199 (y_shl rfl rfl (by omega)) rfl (by kernel_rfl) (by kernel_rfl) (by kernel_rfl) rfl rfl (fun _ _ _ h => h) ?_; intro a200 hE201; clear hE199
         refine d_pure (fun _ h => h) (v := .int .i64 (orI (gI out8L3 t33L2) (shlI 1 (gI ((F_reordered_L1 order (Int.toNat ((order.length : Int) - 0) + 1) 0 (List.replicate (Int.toNat (order.length : Int)) 0)).2) (gI (F_membersOf (gI ap (gI order t33L2))) t44L3))))) 9 rfl hE201 (y_or rfl rfl) rfl (by kernel_rfl) (by kernel_rfl) (by kernel_rfl) rfl rfl (fun _ _ _ h => h) ?_; intro a202 hE203; clear hE201
         refine d_pure (fun _ h => h) (v := .pointer (some (adr b91 (Int.toNat t33L2)))) 10 rfl hE203 (y_idx (by kernel_rfl) (fun _ => by kernel_rfl) rfl rfl (RdS.isS (m := t33L2) (St.rdO (i := 1) hS183 rfl) (by omega) (by omega)) (by omega) (by omega) (Nat.mul_one _).symm) rfl (by kernel_rfl) (by kernel_rfl) (by kernel_rfl) rfl rfl (fun _ _ _ h => h) ?_; intro a204 hE205; clear hE203
         refine d_only 11 (by kernel_rfl) rfl hE205 rfl (l_store (k := 1) hS183 hE205 (fun _ => by kernel_rfl) rfl rfl rfl (by omega) (by omega) ?_)
         intro w207 hS210 a208 hE209; clear hS183 hE205
         refine ⟨fun h => Bool.noConfusion (h.symm.trans (show exm _ _ _ = true by kernel_rfl)), ?_⟩
         refine d_done (by kernel_rfl) ?_
         have hE212 := hE209.sub (L' := [(0, .slice apA ap.length apC), (5, .slice b10 (Int.toNat (order.length : Int)) (Int.toNat (order.length : Int))), (8, .slice b91 (Int.toNat (order.length : Int)) (Int.toNat (order.length : Int))), (9, .int .i64 t33L2), (31, .slice orderA order.length orderC), (32, .int .i64 (order.length : Int)), (33, .int .i64 t33L2), (42, .slice b149 ((F_membersOf (gI ap (gI order t33L2))).length) c150), (43, .int .i64 ((F_membersOf (gI ap (gI order t33L2))).length : Int)), (44, .int .i64 t44L3)]) ⟨rfl, rfl, rfl, rfl, rfl, rfl, rfl, rfl, rfl, rfl, trivial⟩; clear hE209
         refine p_bn ?_
         refine p_tn ?_
         refine c_reg ?_
         refine q_step (v := .int .i64 (t44L3 + 1)) hE212 (y_add rfl rfl ⟨(by omega), (by omega)⟩) rfl rfl rfl ?_; intro a213 hE214; clear hE212
         refine q_step (v := .int .i64 (t44L3 + 1)) hE214 (y_move rfl) rfl rfl rfl ?_; intro a215 hE216; clear hE214
         refine c_nil ?_
         have hE217 := hE216.sub (L' := [(0, .slice apA ap.length apC), (5, .slice b10 (Int.toNat (order.length : Int)) (Int.toNat (order.length : Int))), (8, .slice b91 (Int.toNat (order.length : Int)) (Int.toNat (order.length : Int))), (9, .int .i64 t33L2), (31, .slice orderA order.length orderC), (32, .int .i64 (order.length : Int)), (33, .int .i64 t33L2), (42, .slice b149 ((F_membersOf (gI ap (gI order t33L2))).length) c150), (43, .int .i64 ((F_membersOf (gI ap (gI order t33L2))).length : Int)), (44, .int .i64 (t44L3 + 1))]) ⟨rfl, rfl, rfl, rfl, rfl, rfl, rfl, rfl, rfl, rfl, trivial⟩; clear hE216
         refine p_tn ⟨r167, Nat.lt_succ_self _, t44L3 + 1, sI out8L3 t33L2 (orI (gI out8L3 t33L2) (shlI 1 (gI ((F_reordered_L1 order (Int.toNat ((order.length : Int) - 0) + 1) 0 (List.replicate (Int.toNat (order.length : Int)) 0)).2) (gI (F_membersOf (gI ap (gI order t33L2))) t44L3)))), (hT162.symm.trans (show F_reordered_L3b ap order t33L2 (F_reordered_L3 ap order t33L2 r167) t44L3 out8L3 = F_reordered_L3 ap order t33L2 r167 (t44L3 + 1) (sI out8L3 t33L2 (orI (gI out8L3 t33L2) (shlI 1 (gI ((F_reordered_L1 order (Int.toNat ((order.length : Int) - 0) + 1) 0 (List.replicate (Int.toNat (order.length : Int)) 0)).2) (gI (F_membersOf (gI ap (gI order t33L2))) t44L3))))) by unfold F_reordered_L3b; rw [ht171]; first | done | rfl)).symm, (by omega), (by first | omega | (simp only [sS_len, sL_len]; omega) | (simp only [List.length_replicate, sI_len]; omega) | (simp only [List.length_append, List.length_cons, List.length_nil, sI_len, cond_true, cond_false]; omega) | (simp only [List.length_append, List.length_cons, List.length_nil, sI_len, cond_eq_ite, apply_ite List.length]; split <;> simp only [List.length_append, List.length_cons, List.length_nil, sI_len] <;> omega) | grind), (by rw [sI_len]; assumption), (by first | omega | (simp only [sS_len, sL_len]; omega) | (simp only [List.length_replicate, sI_len]; omega) | (simp only [List.length_append, List.length_cons, List.length_nil, sI_len, cond_true, cond_false]; omega) | (simp only [List.length_append, List.length_cons, List.length_nil, sI_len, cond_eq_ite, apply_ite List.length]; split <;> simp only [List.length_append, List.length_cons, List.length_nil, sI_len] <;> omega) | grind), (hE217.sub (L' := [(0, .slice apA ap.length apC), (5, .slice b10 (Int.toNat (order.length : Int)) (Int.toNat (order.length : Int))), (8, .slice b91 (Int.toNat (order.length : Int)) (Int.toNat (order.length : Int))), (9, .int .i64 t33L2), (31, .slice orderA order.length orderC), (32, .int .i64 (order.length : Int)), (33, .int .i64 t33L2), (42, .slice b149 ((F_membersOf (gI ap (gI order t33L2))).length) c150), (43, .int .i64 ((F_membersOf (gI ap (gI order t33L2))).length : Int)), (44, .int .i64 (t44L3 + 1))]) ⟨rfl, rfl, rfl, rfl, rfl, rfl, rfl, rfl, rfl, rfl, trivial⟩), (St.pick (Γ' := [.own 2 1 b149 ((F_membersOf (gI ap (gI order t33L2))).length) c150 (F_membersOf (gI ap (gI order t33L2))), .own 2 1 b91 (Int.toNat (order.length : Int)) (Int.toNat (order.length : Int)) (sI out8L3 t33L2 (orI (gI out8L3 t33L2) (shlI 1 (gI ((F_reordered_L1 order (Int.toNat ((order.length : Int) - 0) + 1) 0 (List.replicate (Int.toNat (order.length : Int)) 0)).2) (gI (F_membersOf (gI ap (gI order t33L2))) t44L3))))), .own 2 1 b10 (Int.toNat (order.length : Int)) (Int.toNat (order.length : Int)) ((F_reordered_L1 order (Int.toNat ((order.length : Int) - 0) + 1) 0 (List.replicate (Int.toNat (order.length : Int)) 0)).2), .rd 1 orderA order.length orderC order, .rd 1 apA ap.length apC ap]) hS210 [0, 1, 2, 3, 4] (by decide) rfl)⟩
        ·
         have hp218 := of_decide_eq_false ht171
         have hE219 := hE170; rw [ht171] at hE219; clear hE170
         refine wp_exit ?_
         refine p_te ?_
         have hX220 : F_reordered_L3 ap order t33L2 (Int.toNat (((F_membersOf (gI ap (gI order t33L2))).length : Int) - 0) + 1) 0 out8L2 = (t44L3, out8L3) := hT162.symm.trans (show F_reordered_L3b ap order t33L2 (F_reordered_L3 ap order t33L2 r167) t44L3 out8L3 = (t44L3, out8L3) by unfold F_reordered_L3b; rw [ht171]; first | done | rfl)
         refine p_te (p_be (p_tn ?_))
         exact ⟨(by rw [hX220]; exact (show 0 ≤ t44L3 from (by first | omega | (simp only [sS_len, sL_len]; omega) | (simp only [List.length_replicate, sI_len]; omega) | (simp only [List.length_append, List.length_cons, List.length_nil, sI_len, cond_true, cond_false]; omega) | (simp only [List.length_append, List.length_cons, List.length_nil, sI_len, cond_eq_ite, apply_ite List.length]; split <;> simp only [List.length_append, List.length_cons, List.length_nil, sI_len] <;> omega) | grind))), (by rw [hX220]; exact (show out8L3.length = order.length from (by first | omega | (simp only [sS_len, sL_len]; omega) | (simp only [List.length_replicate, sI_len]; omega) | (simp only [List.length_append, List.length_cons, List.length_nil, sI_len, cond_true, cond_false]; omega) | (simp only [List.length_append, List.length_cons, List.length_nil, sI_len, cond_eq_ite, apply_ite List.length]; split <;> simp only [List.length_append, List.length_cons, List.length_nil, sI_len] <;> omega) | grind))), (by rw [hX220]; exact (show t44L3 ≤ ((F_membersOf (gI ap (gI order t33L2))).length : Int) from (by first | omega | (simp only [sS_len, sL_len]; omega) | (simp only [List.length_replicate, sI_len]; omega) | (simp only [List.length_append, List.length_cons, List.length_nil, sI_len, cond_true, cond_false]; omega) | (simp only [List.length_append, List.length_cons, List.length_nil, sI_len, cond_eq_ite, apply_ite List.length]; split <;> simp only [List.length_append, List.length_cons, List.length_nil, sI_len] <;> omega) | grind))), (by rw [hX220]; exact (hE219.sub (L' := [(0, .slice apA ap.length apC), (5, .slice b10 (Int.toNat (order.length : Int)) (Int.toNat (order.length : Int))), (8, .slice b91 (Int.toNat (order.length : Int)) (Int.toNat (order.length : Int))), (9, .int .i64 t33L2), (31, .slice orderA order.length orderC), (32, .int .i64 (order.length : Int)), (33, .int .i64 t33L2), (42, .slice b149 ((F_membersOf (gI ap (gI order t33L2))).length) c150), (43, .int .i64 ((F_membersOf (gI ap (gI order t33L2))).length : Int)), (44, .int .i64 t44L3)]) ⟨rfl, rfl, rfl, rfl, rfl, rfl, rfl, rfl, rfl, rfl, trivial⟩)), (by rw [hX220]; exact (St.pick (Γ' := [.own 2 1 b149 ((F_membersOf (gI ap (gI order t33L2))).length) c150 (F_membersOf (gI ap (gI order t33L2))), .own 2 1 b91 (Int.toNat (order.length : Int)) (Int.toNat (order.length : Int)) out8L3, .own 2 1 b10 (Int.toNat (order.length : Int)) (Int.toNat (order.length : Int)) ((F_reordered_L1 order (Int.toNat ((order.length : Int) - 0) + 1) 0 (List.replicate (Int.toNat (order.length : Int)) 0)).2), .rd 1 orderA order.length orderC order, .rd 1 apA ap.length apC ap]) hS161 [0, 1, 2, 3, 4] (by decide) rfl))⟩
      ·
       rintro a221 w222 ⟨hi226, hi227, hi228, hE223, hS224⟩; clear hE156 hS147
       refine p_bn ?_
       refine p_tn ?_
       refine c_reg ?_
       refine q_step (v := .int .i64 (t33L2 + 1)) hE223 (y_add rfl rfl ⟨(by omega), (by omega)⟩) rfl rfl rfl ?_; intro a229 hE230; clear hE223
       refine q_step (v := .int .i64 (t33L2 + 1)) hE230 (y_move rfl) rfl rfl rfl ?_; intro a231 hE232; clear hE230
       refine c_nil ?_
       have hE233 := hE232.sub (L' := [(0, .slice apA ap.length apC), (5, .slice b10 (Int.toNat (order.length : Int)) (Int.toNat (order.length : Int))), (8, .slice b91 (Int.toNat (order.length : Int)) (Int.toNat (order.length : Int))), (31, .slice orderA order.length orderC), (32, .int .i64 (order.length : Int)), (33, .int .i64 (t33L2 + 1))]) ⟨rfl, rfl, rfl, rfl, rfl, rfl, trivial⟩; clear hE232
       refine p_tn ⟨r117, Nat.lt_succ_self _, t33L2 + 1, (F_reordered_L3 ap order t33L2 (Int.toNat (((F_membersOf (gI ap (gI order t33L2))).length : Int) - 0) + 1) 0 out8L2).2, (hT112.symm.trans (show F_reordered_L2b ap order (F_reordered_L2 ap order r117) t33L2 out8L2 = F_reordered_L2 ap order r117 (t33L2 + 1) ((F_reordered_L3 ap order t33L2 (Int.toNat (((F_membersOf (gI ap (gI order t33L2))).length : Int) - 0) + 1) 0 out8L2).2) by unfold F_reordered_L2b; rw [ht121]; first | done | rfl)).symm, (by omega), (by first | omega | (simp only [sS_len, sL_len]; omega) | (simp only [List.length_replicate, sI_len]; omega) | (simp only [List.length_append, List.length_cons, List.length_nil, sI_len, cond_true, cond_false]; omega) | (simp only [List.length_append, List.length_cons, List.length_nil, sI_len, cond_eq_ite, apply_ite List.length]; split <;> simp only [List.length_append, List.length_cons, List.length_nil, sI_len] <;> omega) | grind), (by first | omega | (simp only [sS_len, sL_len]; omega) | (simp only [List.length_replicate, sI_len]; omega) | (simp only [List.length_append, List.length_cons, List.length_nil, sI_len, cond_true, cond_false]; omega) | (simp only [List.length_append, List.length_cons, List.length_nil, sI_len, cond_eq_ite, apply_ite List.length]; split <;> simp only [List.length_append, List.length_cons, List.length_nil, sI_len] <;> omega) | grind), (by first | omega | (simp only [sS_len, sL_len]; omega) | (simp only [List.length_replicate, sI_len]; omega) | (simp only [List.length_append, List.length_cons, List.length_nil, sI_len, cond_true, cond_false]; omega) | (simp only [List.length_append, List.length_cons, List.length_nil, sI_len, cond_eq_ite, apply_ite List.length]; split <;> simp only [List.length_append, List.length_cons, List.length_nil, sI_len] <;> omega) | grind), (hE233.sub (L' := [(0, .slice apA ap.length apC), (5, .slice b10 (Int.toNat (order.length : Int)) (Int.toNat (order.length : Int))), (8, .slice b91 (Int.toNat (order.length : Int)) (Int.toNat (order.length : Int))), (31, .slice orderA order.length orderC), (32, .int .i64 (order.length : Int)), (33, .int .i64 (t33L2 + 1))]) ⟨rfl, rfl, rfl, rfl, rfl, rfl, trivial⟩), (St.pick (Γ' := [.own 2 1 b91 (Int.toNat (order.length : Int)) (Int.toNat (order.length : Int)) ((F_reordered_L3 ap order t33L2 (Int.toNat (((F_membersOf (gI ap (gI order t33L2))).length : Int) - 0) + 1) 0 out8L2).2), .own 2 1 b10 (Int.toNat (order.length : Int)) (Int.toNat (order.length : Int)) ((F_reordered_L1 order (Int.toNat ((order.length : Int) - 0) + 1) 0 (List.replicate (Int.toNat (order.length : Int)) 0)).2), .rd 1 orderA order.length orderC order, .rd 1 apA ap.length apC ap]) hS224 [1, 2, 3, 4] (by decide) rfl)⟩
     ·
      have hp234 := of_decide_eq_false ht121
      have hE235 := hE120; rw [ht121] at hE235; clear hE120
      refine wp_exit ?_
      refine p_te ?_
      have hX236 : F_reordered_L2 ap order (Int.toNat ((order.length : Int) - 0) + 1) 0 (List.replicate (Int.toNat (order.length : Int)) 0) = (t33L2, out8L2) := hT112.symm.trans (show F_reordered_L2b ap order (F_reordered_L2 ap order r117) t33L2 out8L2 = (t33L2, out8L2) by unfold F_reordered_L2b; rw [ht121]; first | done | rfl)
      refine p_te (p_be (p_tn ?_))
      exact ⟨(by rw [hX236]; exact (show 0 ≤ t33L2 from (by first | omega | (simp only [sS_len, sL_len]; omega) | (simp only [List.length_replicate, sI_len]; omega) | (simp only [List.length_append, List.length_cons, List.length_nil, sI_len, cond_true, cond_false]; omega) | (simp only [List.length_append, List.length_cons, List.length_nil, sI_len, cond_eq_ite, apply_ite List.length]; split <;> simp only [List.length_append, List.length_cons, List.length_nil, sI_len] <;> omega) | grind))), (by rw [hX236]; exact (show out8L2.length = order.length from (by first | omega | (simp only [sS_len, sL_len]; omega) | (simp only [List.length_replicate, sI_len]; omega) | (simp only [List.length_append, List.length_cons, List.length_nil, sI_len, cond_true, cond_false]; omega) | (simp only [List.length_append, List.length_cons, List.length_nil, sI_len, cond_eq_ite, apply_ite List.length]; split <;> simp only [List.length_append, List.length_cons, List.length_nil, sI_len] <;> omega) | grind))), (by rw [hX236]; exact (show t33L2 ≤ (order.length : Int) from (by first | omega | (simp only [sS_len, sL_len]; omega) | (simp only [List.length_replicate, sI_len]; omega) | (simp only [List.length_append, List.length_cons, List.length_nil, sI_len, cond_true, cond_false]; omega) | (simp only [List.length_append, List.length_cons, List.length_nil, sI_len, cond_eq_ite, apply_ite List.length]; split <;> simp only [List.length_append, List.length_cons, List.length_nil, sI_len] <;> omega) | grind))), (by rw [hX236]; exact (hE235.sub (L' := [(0, .slice apA ap.length apC), (5, .slice b10 (Int.toNat (order.length : Int)) (Int.toNat (order.length : Int))), (8, .slice b91 (Int.toNat (order.length : Int)) (Int.toNat (order.length : Int))), (31, .slice orderA order.length orderC), (32, .int .i64 (order.length : Int)), (33, .int .i64 t33L2)]) ⟨rfl, rfl, rfl, rfl, rfl, rfl, trivial⟩)), (by rw [hX236]; exact (St.pick (Γ' := [.own 2 1 b91 (Int.toNat (order.length : Int)) (Int.toNat (order.length : Int)) out8L2, .own 2 1 b10 (Int.toNat (order.length : Int)) (Int.toNat (order.length : Int)) ((F_reordered_L1 order (Int.toNat ((order.length : Int) - 0) + 1) 0 (List.replicate (Int.toNat (order.length : Int)) 0)).2), .rd 1 orderA order.length orderC order, .rd 1 apA ap.length apC ap]) hS111 [0, 1, 2, 3] (by decide) rfl))⟩
   ·
    rintro a237 w238 ⟨hi242, hi243, hi244, hE239, hS240⟩; clear hE106 hS95
    refine p_tn ?_
    refine c_seq ?_
    refine c_reg ?_
    refine q_step (v := .slice b91 (Int.toNat (order.length : Int)) (Int.toNat (order.length : Int))) hE239 (y_move rfl) rfl rfl rfl ?_; intro a245 hE246; clear hE239
    refine q_step (v := .slice b91 (Int.toNat (order.length : Int)) (Int.toNat (order.length : Int))) hE246 (y_assign rfl) rfl rfl rfl ?_; intro a247 hE248; clear hE246
    refine c_nil ?_
    have hE249 := hE248.sub (L' := [(4, .slice b91 (Int.toNat (order.length : Int)) (Int.toNat (order.length : Int)))]) ⟨rfl, trivial⟩; clear hE248
    refine p_tn ?_
    refine wp_ret ?_
    have hF : F_reordered ap order = (F_reordered_L2 ap order (Int.toNat ((order.length : Int) - 0) + 1) 0 (List.replicate (Int.toNat (order.length : Int)) 0)).2 := by unfold F_reordered; rfl
    refine c_ret1 hE249 rfl rfl ?_
    exact ⟨b91, Int.toNat (order.length : Int), (by rw [hF]; first | rfl | (rw [(St.rdO (i := 0) hS240 rfl).len1])), (by rw [hF, (St.rdO (i := 0) hS240 rfl).len1]; (try dsimp only); exact hS240.ok 0 _ rfl), hS240.ext⟩
def F_leastRelation_k1 (order : List Int) (rel : List Int) (best : List Int) : List Int :=
  bif (decide ((F_z_Compare (F_reordered rel order) best) < 0)) then (F_reordered rel order) else best
theorem cf_leastRelation_k1 (args : Array Value) (w : World) : (callFunc 186 args).run Try.prog w = .ok (.enter 186 args) w := by kernel_rfl
set_option maxRecDepth 100000 in
theorem c_leastRelation_k1 (orderA : Option Addr) (orderN orderC : Nat) (order : List Int) (relB : Nat) (relA : Option Addr) (relN relC : Nat) (rel : List Int) (bestB : Nat) (bestA : Option Addr) (bestN bestC : Nat) (best : List Int) (w : World) (w0v : World) (Γ0 : List Ent) (hS0 : St w0v w (.own 2 1 orderA orderN orderC order :: .blk relB #[.slice relA relN relC] 22 :: .rd 1 relA relN relC rel :: .blk bestB #[.slice bestA bestN bestC] 22 :: .own 2 1 bestA bestN bestC best :: Γ0)) (hr : rel.length ≤ 8) (hrm : ∀ m : Int, 0 ≤ m → m < (rel.length : Int) → 0 ≤ gI rel m ∧ gI rel m ≤ fullI (rel.length : Int)) (ho : order.length = rel.length) (hx : ∀ m : Int, 0 ≤ m → m < (order.length : Int) → 0 ≤ gI order m ∧ gI order m < (rel.length : Int)) :
    Calls Try.prog 186 #[.slice orderA orderN orderC, .pointer (some ⟨relB, 0, none⟩), .pointer (some ⟨bestB, 0, none⟩)] w (Ret fun v w' => ∃ bestA1 : Option Addr, ∃ bestC1 : Nat, v = .tuple #[] ∧ St w0v w' (.own 2 1 orderA orderN orderC order :: .blk relB #[.slice relA relN relC] 22 :: .rd 1 relA relN relC rel :: .blk bestB #[.slice bestA1 ((F_leastRelation_k1 order rel best).length) bestC1] 22 :: .own 2 1 bestA1 ((F_leastRelation_k1 order rel best).length) bestC1 (F_leastRelation_k1 order rel best) :: Γ0)) := by
  obtain rfl : orderN = order.length := (St.rdO (i := 0) hS0 rfl).len1.symm
  have orderLe := (St.rdO (i := 0) hS0 rfl).le
  obtain rfl : relN = rel.length := (St.rdR (i := 2) hS0 rfl).len1.symm
  have relLe := (St.rdR (i := 2) hS0 rfl).le
  obtain rfl : bestN = best.length := (St.rdO (i := 4) hS0 rfl).len1.symm
  have bestLe := (St.rdO (i := 4) hS0 rfl).le
  refine enter (args := [.slice orderA order.length orderC, .pointer (some ⟨relB, 0, none⟩), .pointer (some ⟨bestB, 0, none⟩)]) Try.func186 rfl rfl ?_
  rw [Try.ntmps186]; intro a hE
  have hE := hE.sub (L' := [(0, .slice orderA order.length orderC), (1, .pointer (some ⟨relB, 0, none⟩)), (2, .pointer (some ⟨bestB, 0, none⟩))]) ⟨rfl, rfl, rfl, trivial⟩
  refine c_seq ?_
  refine c_reg ?_
  refine q_step (v := .slice relA rel.length relC) hE (y_load (fun _ => by kernel_rfl) rfl (St.cell (i := 1) hS0 rfl rfl)) rfl rfl rfl ?_; intro a1 hE2; clear hE
  refine q_step (v := .slice orderA order.length orderC) hE2 (y_move rfl) rfl rfl rfl ?_; intro a3 hE4; clear hE2
  refine l_step hE4 rfl (l_call (f := 187) (argv := [.slice relA rel.length relC, .slice orderA order.length orderC]) hE4 (fun _ => cf_reordered _ _) rfl rfl (c_reordered relA rel.length relC rel orderA order.length orderC order w (St.rdR (i := 2) hS0 rfl) (St.rdO (i := 0) hS0 rfl) (by omega) (by omega) hx hrm) ?_)
  rintro _ w6 ⟨b11, c12, rfl, ho13, he10⟩ a7 hE8; clear hE4
  have hS9 := St.own hS0 he10 ho13; clear hS0
  refine q_step (v := .slice b11 ((F_reordered rel order).length) c12) hE8 (y_assign rfl) rfl rfl rfl ?_; intro a14 hE15; clear hE8
  refine c_nil ?_
  have hE16 := hE15.sub (L' := [(2, .pointer (some ⟨bestB, 0, none⟩)), (4, .slice b11 ((F_reordered rel order).length) c12)]) ⟨rfl, rfl, trivial⟩; clear hE15
  refine p_tn ?_
  refine c_seq ?_
  refine c_reg ?_
  refine q_step (v := .slice b11 ((F_reordered rel order).length) c12) hE16 (y_move rfl) rfl rfl rfl ?_; intro a17 hE18; clear hE16
  refine q_step (v := .slice bestA best.length bestC) hE18 (y_load (fun _ => by kernel_rfl) rfl (St.cell (i := 4) hS9 rfl rfl)) rfl rfl rfl ?_; intro a19 hE20; clear hE18
  refine l_step hE20 rfl (l_call (f := 188) (argv := [.slice b11 ((F_reordered rel order).length) c12, .slice bestA best.length bestC]) hE20 (fun _ => cf_z_Compare _ _) rfl rfl (c_z_Compare b11 ((F_reordered rel order).length) c12 (F_reordered rel order) bestA best.length bestC best w6 (St.rdO (i := 0) hS9 rfl) (St.rdO (i := 5) hS9 rfl)) ?_)
  rintro _ w22 ⟨rfl, he26⟩ a23 hE24; clear hE20
  have hS25 := St.go hS9 he26; clear hS9
  refine q_step (v := .bool (decide ((F_z_Compare (F_reordered rel order) best) < 0))) hE24 (y_lss rfl rfl) rfl rfl rfl ?_; intro a27 hE28; clear hE24
  refine c_nil ?_
  have hE29 := hE28.sub (L' := [(2, .pointer (some ⟨bestB, 0, none⟩)), (4, .slice b11 ((F_reordered rel order).length) c12), (11, .bool (decide ((F_z_Compare (F_reordered rel order) best) < 0)))]) ⟨rfl, rfl, rfl, trivial⟩; clear hE28
  refine p_tn ?_
  refine c_cond hE29 rfl (fun ht30 => ?_) (fun ht30 => ?_)
  ·
   have hp31 := of_decide_eq_true ht30
   have hE32 := hE29; rw [ht30] at hE32; clear hE29
   refine c_reg ?_
   refine q_step (v := .slice b11 ((F_reordered rel order).length) c12) hE32 (y_move rfl) rfl rfl rfl ?_; intro a33 hE34; clear hE32
   refine l_step hE34 rfl (l_storeB (k := 4) (cs' := #[.slice b11 ((F_reordered rel order).length) c12]) hS25 hE34 (fun _ => by kernel_rfl) rfl rfl rfl rfl rfl rfl rfl ?_)
   intro w36 hS39 a37 hE38; clear hS25 hE34
   refine c_nil ?_
   have hE41 := hE38.sub (L' := []) trivial; clear hE38
   have hF : F_leastRelation_k1 order rel best = F_reordered rel order := by unfold F_leastRelation_k1; rw [ht30]; first | done | rfl
   refine c_end0 hE41 rfl ?_
   have hS9 := (St.pickT (Γ := [.own 2 1 b11 ((F_reordered rel order).length) c12 (F_reordered rel order), .own 2 1 orderA order.length orderC order, .blk relB #[.slice relA rel.length relC] 22, .rd 1 relA rel.length relC rel, .blk bestB #[.slice b11 ((F_reordered rel order).length) c12] 22, .own 2 1 bestA best.length bestC best]) (Γ' := [.own 2 1 orderA order.length orderC order, .blk relB #[.slice relA rel.length relC] 22, .rd 1 relA rel.length relC rel, .blk bestB #[.slice b11 ((F_reordered rel order).length) c12] 22, .own 2 1 b11 ((F_reordered rel order).length) c12 (F_reordered rel order)]) (Γ0 := Γ0) hS39 [1, 2, 3, 4, 0] (by decide) rfl rfl)
   exact ⟨b11, c12, rfl, (by rw [hF]; (try dsimp only); exact hS9)⟩
  ·
   have hp42 := of_decide_eq_false ht30
   have hE43 := hE29; rw [ht30] at hE43; clear hE29
   refine wp_skip ?_
   have hF : F_leastRelation_k1 order rel best = best := by unfold F_leastRelation_k1; rw [ht30]; first | done | rfl
   refine c_end0 hE43 rfl ?_
   have hS9 := (St.pickT (Γ := [.own 2 1 b11 ((F_reordered rel order).length) c12 (F_reordered rel order), .own 2 1 orderA order.length orderC order, .blk relB #[.slice relA rel.length relC] 22, .rd 1 relA rel.length relC rel, .blk bestB #[.slice bestA best.length bestC] 22, .own 2 1 bestA best.length bestC best]) (Γ' := [.own 2 1 orderA order.length orderC order, .blk relB #[.slice relA rel.length relC] 22, .rd 1 relA rel.length relC rel, .blk bestB #[.slice bestA best.length bestC] 22, .own 2 1 bestA best.length bestC best]) (Γ0 := Γ0) hS25 [1, 2, 3, 4, 5] (by decide) rfl rfl)
   exact ⟨bestA, bestC, rfl, (by rw [hF]; (try dsimp only); exact hS9)⟩
def F_permutations_k1_L1b (used : Int) (nn : Int) (rel : List Int) (self : Int → List Int → Int → List Int → List Int → (List Int × List Int)) (rec : Int → (List Int) → (List Int) → Int × (List Int) × (List Int)) (t15 : Int) (q9_0 : List Int) (q2_0 : List Int) : Int × (List Int) × (List Int) :=
  bif (decide (t15 < nn)) then (bif (!(F_has used t15)) then (rec (t15 + 1) (slI 1 ((self (orI used (shlI 1 t15)) (q9_0 ++ ([t15])) nn rel q2_0).1) 0 ((((self (orI used (shlI 1 t15)) (q9_0 ++ ([t15])) nn rel q2_0).1).length : Int) - 1)) ((self (orI used (shlI 1 t15)) (q9_0 ++ ([t15])) nn rel q2_0).2)) else (rec (t15 + 1) q9_0 q2_0)) else (t15, q9_0, q2_0)
def F_permutations_k1_L1 (used : Int) (nn : Int) (rel : List Int) (self : Int → List Int → Int → List Int → List Int → (List Int × List Int)) : Nat → Int → (List Int) → (List Int) → Int × (List Int) × (List Int)
  | 0, t15, q9_0, q2_0 => (t15, q9_0, q2_0)
  | r + 1, t15, q9_0, q2_0 => F_permutations_k1_L1b used nn rel self (F_permutations_k1_L1 used nn rel self r) t15 q9_0 q2_0
def F_permutations_k1_b (self : Int → List Int → Int → List Int → List Int → (List Int × List Int)) (used : Int) (order : List Int) (nn : Int) (rel : List Int) (best : List Int) : List Int × List Int :=
  bif (decide ((order.length : Int) = nn)) then (order, (F_leastRelation_k1 order rel best)) else ((F_permutations_k1_L1 used nn rel self (Int.toNat (nn - 0) + 1) 0 order best).2.1, (F_permutations_k1_L1 used nn rel self (Int.toNat (nn - 0) + 1) 0 order best).2.2)
def F_permutations_k1_r : Nat → Int → List Int → Int → List Int → List Int → (List Int × List Int)
  | 0 => fun _ _ _ _ _ => default
  | r + 1 => F_permutations_k1_b (F_permutations_k1_r r)
def F_permutations_k1 (used : Int) (order : List Int) (nn : Int) (rel : List Int) (best : List Int) : List Int × List Int := F_permutations_k1_r ((nn - (order.length : Int)).toNat + 1) used order nn rel best
theorem slI_pop2 (cs : List Int) (k : Int) : slI 1 (cs ++ [k]) 0 (((cs ++ [k]).length : Int) - 1) = cs := by
  unfold slI
  have e : (((cs ++ [k]).length : Int) - 1).toNat = cs.length := by rw [len_app1]; omega
  rw [e]
  simp
theorem perm_first (nn : Int) (rel : List Int) : ∀ (d r : Nat) (used : Int) (order best : List Int), nn - (order.length : Int) = (d : Int) → d < r → (F_permutations_k1_r r used order nn rel best).1 = order := by
  intro d
  induction d with
  | zero =>
    intro r used order best hd hr
    obtain ⟨r, rfl⟩ : ∃ r', r = r' + 1 := ⟨r - 1, by omega⟩
    show (F_permutations_k1_b (F_permutations_k1_r r) used order nn rel best).1 = _
    unfold F_permutations_k1_b
    rw [decide_eq_true (by omega)]; rfl
  | succ d ih =>
    intro r used order best hd hr
    obtain ⟨r, rfl⟩ : ∃ r', r = r' + 1 := ⟨r - 1, by omega⟩
    have key : ∀ (k : Nat) (i : Int) (b : List Int), (F_permutations_k1_L1 used nn rel (F_permutations_k1_r r) k i order b).2.1 = order := by
      intro k
      induction k with
      | zero => intro i b; rfl
      | succ k ihk =>
        intro i b
        show (F_permutations_k1_L1b used nn rel (F_permutations_k1_r r) (F_permutations_k1_L1 used nn rel (F_permutations_k1_r r) k) i order b).2.1 = _
        unfold F_permutations_k1_L1b
        rw [ih r _ (order ++ [i]) b (by rw [len_app1]; omega) (by omega), slI_pop2]
        cases decide (i < nn)
        · rfl
        · cases F_has used i
          · exact ihk _ _
          · exact ihk _ _
    show (F_permutations_k1_b (F_permutations_k1_r r) used order nn rel best).1 = _
    unfold F_permutations_k1_b
    rw [decide_eq_false (by omega), cond_false]
    exact key _ _ _
theorem permLen : ∀ (r : Nat) (used : Int) (order : List Int) (nn : Int) (rel best : List Int) (hr : rel.length ≤ 8) (hrm : ∀ m : Int, 0 ≤ m → m < (rel.length : Int) → 0 ≤ gI rel m ∧ gI rel m ≤ fullI (rel.length : Int)) (hn : nn = (rel.length : Int)) (hl : (order.length : Int) ≤ nn) (hu : 0 ≤ used ∧ used ≤ fullI nn) (hx : ∀ m : Int, 0 ≤ m → m < (order.length : Int) → 0 ≤ gI order m ∧ gI order m < (rel.length : Int)) (hm : (nn - (order.length : Int)).toNat < r), (F_permutations_k1_r r used order nn rel best).1 = order := by
  intro r used order nn rel best _ _ _ hl _ _ hm
  exact perm_first nn rel (nn - (order.length : Int)).toNat r used order best (by omega) hm
theorem cf_permutations_k1 (args : Array Value) (w : World) : (callFunc 234 args).run Try.prog w = .ok (.enter 234 args) w := by kernel_rfl
set_option maxRecDepth 100000 in
theorem cb_permutations_k1 (self : Int → List Int → Int → List Int → List Int → (List Int × List Int)) (mu : Nat) (hpost : ∀ (used : Int) (order : List Int) (nn : Int) (rel : List Int) (best : List Int) (hr : rel.length ≤ 8) (hrm : ∀ m : Int, 0 ≤ m → m < (rel.length : Int) → 0 ≤ gI rel m ∧ gI rel m ≤ fullI (rel.length : Int)) (hn : nn = (rel.length : Int)) (hl : (order.length : Int) ≤ nn) (hu : 0 ≤ used ∧ used ≤ fullI nn) (hx : ∀ m : Int, 0 ≤ m → m < (order.length : Int) → 0 ≤ gI order m ∧ gI order m < (rel.length : Int)) (hm : (nn - (order.length : Int)).toNat < mu), (self used order nn rel best).1 = order) (used : Int) (orderB : Nat) (orderA : Option Addr) (orderN orderC : Nat) (order : List Int) (nnB : Nat) (nn : Int) (visitB : Nat) (growB : Nat) (relB : Nat) (relA : Option Addr) (relN relC : Nat) (rel : List Int) (bestB : Nat) (bestA : Option Addr) (bestN bestC : Nat) (best : List Int) (w : World) (w0v : World) (Γ0 : List Ent) (hS0 : St w0v w (.blk orderB #[.slice orderA orderN orderC] 22 :: .own 2 1 orderA orderN orderC order :: .blk nnB #[.int .i64 nn] 2 :: .blk visitB #[.func (.func 186) #[] #[.pointer (some ⟨relB, 0, none⟩), .pointer (some ⟨bestB, 0, none⟩)]] 151 :: .blk growB #[.func (.func 234) #[] #[.pointer (some ⟨orderB, 0, none⟩), .pointer (some ⟨nnB, 0, none⟩), .pointer (some ⟨visitB, 0, none⟩), .pointer (some ⟨growB, 0, none⟩)]] 167 :: .blk relB #[.slice relA relN relC] 22 :: .rd 1 relA relN relC rel :: .blk bestB #[.slice bestA bestN bestC] 22 :: .own 2 1 bestA bestN bestC best :: Γ0)) (hr : rel.length ≤ 8) (hrm : ∀ m : Int, 0 ≤ m → m < (rel.length : Int) → 0 ≤ gI rel m ∧ gI rel m ≤ fullI (rel.length : Int)) (hn : nn = (rel.length : Int)) (hl : (order.length : Int) ≤ nn) (hu : 0 ≤ used ∧ used ≤ fullI nn) (hx : ∀ m : Int, 0 ≤ m → m < (order.length : Int) → 0 ≤ gI order m ∧ gI order m < (rel.length : Int)) (hmu : mu = (nn - (order.length : Int)).toNat) (ih : ∀ (used : Int) (orderB : Nat) (orderA : Option Addr) (orderN orderC : Nat) (order : List Int) (nnB : Nat) (nn : Int) (visitB : Nat) (growB : Nat) (relB : Nat) (relA : Option Addr) (relN relC : Nat) (rel : List Int) (bestB : Nat) (bestA : Option Addr) (bestN bestC : Nat) (best : List Int) (w : World) (w0v : World) (Γ0 : List Ent) (hS0 : St w0v w (.blk orderB #[.slice orderA orderN orderC] 22 :: .own 2 1 orderA orderN orderC order :: .blk nnB #[.int .i64 nn] 2 :: .blk visitB #[.func (.func 186) #[] #[.pointer (some ⟨relB, 0, none⟩), .pointer (some ⟨bestB, 0, none⟩)]] 151 :: .blk growB #[.func (.func 234) #[] #[.pointer (some ⟨orderB, 0, none⟩), .pointer (some ⟨nnB, 0, none⟩), .pointer (some ⟨visitB, 0, none⟩), .pointer (some ⟨growB, 0, none⟩)]] 167 :: .blk relB #[.slice relA relN relC] 22 :: .rd 1 relA relN relC rel :: .blk bestB #[.slice bestA bestN bestC] 22 :: .own 2 1 bestA bestN bestC best :: Γ0)) (hr : rel.length ≤ 8) (hrm : ∀ m : Int, 0 ≤ m → m < (rel.length : Int) → 0 ≤ gI rel m ∧ gI rel m ≤ fullI (rel.length : Int)) (hn : nn = (rel.length : Int)) (hl : (order.length : Int) ≤ nn) (hu : 0 ≤ used ∧ used ≤ fullI nn) (hx : ∀ m : Int, 0 ≤ m → m < (order.length : Int) → 0 ≤ gI order m ∧ gI order m < (rel.length : Int)) (hdec : (nn - (order.length : Int)).toNat < mu), Calls Try.prog 234 #[.int .i64 used, .pointer (some ⟨orderB, 0, none⟩), .pointer (some ⟨nnB, 0, none⟩), .pointer (some ⟨visitB, 0, none⟩), .pointer (some ⟨growB, 0, none⟩)] w (Ret fun v w' => ∃ orderA1 : Option Addr, ∃ orderC1 : Nat, ∃ bestA1 : Option Addr, ∃ bestC1 : Nat, v = .tuple #[] ∧ St w0v w' (.blk orderB #[.slice orderA1 (((self used order nn rel best).1).length) orderC1] 22 :: .own 2 1 orderA1 (((self used order nn rel best).1).length) orderC1 ((self used order nn rel best).1) :: .blk nnB #[.int .i64 nn] 2 :: .blk visitB #[.func (.func 186) #[] #[.pointer (some ⟨relB, 0, none⟩), .pointer (some ⟨bestB, 0, none⟩)]] 151 :: .blk growB #[.func (.func 234) #[] #[.pointer (some ⟨orderB, 0, none⟩), .pointer (some ⟨nnB, 0, none⟩), .pointer (some ⟨visitB, 0, none⟩), .pointer (some ⟨growB, 0, none⟩)]] 167 :: .blk relB #[.slice relA relN relC] 22 :: .rd 1 relA relN relC rel :: .blk bestB #[.slice bestA1 (((self used order nn rel best).2).length) bestC1] 22 :: .own 2 1 bestA1 (((self used order nn rel best).2).length) bestC1 ((self used order nn rel best).2) :: Γ0))) :
    Calls Try.prog 234 #[.int .i64 used, .pointer (some ⟨orderB, 0, none⟩), .pointer (some ⟨nnB, 0, none⟩), .pointer (some ⟨visitB, 0, none⟩), .pointer (some ⟨growB, 0, none⟩)] w (Ret fun v w' => ∃ orderA1 : Option Addr, ∃ orderC1 : Nat, ∃ bestA1 : Option Addr, ∃ bestC1 : Nat, v = .tuple #[] ∧ St w0v w' (.blk orderB #[.slice orderA1 (((F_permutations_k1_b self used order nn rel best).1).length) orderC1] 22 :: .own 2 1 orderA1 (((F_permutations_k1_b self used order nn rel best).1).length) orderC1 ((F_permutations_k1_b self used order nn rel best).1) :: .blk nnB #[.int .i64 nn] 2 :: .blk visitB #[.func (.func 186) #[] #[.pointer (some ⟨relB, 0, none⟩), .pointer (some ⟨bestB, 0, none⟩)]] 151 :: .blk growB #[.func (.func 234) #[] #[.pointer (some ⟨orderB, 0, none⟩), .pointer (some ⟨nnB, 0, none⟩), .pointer (some ⟨visitB, 0, none⟩), .pointer (some ⟨growB, 0, none⟩)]] 167 :: .blk relB #[.slice relA relN relC] 22 :: .rd 1 relA relN relC rel :: .blk bestB #[.slice bestA1 (((F_permutations_k1_b self used order nn rel best).2).length) bestC1] 22 :: .own 2 1 bestA1 (((F_permutations_k1_b self used order nn rel best).2).length) bestC1 ((F_permutations_k1_b self used order nn rel best).2) :: Γ0)) := by
  obtain rfl : orderN = order.length := (St.rdO (i := 1) hS0 rfl).len1.symm
  have orderLe := (St.rdO (i := 1) hS0 rfl).le
  obtain rfl : relN = rel.length := (St.rdR (i := 6) hS0 rfl).len1.symm
  have relLe := (St.rdR (i := 6) hS0 rfl).le
  obtain rfl : bestN = best.length := (St.rdO (i := 8) hS0 rfl).len1.symm
  have bestLe := (St.rdO (i := 8) hS0 rfl).le
  refine enter (args := [.int .i64 used, .pointer (some ⟨orderB, 0, none⟩), .pointer (some ⟨nnB, 0, none⟩), .pointer (some ⟨visitB, 0, none⟩), .pointer (some ⟨growB, 0, none⟩)]) Try.func234 rfl rfl ?_
  rw [Try.ntmps234]; intro a hE
  have hE := hE.sub (L' := [(0, .int .i64 used), (1, .pointer (some ⟨orderB, 0, none⟩)), (2, .pointer (some ⟨nnB, 0, none⟩)), (3, .pointer (some ⟨visitB, 0, none⟩)), (4, .pointer (some ⟨growB, 0, none⟩))]) ⟨rfl, rfl, rfl, rfl, rfl, trivial⟩
  refine c_seq ?_
  refine c_seq ?_
  refine d_start (fun w w' => (fun w' => w'.cell? ⟨orderB, 0, none⟩ = some (.slice orderA order.length orderC) ∧ w'.cell? ⟨nnB, 0, none⟩ = some (.int .i64 nn) ∧ True) w → (fun w' => w'.cell? ⟨orderB, 0, none⟩ = some (.slice orderA order.length orderC) ∧ w'.cell? ⟨nnB, 0, none⟩ = some (.int .i64 nn) ∧ True) w') [0, 2] 4 (by kernel_rfl) rfl ?_
  intro w1 he2; have hS3 := St.go hS0 he2; clear hS0
  refine d_take (fun _ h => h) (fun _ _ h k => h k) (v := .slice orderA order.length orderC) 0 rfl hE (S := fun w' => w'.cell? ⟨orderB, 0, none⟩ = some (.slice orderA order.length orderC) ∧ w'.cell? ⟨nnB, 0, none⟩ = some (.int .i64 nn) ∧ True) ⟨(St.cell (i := 0) hS3 rfl rfl _ (Ext.refl _)), (St.cell (i := 2) hS3 rfl rfl _ (Ext.refl _)), trivial⟩ (y_load (fun _ => by kernel_rfl) rfl (fun _ h => h.1)) rfl rfl (by kernel_rfl) (by kernel_rfl) (by kernel_rfl) (by kernel_rfl) rfl rfl (fun _ _ _ h => h) ?_; intro a4 hE5; clear hE
  refine d_take (fun _ h => h) (fun _ _ h k => h k) (v := .int .i64 nn) 2 rfl hE5 (S := fun w' => w'.cell? ⟨orderB, 0, none⟩ = some (.slice orderA order.length orderC) ∧ w'.cell? ⟨nnB, 0, none⟩ = some (.int .i64 nn) ∧ True) ⟨(St.cell (i := 0) hS3 rfl rfl _ (Ext.refl _)), (St.cell (i := 2) hS3 rfl rfl _ (Ext.refl _)), trivial⟩ (y_load (fun _ => by kernel_rfl) rfl (fun _ h => h.2.1)) rfl rfl (by kernel_rfl) (by kernel_rfl) (by kernel_rfl) (by kernel_rfl) rfl rfl (fun _ _ _ h => h) ?_; intro a6 hE7; clear hE5
  have hc14 := d_size orderA order.length orderC order w1 (St.rdO (i := 1) hS3 rfl)
  refine d_only 1 (by kernel_rfl) rfl hE7 rfl (l_call (f := 165) (argv := [.slice orderA order.length orderC]) hE7 (fun _ => cf_size _ _) rfl rfl (by exact hc14) ?_)
  rintro _ _ ⟨rfl, rfl⟩ a10 hE11; clear hE7
  refine ⟨fun _ _ => ⟨(St.cell (i := 0) hS3 rfl rfl _ (Ext.refl _)), (St.cell (i := 2) hS3 rfl rfl _ (Ext.refl _)), trivial⟩, ?_⟩
  refine d_pure (fun _ h => h) (v := .bool (decide ((order.length : Int) = nn))) 3 rfl hE11 (y_eql rfl rfl) rfl (by kernel_rfl) (by kernel_rfl) (by kernel_rfl) rfl rfl (fun _ _ _ h => h) ?_; intro a15 hE16; clear hE11
  refine d_done (by kernel_rfl) ?_
  have hE17 := hE16.sub (L' := [(0, .int .i64 used), (1, .pointer (some ⟨orderB, 0, none⟩)), (2, .pointer (some ⟨nnB, 0, none⟩)), (3, .pointer (some ⟨visitB, 0, none⟩)), (4, .pointer (some ⟨growB, 0, none⟩)), (10, .bool (decide ((order.length : Int) = nn)))]) ⟨rfl, rfl, rfl, rfl, rfl, rfl, trivial⟩; clear hE16
  refine p_tn ?_
  refine c_cond hE17 rfl (fun ht18 => ?_) (fun ht18 => ?_)
  ·
   have hp19 := of_decide_eq_true ht18
   have hE20 := hE17; rw [ht18] at hE20; clear hE17
   refine c_seq ?_
   refine c_reg ?_
   refine q_step (v := .func (.func 186) #[] #[.pointer (some ⟨relB, 0, none⟩), .pointer (some ⟨bestB, 0, none⟩)]) hE20 (y_load (fun _ => by kernel_rfl) rfl (St.cell (i := 3) hS3 rfl rfl)) rfl rfl rfl ?_; intro a21 hE22; clear hE20
   refine q_step (v := .slice orderA order.length orderC) hE22 (y_load (fun _ => by kernel_rfl) rfl (St.cell (i := 0) hS3 rfl rfl)) rfl rfl rfl ?_; intro a23 hE24; clear hE22
   have hS31 := (St.pickT (Γ := [.blk orderB #[.slice orderA order.length orderC] 22, .own 2 1 orderA order.length orderC order, .blk nnB #[.int .i64 nn] 2, .blk visitB #[.func (.func 186) #[] #[.pointer (some ⟨relB, 0, none⟩), .pointer (some ⟨bestB, 0, none⟩)]] 151, .blk growB #[.func (.func 234) #[] #[.pointer (some ⟨orderB, 0, none⟩), .pointer (some ⟨nnB, 0, none⟩), .pointer (some ⟨visitB, 0, none⟩), .pointer (some ⟨growB, 0, none⟩)]] 167, .blk relB #[.slice relA rel.length relC] 22, .rd 1 relA rel.length relC rel, .blk bestB #[.slice bestA best.length bestC] 22, .own 2 1 bestA best.length bestC best]) (Γ' := [.own 2 1 orderA order.length orderC order, .blk relB #[.slice relA rel.length relC] 22, .rd 1 relA rel.length relC rel, .blk bestB #[.slice bestA best.length bestC] 22, .own 2 1 bestA best.length bestC best, .blk orderB #[.slice orderA order.length orderC] 22, .blk nnB #[.int .i64 nn] 2, .blk visitB #[.func (.func 186) #[] #[.pointer (some ⟨relB, 0, none⟩), .pointer (some ⟨bestB, 0, none⟩)]] 151, .blk growB #[.func (.func 234) #[] #[.pointer (some ⟨orderB, 0, none⟩), .pointer (some ⟨nnB, 0, none⟩), .pointer (some ⟨visitB, 0, none⟩), .pointer (some ⟨growB, 0, none⟩)]] 167]) (Γ0 := Γ0) hS3 [1, 5, 6, 7, 8, 0, 2, 3, 4] (by decide) rfl rfl); clear hS3
   have hc32 := c_leastRelation_k1 orderA order.length orderC order relB relA rel.length relC rel bestB bestA best.length bestC best w1 w0v (.blk orderB #[.slice orderA order.length orderC] 22 :: .blk nnB #[.int .i64 nn] 2 :: .blk visitB #[.func (.func 186) #[] #[.pointer (some ⟨relB, 0, none⟩), .pointer (some ⟨bestB, 0, none⟩)]] 151 :: .blk growB #[.func (.func 234) #[] #[.pointer (some ⟨orderB, 0, none⟩), .pointer (some ⟨nnB, 0, none⟩), .pointer (some ⟨visitB, 0, none⟩), .pointer (some ⟨growB, 0, none⟩)]] 167 :: Γ0) hS31 (by omega) hrm (by omega) hx
   refine l_step hE24 rfl (l_callv (f := 186) (caps := [.pointer (some ⟨relB, 0, none⟩), .pointer (some ⟨bestB, 0, none⟩)]) (argv := [.slice orderA order.length orderC]) hE24 rfl (fun _ => cf_leastRelation_k1 _ _) rfl rfl (by exact hc32) ?_)
   rintro _ w26 ⟨b33, c34, rfl, hS29⟩ a27 hE28; clear hE24 hc32
   refine c_nil ?_
   have hE35 := hE28.sub (L' := []) trivial; clear hE28
   refine p_tn ?_
   refine wp_ret ?_
   refine p_tr ?_
   have hF : F_permutations_k1_b self used order nn rel best = (order, (F_leastRelation_k1 order rel best)) := by unfold F_permutations_k1_b; rw [ht18]; first | done | rfl
   refine c_ret0 hE35 rfl ?_
   have hS9 := (St.pickT (Γ := [.own 2 1 orderA order.length orderC order, .blk relB #[.slice relA rel.length relC] 22, .rd 1 relA rel.length relC rel, .blk bestB #[.slice b33 ((F_leastRelation_k1 order rel best).length) c34] 22, .own 2 1 b33 ((F_leastRelation_k1 order rel best).length) c34 (F_leastRelation_k1 order rel best), .blk orderB #[.slice orderA order.length orderC] 22, .blk nnB #[.int .i64 nn] 2, .blk visitB #[.func (.func 186) #[] #[.pointer (some ⟨relB, 0, none⟩), .pointer (some ⟨bestB, 0, none⟩)]] 151, .blk growB #[.func (.func 234) #[] #[.pointer (some ⟨orderB, 0, none⟩), .pointer (some ⟨nnB, 0, none⟩), .pointer (some ⟨visitB, 0, none⟩), .pointer (some ⟨growB, 0, none⟩)]] 167]) (Γ' := [.blk orderB #[.slice orderA order.length orderC] 22, .own 2 1 orderA order.length orderC order, .blk nnB #[.int .i64 nn] 2, .blk visitB #[.func (.func 186) #[] #[.pointer (some ⟨relB, 0, none⟩), .pointer (some ⟨bestB, 0, none⟩)]] 151, .blk growB #[.func (.func 234) #[] #[.pointer (some ⟨orderB, 0, none⟩), .pointer (some ⟨nnB, 0, none⟩), .pointer (some ⟨visitB, 0, none⟩), .pointer (some ⟨growB, 0, none⟩)]] 167, .blk relB #[.slice relA rel.length relC] 22, .rd 1 relA rel.length relC rel, .blk bestB #[.slice b33 ((F_leastRelation_k1 order rel best).length) c34] 22, .own 2 1 b33 ((F_leastRelation_k1 order rel best).length) c34 (F_leastRelation_k1 order rel best)]) (Γ0 := Γ0) hS29 [5, 0, 6, 7, 8, 1, 2, 3, 4] (by decide) rfl rfl)
   exact ⟨orderA, orderC, b33, c34, rfl, (by rw [hF]; (try dsimp only); exact hS9)⟩
  ·
   have hp36 := of_decide_eq_false ht18
   have hE37 := hE17; rw [ht18] at hE37; clear hE17
   refine wp_skip ?_
   refine p_tn ?_
   refine c_seq ?_
   refine c_reg ?_
   refine q_step (v := .int .i64 nn) hE37 (y_load (fun _ => by kernel_rfl) rfl (St.cell (i := 2) hS3 rfl rfl)) rfl rfl rfl ?_; intro a38 hE39; clear hE37
   refine q_step (v := .int .i64 0) hE39 (y_move rfl) rfl rfl rfl ?_; intro a40 hE41; clear hE39
   refine c_nil ?_
   have hE42 := hE41.sub (L' := [(0, .int .i64 used), (1, .pointer (some ⟨orderB, 0, none⟩)), (4, .pointer (some ⟨growB, 0, none⟩)), (14, .int .i64 nn), (15, .int .i64 0)]) ⟨rfl, rfl, rfl, rfl, rfl, trivial⟩; clear hE41
   refine p_tn ?_
   refine c_cut1 (fun a' w' => ∃ q9_0A_43 : Option Addr, ∃ q9_0C_43 : Nat, ∃ q2_0A_43 : Option Addr, ∃ q2_0C_43 : Nat, (0 ≤ ((F_permutations_k1_L1 used nn rel self (Int.toNat (nn - 0) + 1) 0 order best).1)) ∧ (((F_permutations_k1_L1 used nn rel self (Int.toNat (nn - 0) + 1) 0 order best).1) ≤ nn) ∧ (((F_permutations_k1_L1 used nn rel self (Int.toNat (nn - 0) + 1) 0 order best).2.1) = order) ∧ E a' 38 [(0, .int .i64 used), (1, .pointer (some ⟨orderB, 0, none⟩)), (4, .pointer (some ⟨growB, 0, none⟩)), (14, .int .i64 nn), (15, .int .i64 ((F_permutations_k1_L1 used nn rel self (Int.toNat (nn - 0) + 1) 0 order best).1))] ∧ St w0v w' (.blk orderB #[.slice q9_0A_43 (((F_permutations_k1_L1 used nn rel self (Int.toNat (nn - 0) + 1) 0 order best).2.1).length) q9_0C_43] 22 :: .own 2 1 q9_0A_43 (((F_permutations_k1_L1 used nn rel self (Int.toNat (nn - 0) + 1) 0 order best).2.1).length) q9_0C_43 ((F_permutations_k1_L1 used nn rel self (Int.toNat (nn - 0) + 1) 0 order best).2.1) :: .blk nnB #[.int .i64 nn] 2 :: .blk visitB #[.func (.func 186) #[] #[.pointer (some ⟨relB, 0, none⟩), .pointer (some ⟨bestB, 0, none⟩)]] 151 :: .blk growB #[.func (.func 234) #[] #[.pointer (some ⟨orderB, 0, none⟩), .pointer (some ⟨nnB, 0, none⟩), .pointer (some ⟨visitB, 0, none⟩), .pointer (some ⟨growB, 0, none⟩)]] 167 :: .blk relB #[.slice relA rel.length relC] 22 :: .rd 1 relA rel.length relC rel :: .blk bestB #[.slice q2_0A_43 (((F_permutations_k1_L1 used nn rel self (Int.toNat (nn - 0) + 1) 0 order best).2.2).length) q2_0C_43] 22 :: .own 2 1 q2_0A_43 (((F_permutations_k1_L1 used nn rel self (Int.toNat (nn - 0) + 1) 0 order best).2.2).length) q2_0C_43 ((F_permutations_k1_L1 used nn rel self (Int.toNat (nn - 0) + 1) 0 order best).2.2) :: Γ0)) ?_ ?_
   ·
    refine wp_block ?_
    refine c_loop (fun r a' w' => ∃ t15 : Int, ∃ q9_0 : List Int, ∃ q2_0 : List Int, ∃ q9_0A : Option Addr, ∃ q9_0C : Nat, ∃ q2_0A : Option Addr, ∃ q2_0C : Nat, F_permutations_k1_L1 used nn rel self r t15 q9_0 q2_0 = F_permutations_k1_L1 used nn rel self (Int.toNat (nn - 0) + 1) 0 order best ∧ Int.toNat (nn - t15) < r ∧ (0 ≤ t15) ∧ (t15 ≤ nn) ∧ (q9_0 = order) ∧ E a' 38 [(0, .int .i64 used), (1, .pointer (some ⟨orderB, 0, none⟩)), (4, .pointer (some ⟨growB, 0, none⟩)), (14, .int .i64 nn), (15, .int .i64 t15)] ∧ St w0v w' (.blk orderB #[.slice q9_0A ((q9_0).length) q9_0C] 22 :: .own 2 1 q9_0A ((q9_0).length) q9_0C q9_0 :: .blk nnB #[.int .i64 nn] 2 :: .blk visitB #[.func (.func 186) #[] #[.pointer (some ⟨relB, 0, none⟩), .pointer (some ⟨bestB, 0, none⟩)]] 151 :: .blk growB #[.func (.func 234) #[] #[.pointer (some ⟨orderB, 0, none⟩), .pointer (some ⟨nnB, 0, none⟩), .pointer (some ⟨visitB, 0, none⟩), .pointer (some ⟨growB, 0, none⟩)]] 167 :: .blk relB #[.slice relA rel.length relC] 22 :: .rd 1 relA rel.length relC rel :: .blk bestB #[.slice q2_0A ((q2_0).length) q2_0C] 22 :: .own 2 1 q2_0A ((q2_0).length) q2_0C q2_0 :: Γ0)) (r := (Int.toNat (nn - 0) + 1)) ?_ ?_
    · exact ⟨0, order, best, orderA, orderC, bestA, bestC, rfl, Nat.lt_succ_self _, (by first | omega | (simp only [sS_len, sL_len]; omega) | (simp only [List.length_replicate, sI_len]; omega) | (simp only [List.length_append, List.length_cons, List.length_nil, sI_len, cond_true, cond_false]; omega) | (simp only [List.length_append, List.length_cons, List.length_nil, sI_len, cond_eq_ite, apply_ite List.length]; split <;> simp only [List.length_append, List.length_cons, List.length_nil, sI_len] <;> omega) | grind), (by first | omega | (simp only [sS_len, sL_len]; omega) | (simp only [List.length_replicate, sI_len]; omega) | (simp only [List.length_append, List.length_cons, List.length_nil, sI_len, cond_true, cond_false]; omega) | (simp only [List.length_append, List.length_cons, List.length_nil, sI_len, cond_eq_ite, apply_ite List.length]; split <;> simp only [List.length_append, List.length_cons, List.length_nil, sI_len] <;> omega) | grind), rfl, (hE42.sub (L' := [(0, .int .i64 used), (1, .pointer (some ⟨orderB, 0, none⟩)), (4, .pointer (some ⟨growB, 0, none⟩)), (14, .int .i64 nn), (15, .int .i64 0)]) ⟨rfl, rfl, rfl, rfl, rfl, trivial⟩), (St.pickT (Γ := [.blk orderB #[.slice orderA order.length orderC] 22, .own 2 1 orderA order.length orderC order, .blk nnB #[.int .i64 nn] 2, .blk visitB #[.func (.func 186) #[] #[.pointer (some ⟨relB, 0, none⟩), .pointer (some ⟨bestB, 0, none⟩)]] 151, .blk growB #[.func (.func 234) #[] #[.pointer (some ⟨orderB, 0, none⟩), .pointer (some ⟨nnB, 0, none⟩), .pointer (some ⟨visitB, 0, none⟩), .pointer (some ⟨growB, 0, none⟩)]] 167, .blk relB #[.slice relA rel.length relC] 22, .rd 1 relA rel.length relC rel, .blk bestB #[.slice bestA best.length bestC] 22, .own 2 1 bestA best.length bestC best]) (Γ' := [.blk orderB #[.slice orderA order.length orderC] 22, .own 2 1 orderA order.length orderC order, .blk nnB #[.int .i64 nn] 2, .blk visitB #[.func (.func 186) #[] #[.pointer (some ⟨relB, 0, none⟩), .pointer (some ⟨bestB, 0, none⟩)]] 151, .blk growB #[.func (.func 234) #[] #[.pointer (some ⟨orderB, 0, none⟩), .pointer (some ⟨nnB, 0, none⟩), .pointer (some ⟨visitB, 0, none⟩), .pointer (some ⟨growB, 0, none⟩)]] 167, .blk relB #[.slice relA rel.length relC] 22, .rd 1 relA rel.length relC rel, .blk bestB #[.slice bestA best.length bestC] 22, .own 2 1 bestA best.length bestC best]) (Γ0 := Γ0) hS3 [0, 1, 2, 3, 4, 5, 6, 7, 8] (by decide) rfl rfl)⟩
    ·
     clear hE42 hS3
     rintro r53 a44 w45 ⟨t15, q9_0, q2_0, q9_0A, q9_0C, q2_0A, q2_0C, hT48, hr49, hi50, hi51, hi52, hE46, hS47⟩
     obtain ⟨r53, rfl⟩ : ∃ r', r53 = r' + 1 := ⟨r53 - 1, by omega⟩
     refine c_seq ?_
     refine c_reg ?_
     refine q_step (v := .bool (decide (t15 < nn))) hE46 (y_lss rfl rfl) rfl rfl rfl ?_; intro a54 hE55; clear hE46
     refine c_nil ?_
     have hE56 := hE55.sub (L' := [(0, .int .i64 used), (1, .pointer (some ⟨orderB, 0, none⟩)), (4, .pointer (some ⟨growB, 0, none⟩)), (14, .int .i64 nn), (15, .int .i64 t15), (16, .bool (decide (t15 < nn)))]) ⟨rfl, rfl, rfl, rfl, rfl, rfl, trivial⟩; clear hE55
     refine p_tn ?_
     refine c_seq ?_
     refine c_cond hE56 rfl (fun ht57 => ?_) (fun ht57 => ?_)
     ·
      have hp58 := of_decide_eq_true ht57
      have hE59 := hE56; rw [ht57] at hE59; clear hE56
      have hcl := (show q9_0 = order by assumption)
      have hcl2 : q9_0.length = order.length := by rw [hcl]
      have hal := len_app1 q9_0 t15
      refine wp_skip ?_
      refine p_tn ?_
      refine c_seq ?_
      refine wp_block ?_
      refine c_seq ?_
      refine c_reg ?_
      refine q_step (v := .int .i64 t15) hE59 (y_move rfl) rfl rfl rfl ?_; intro a60 hE61; clear hE59
      refine q_step (v := .int .i64 t15) hE61 (y_assign rfl) rfl rfl rfl ?_; intro a62 hE63; clear hE61
      refine c_nil ?_
      have hE64 := hE63.sub (L' := [(0, .int .i64 used), (1, .pointer (some ⟨orderB, 0, none⟩)), (4, .pointer (some ⟨growB, 0, none⟩)), (6, .int .i64 t15), (14, .int .i64 nn), (15, .int .i64 t15)]) ⟨rfl, rfl, rfl, rfl, rfl, rfl, trivial⟩; clear hE63
      refine p_tn ?_
      refine c_seq ?_
      refine c_reg ?_
      refine q_step (v := .int .i64 used) hE64 (y_move rfl) rfl rfl rfl ?_; intro a65 hE66; clear hE64
      refine q_step (v := .int .i64 t15) hE66 (y_move rfl) rfl rfl rfl ?_; intro a67 hE68; clear hE66
      have hc75 := c_has used t15 w45 (by omega)
      refine l_step hE68 rfl (l_call (f := 155) (argv := [.int .i64 used, .int .i64 t15]) hE68 (fun _ => cf_has _ _) rfl rfl (by exact hc75) ?_)
      rintro _ _ ⟨rfl, rfl⟩ a71 hE72; clear hE68
      refine q_step (v := .bool (!(F_has used t15))) hE72 (y_not rfl) rfl rfl rfl ?_; intro a76 hE77; clear hE72
      refine c_nil ?_
      have hE78 := hE77.sub (L' := [(0, .int .i64 used), (1, .pointer (some ⟨orderB, 0, none⟩)), (4, .pointer (some ⟨growB, 0, none⟩)), (6, .int .i64 t15), (14, .int .i64 nn), (15, .int .i64 t15), (21, .bool (!(F_has used t15)))]) ⟨rfl, rfl, rfl, rfl, rfl, rfl, rfl, trivial⟩; clear hE77
      refine p_tn ?_
      refine c_cond hE78 rfl (fun ht79 => ?_) (fun ht79 => ?_)
      ·
       have ht80 := bn_t ht79
       have hE81 := hE78; rw [ht79] at hE81; clear hE78
       refine c_seq ?_
       refine c_reg ?_
       refine q_step (v := .slice q9_0A ((q9_0).length) q9_0C) hE81 (y_load (fun _ => by kernel_rfl) rfl (St.cell (i := 0) hS47 rfl rfl)) rfl rfl rfl ?_; intro a82 hE83; clear hE81
       refine q_step (v := .int .i64 t15) hE83 (y_move rfl) rfl rfl rfl ?_; intro a84 hE85; clear hE83
       refine l_step hE85 rfl (l_lit (e := 2) (s := 1) (xs := [t15]) (vs := [.int .i64 t15]) hS47 hE85 rfl (fun _ => by kernel_rfl) rfl rfl rfl ?_)
       intro b86 w87 hS90 he91 a88 hE89; clear hS47 hE85
       obtain ⟨_, hi1, hi2, hi3, hi4⟩ := info_parts (show (Try.prog.info? 2).map (fun i => (i.zero, i.size, i.bytes)) = some (some (.int .i64 0), 1, 8) by kernel_rfl)
       refine l_step hE89 rfl (l_append (k := 2) (n' := (q9_0 ++ ([t15])).length) hS90 hE89 (by kernel_rfl) hi1 hi2 hi3 rfl (by decide) (by rw [hi4]; decide) rfl rfl rfl (St.rdO (i := 0) hS90 rfl) (by first | omega | (simp only [List.length_append, List.length_cons, List.length_nil]; omega)) (by have h1 := (St.rdO (i := 2) hS90 rfl).len1; have h2 := (St.rdO (i := 0) hS90 rfl).len1; first | rw [List.length_append, h1, h2] | (simp only [List.length_append])) rfl ?_)
       intro b92 c98 w93 hS96 a94 hE95; clear hS90 hE89 hi1 hi2 hi3 hi4
       refine l_step hE95 rfl (l_storeB (k := 1) (cs' := #[.slice b92 ((q9_0 ++ ([t15])).length) c98]) hS96 hE95 (fun _ => by kernel_rfl) rfl rfl rfl rfl rfl rfl rfl ?_)
       intro w100 hS103 a101 hE102; clear hS96 hE95
       refine c_nil ?_
       have hE105 := hE102.sub (L' := [(0, .int .i64 used), (1, .pointer (some ⟨orderB, 0, none⟩)), (4, .pointer (some ⟨growB, 0, none⟩)), (6, .int .i64 t15), (14, .int .i64 nn), (15, .int .i64 t15)]) ⟨rfl, rfl, rfl, rfl, rfl, rfl, trivial⟩; clear hE102
       refine p_tn ?_
       refine c_seq ?_
       refine d_start (fun w w' => (fun w' => w'.cell? ⟨growB, 0, none⟩ = some (.func (.func 234) #[] #[.pointer (some ⟨orderB, 0, none⟩), .pointer (some ⟨nnB, 0, none⟩), .pointer (some ⟨visitB, 0, none⟩), .pointer (some ⟨growB, 0, none⟩)]) ∧ True) w → (fun w' => w'.cell? ⟨growB, 0, none⟩ = some (.func (.func 234) #[] #[.pointer (some ⟨orderB, 0, none⟩), .pointer (some ⟨nnB, 0, none⟩), .pointer (some ⟨visitB, 0, none⟩), .pointer (some ⟨growB, 0, none⟩)]) ∧ True) w') [0] 6 (by kernel_rfl) rfl ?_
       intro w106 he107; have hS108 := St.go hS103 he107; clear hS103
       refine d_take (fun _ h => h) (fun _ _ h k => h k) (v := .func (.func 234) #[] #[.pointer (some ⟨orderB, 0, none⟩), .pointer (some ⟨nnB, 0, none⟩), .pointer (some ⟨visitB, 0, none⟩), .pointer (some ⟨growB, 0, none⟩)]) 0 rfl hE105 (S := fun w' => w'.cell? ⟨growB, 0, none⟩ = some (.func (.func 234) #[] #[.pointer (some ⟨orderB, 0, none⟩), .pointer (some ⟨nnB, 0, none⟩), .pointer (some ⟨visitB, 0, none⟩), .pointer (some ⟨growB, 0, none⟩)]) ∧ True) ⟨(St.cell (i := 5) hS108 rfl rfl _ (Ext.refl _)), trivial⟩ (y_load (fun _ => by kernel_rfl) rfl (fun _ h => h.1)) rfl rfl (by kernel_rfl) (by kernel_rfl) (by kernel_rfl) (by kernel_rfl) rfl rfl (fun _ _ _ h => h) ?_; intro a109 hE110; clear hE105
       refine d_pure (fun _ h => h) (v := .int .i64 used) 1 rfl hE110 (y_move rfl) rfl (by kernel_rfl) (by kernel_rfl) (by kernel_rfl) rfl rfl (fun _ _ _ h => h) ?_; intro a111 hE112; clear hE110
       refine d_pure (fun _ h => h) (v := .int .i64 t15) 2 rfl hE112 (y_move rfl) rfl (by kernel_rfl) (by kernel_rfl) (by kernel_rfl) rfl rfl (fun _ _ _ h => h) ?_; intro a113 hE114; clear hE112
       refine d_pure (fun _ h => h) (v := .int .i64 (shlI 1 t15)) 3 rfl hE114 (y_shl rfl rfl (by omega)) rfl (by kernel_rfl) (by kernel_rfl) (by kernel_rfl) rfl rfl (fun _ _ _ h => h) ?_; intro a115 hE116; clear hE114
       refine d_pure (fun _ h => h) (v := .int .i64 (orI used (shlI 1 t15))) 4 rfl hE116 (y_or rfl rfl) rfl (by kernel_rfl) (by kernel_rfl) (by kernel_rfl) rfl rfl (fun _ _ _ h => h) ?_; intro a117 hE118; clear hE116
       have hS125 := (St.pickT (Γ := [.own 2 1 (some ⟨b86, 0, none⟩) 1 1 ([t15]), .blk orderB #[.slice b92 ((q9_0 ++ ([t15])).length) c98] 22, .own 2 1 b92 ((q9_0 ++ ([t15])).length) c98 (q9_0 ++ ([t15])), .blk nnB #[.int .i64 nn] 2, .blk visitB #[.func (.func 186) #[] #[.pointer (some ⟨relB, 0, none⟩), .pointer (some ⟨bestB, 0, none⟩)]] 151, .blk growB #[.func (.func 234) #[] #[.pointer (some ⟨orderB, 0, none⟩), .pointer (some ⟨nnB, 0, none⟩), .pointer (some ⟨visitB, 0, none⟩), .pointer (some ⟨growB, 0, none⟩)]] 167, .blk relB #[.slice relA rel.length relC] 22, .rd 1 relA rel.length relC rel, .blk bestB #[.slice q2_0A ((q2_0).length) q2_0C] 22, .own 2 1 q2_0A ((q2_0).length) q2_0C q2_0]) (Γ' := [.blk orderB #[.slice b92 ((q9_0 ++ ([t15])).length) c98] 22, .own 2 1 b92 ((q9_0 ++ ([t15])).length) c98 (q9_0 ++ ([t15])), .blk nnB #[.int .i64 nn] 2, .blk visitB #[.func (.func 186) #[] #[.pointer (some ⟨relB, 0, none⟩), .pointer (some ⟨bestB, 0, none⟩)]] 151, .blk growB #[.func (.func 234) #[] #[.pointer (some ⟨orderB, 0, none⟩), .pointer (some ⟨nnB, 0, none⟩), .pointer (some ⟨visitB, 0, none⟩), .pointer (some ⟨growB, 0, none⟩)]] 167, .blk relB #[.slice relA rel.length relC] 22, .rd 1 relA rel.length relC rel, .blk bestB #[.slice q2_0A ((q2_0).length) q2_0C] 22, .own 2 1 q2_0A ((q2_0).length) q2_0C q2_0, .own 2 1 (some ⟨b86, 0, none⟩) 1 1 ([t15])]) (Γ0 := Γ0) hS108 [1, 2, 3, 4, 5, 6, 7, 8, 9, 0] (by decide) rfl rfl); clear hS108
       have hc126 := ih (orI used (shlI 1 t15)) orderB b92 ((q9_0 ++ ([t15])).length) c98 (q9_0 ++ ([t15])) nnB nn visitB growB relB relA rel.length relC rel bestB q2_0A ((q2_0).length) q2_0C q2_0 w106 w0v (.own 2 1 (some ⟨b86, 0, none⟩) 1 1 ([t15]) :: Γ0) hS125 (by omega) hrm (by omega) (by omega) (or_bit (by omega) (by omega) hu (by omega) (by omega)) (by rw [hcl]; exact rng_app hx (by omega) (by omega)) (by omega)
       refine d_only 5 (by kernel_rfl) rfl hE118 rfl (l_callv (f := 234) (caps := [.pointer (some ⟨orderB, 0, none⟩), .pointer (some ⟨nnB, 0, none⟩), .pointer (some ⟨visitB, 0, none⟩), .pointer (some ⟨growB, 0, none⟩)]) (argv := [.int .i64 (orI used (shlI 1 t15))]) hE118 rfl (fun _ => cf_permutations_k1 _ _) rfl rfl (by exact hc126) ?_)
       rintro _ w120 ⟨b127, c128, b129, c130, rfl, hS123⟩ a121 hE122; clear hE118 hc126
       have hf131 := hpost (orI used (shlI 1 t15)) (q9_0 ++ ([t15])) nn rel q2_0 hr hrm hn (by omega) (or_bit (by omega) (by omega) hu (by omega) (by omega)) (by rw [hcl]; exact rng_app hx (by omega) (by omega)) (by omega)
       have hf132 := congrArg List.length (hpost (orI used (shlI 1 t15)) (q9_0 ++ ([t15])) nn rel q2_0 hr hrm hn (by omega) (or_bit (by omega) (by omega) hu (by omega) (by omega)) (by rw [hcl]; exact rng_app hx (by omega) (by omega)) (by omega))
       refine ⟨fun h => Bool.noConfusion (h.symm.trans (show exm _ _ _ = true by kernel_rfl)), ?_⟩
       refine d_done (by kernel_rfl) ?_
       have hE133 := hE122.sub (L' := [(0, .int .i64 used), (1, .pointer (some ⟨orderB, 0, none⟩)), (4, .pointer (some ⟨growB, 0, none⟩)), (14, .int .i64 nn), (15, .int .i64 t15)]) ⟨rfl, rfl, rfl, rfl, rfl, trivial⟩; clear hE122
       refine p_tn ?_
       refine c_reg ?_
       refine q_step (v := .slice b127 (((self (orI used (shlI 1 t15)) (q9_0 ++ ([t15])) nn rel q2_0).1).length) c128) hE133 (y_load (fun _ => by kernel_rfl) rfl (St.cell (i := 0) hS123 rfl rfl)) rfl rfl rfl ?_; intro a134 hE135; clear hE133
       refine q_step (v := .slice b127 (((self (orI used (shlI 1 t15)) (q9_0 ++ ([t15])) nn rel q2_0).1).length) c128) hE135 (y_load (fun _ => by kernel_rfl) rfl (St.cell (i := 0) hS123 rfl rfl)) rfl rfl rfl ?_; intro a136 hE137; clear hE135
       refine q_step (v := .int .i64 (((self (orI used (shlI 1 t15)) (q9_0 ++ ([t15])) nn rel q2_0).1).length : Int)) hE137 (y_len (e := 2) (by kernel_rfl) rfl) rfl rfl rfl ?_; intro a138 hE139; clear hE137
       refine q_step (v := .int .i64 ((((self (orI used (shlI 1 t15)) (q9_0 ++ ([t15])) nn rel q2_0).1).length : Int) - 1)) hE139 (y_sub rfl rfl ⟨(by omega), (by omega)⟩) rfl rfl rfl ?_; intro a140 hE141; clear hE139
       have hv142 : (0 : Int) ≤ ((((self (orI used (shlI 1 t15)) (q9_0 ++ ([t15])) nn rel q2_0).1).length : Int) - 1) ∧ ((((self (orI used (shlI 1 t15)) (q9_0 ++ ([t15])) nn rel q2_0).1).length : Int) - 1) ≤ (((self (orI used (shlI 1 t15)) (q9_0 ++ ([t15])) nn rel q2_0).1).length : Int) := ⟨(by omega), (by omega)⟩
       have hv143 := (St.rdO (i := 1) hS123 rfl).2.1
       have hv144 : Int.toNat ((((self (orI used (shlI 1 t15)) (q9_0 ++ ([t15])) nn rel q2_0).1).length : Int) - 1) = (slI 1 ((self (orI used (shlI 1 t15)) (q9_0 ++ ([t15])) nn rel q2_0).1) 0 ((((self (orI used (shlI 1 t15)) (q9_0 ++ ([t15])) nn rel q2_0).1).length : Int) - 1)).length := (by have h := (slI_lenD (l := 0) (by decide) (St.rdO (i := 1) hS123 rfl).1 hv142.2); simpa using h.symm)
       have hS145 := St.pre (k := 1) hS123 rfl hv142.1 hv142.2 hv144
       clear hS123
       refine q_step (v := .slice b127 ((slI 1 ((self (orI used (shlI 1 t15)) (q9_0 ++ ([t15])) nn rel q2_0).1) 0 ((((self (orI used (shlI 1 t15)) (q9_0 ++ ([t15])) nn rel q2_0).1).length : Int) - 1)).length) c128) hE141 (y_slicePre (s := 1) (by kernel_rfl) (fun _ => by kernel_rfl) rfl rfl hv142.1 (by omega) hv144) rfl rfl rfl ?_; intro a146 hE147; clear hE141
       refine l_step hE147 rfl (l_storeB (k := 0) (cs' := #[.slice b127 ((slI 1 ((self (orI used (shlI 1 t15)) (q9_0 ++ ([t15])) nn rel q2_0).1) 0 ((((self (orI used (shlI 1 t15)) (q9_0 ++ ([t15])) nn rel q2_0).1).length : Int) - 1)).length) c128]) hS145 hE147 (fun _ => by kernel_rfl) rfl rfl rfl rfl rfl rfl rfl ?_)
       intro w149 hS152 a150 hE151; clear hS145 hE147
       refine c_nil ?_
       have hE154 := hE151.sub (L' := [(0, .int .i64 used), (1, .pointer (some ⟨orderB, 0, none⟩)), (4, .pointer (some ⟨growB, 0, none⟩)), (14, .int .i64 nn), (15, .int .i64 t15)]) ⟨rfl, rfl, rfl, rfl, rfl, trivial⟩; clear hE151
       refine p_bn ?_
       refine p_tn ?_
       refine c_reg ?_
       refine q_step (v := .int .i64 (t15 + 1)) hE154 (y_add rfl rfl ⟨(by omega), (by omega)⟩) rfl rfl rfl ?_; intro a155 hE156; clear hE154
       refine q_step (v := .int .i64 (t15 + 1)) hE156 (y_move rfl) rfl rfl rfl ?_; intro a157 hE158; clear hE156
       refine c_nil ?_
       have hE159 := hE158.sub (L' := [(0, .int .i64 used), (1, .pointer (some ⟨orderB, 0, none⟩)), (4, .pointer (some ⟨growB, 0, none⟩)), (14, .int .i64 nn), (15, .int .i64 (t15 + 1))]) ⟨rfl, rfl, rfl, rfl, rfl, trivial⟩; clear hE158
       refine p_tn ⟨r53, Nat.lt_succ_self _, t15 + 1, slI 1 ((self (orI used (shlI 1 t15)) (q9_0 ++ ([t15])) nn rel q2_0).1) 0 ((((self (orI used (shlI 1 t15)) (q9_0 ++ ([t15])) nn rel q2_0).1).length : Int) - 1), (self (orI used (shlI 1 t15)) (q9_0 ++ ([t15])) nn rel q2_0).2, b127, c128, b129, c130, (hT48.symm.trans (show F_permutations_k1_L1b used nn rel self (F_permutations_k1_L1 used nn rel self r53) t15 q9_0 q2_0 = F_permutations_k1_L1 used nn rel self r53 (t15 + 1) (slI 1 ((self (orI used (shlI 1 t15)) (q9_0 ++ ([t15])) nn rel q2_0).1) 0 ((((self (orI used (shlI 1 t15)) (q9_0 ++ ([t15])) nn rel q2_0).1).length : Int) - 1)) ((self (orI used (shlI 1 t15)) (q9_0 ++ ([t15])) nn rel q2_0).2) by unfold F_permutations_k1_L1b; rw [ht79, ht57]; first | done | rfl)).symm, (by omega), (by first | omega | (simp only [sS_len, sL_len]; omega) | (simp only [List.length_replicate, sI_len]; omega) | (simp only [List.length_append, List.length_cons, List.length_nil, sI_len, cond_true, cond_false]; omega) | (simp only [List.length_append, List.length_cons, List.length_nil, sI_len, cond_eq_ite, apply_ite List.length]; split <;> simp only [List.length_append, List.length_cons, List.length_nil, sI_len] <;> omega) | grind), (by first | omega | (simp only [sS_len, sL_len]; omega) | (simp only [List.length_replicate, sI_len]; omega) | (simp only [List.length_append, List.length_cons, List.length_nil, sI_len, cond_true, cond_false]; omega) | (simp only [List.length_append, List.length_cons, List.length_nil, sI_len, cond_eq_ite, apply_ite List.length]; split <;> simp only [List.length_append, List.length_cons, List.length_nil, sI_len] <;> omega) | grind), (by first | assumption | (rw [(show (self (orI used (shlI 1 t15)) (q9_0 ++ [t15]) nn rel q2_0).1 = q9_0 ++ [t15] by assumption), slI_pop2]; exact hcl)), (hE159.sub (L' := [(0, .int .i64 used), (1, .pointer (some ⟨orderB, 0, none⟩)), (4, .pointer (some ⟨growB, 0, none⟩)), (14, .int .i64 nn), (15, .int .i64 (t15 + 1))]) ⟨rfl, rfl, rfl, rfl, rfl, trivial⟩), (St.pickT (Γ := [.blk orderB #[.slice b127 ((slI 1 ((self (orI used (shlI 1 t15)) (q9_0 ++ ([t15])) nn rel q2_0).1) 0 ((((self (orI used (shlI 1 t15)) (q9_0 ++ ([t15])) nn rel q2_0).1).length : Int) - 1)).length) c128] 22, .own 2 1 b127 ((slI 1 ((self (orI used (shlI 1 t15)) (q9_0 ++ ([t15])) nn rel q2_0).1) 0 ((((self (orI used (shlI 1 t15)) (q9_0 ++ ([t15])) nn rel q2_0).1).length : Int) - 1)).length) c128 (slI 1 ((self (orI used (shlI 1 t15)) (q9_0 ++ ([t15])) nn rel q2_0).1) 0 ((((self (orI used (shlI 1 t15)) (q9_0 ++ ([t15])) nn rel q2_0).1).length : Int) - 1)), .blk nnB #[.int .i64 nn] 2, .blk visitB #[.func (.func 186) #[] #[.pointer (some ⟨relB, 0, none⟩), .pointer (some ⟨bestB, 0, none⟩)]] 151, .blk growB #[.func (.func 234) #[] #[.pointer (some ⟨orderB, 0, none⟩), .pointer (some ⟨nnB, 0, none⟩), .pointer (some ⟨visitB, 0, none⟩), .pointer (some ⟨growB, 0, none⟩)]] 167, .blk relB #[.slice relA rel.length relC] 22, .rd 1 relA rel.length relC rel, .blk bestB #[.slice b129 (((self (orI used (shlI 1 t15)) (q9_0 ++ ([t15])) nn rel q2_0).2).length) c130] 22, .own 2 1 b129 (((self (orI used (shlI 1 t15)) (q9_0 ++ ([t15])) nn rel q2_0).2).length) c130 ((self (orI used (shlI 1 t15)) (q9_0 ++ ([t15])) nn rel q2_0).2), .own 2 1 (some ⟨b86, 0, none⟩) 1 1 ([t15])]) (Γ' := [.blk orderB #[.slice b127 ((slI 1 ((self (orI used (shlI 1 t15)) (q9_0 ++ ([t15])) nn rel q2_0).1) 0 ((((self (orI used (shlI 1 t15)) (q9_0 ++ ([t15])) nn rel q2_0).1).length : Int) - 1)).length) c128] 22, .own 2 1 b127 ((slI 1 ((self (orI used (shlI 1 t15)) (q9_0 ++ ([t15])) nn rel q2_0).1) 0 ((((self (orI used (shlI 1 t15)) (q9_0 ++ ([t15])) nn rel q2_0).1).length : Int) - 1)).length) c128 (slI 1 ((self (orI used (shlI 1 t15)) (q9_0 ++ ([t15])) nn rel q2_0).1) 0 ((((self (orI used (shlI 1 t15)) (q9_0 ++ ([t15])) nn rel q2_0).1).length : Int) - 1)), .blk nnB #[.int .i64 nn] 2, .blk visitB #[.func (.func 186) #[] #[.pointer (some ⟨relB, 0, none⟩), .pointer (some ⟨bestB, 0, none⟩)]] 151, .blk growB #[.func (.func 234) #[] #[.pointer (some ⟨orderB, 0, none⟩), .pointer (some ⟨nnB, 0, none⟩), .pointer (some ⟨visitB, 0, none⟩), .pointer (some ⟨growB, 0, none⟩)]] 167, .blk relB #[.slice relA rel.length relC] 22, .rd 1 relA rel.length relC rel, .blk bestB #[.slice b129 (((self (orI used (shlI 1 t15)) (q9_0 ++ ([t15])) nn rel q2_0).2).length) c130] 22, .own 2 1 b129 (((self (orI used (shlI 1 t15)) (q9_0 ++ ([t15])) nn rel q2_0).2).length) c130 ((self (orI used (shlI 1 t15)) (q9_0 ++ ([t15])) nn rel q2_0).2)]) (Γ0 := Γ0) hS152 [0, 1, 2, 3, 4, 5, 6, 7, 8] (by decide) rfl rfl)⟩
      ·
       have ht160 := bn_f ht79
       have hE161 := hE78; rw [ht79] at hE161; clear hE78
       refine wp_skip ?_
       refine p_bn ?_
       refine p_tn ?_
       refine c_reg ?_
       refine q_step (v := .int .i64 (t15 + 1)) hE161 (y_add rfl rfl ⟨(by omega), (by omega)⟩) rfl rfl rfl ?_; intro a162 hE163; clear hE161
       refine q_step (v := .int .i64 (t15 + 1)) hE163 (y_move rfl) rfl rfl rfl ?_; intro a164 hE165; clear hE163
       refine c_nil ?_
       have hE166 := hE165.sub (L' := [(0, .int .i64 used), (1, .pointer (some ⟨orderB, 0, none⟩)), (4, .pointer (some ⟨growB, 0, none⟩)), (14, .int .i64 nn), (15, .int .i64 (t15 + 1))]) ⟨rfl, rfl, rfl, rfl, rfl, trivial⟩; clear hE165
       refine p_tn ⟨r53, Nat.lt_succ_self _, t15 + 1, q9_0, q2_0, q9_0A, q9_0C, q2_0A, q2_0C, (hT48.symm.trans (show F_permutations_k1_L1b used nn rel self (F_permutations_k1_L1 used nn rel self r53) t15 q9_0 q2_0 = F_permutations_k1_L1 used nn rel self r53 (t15 + 1) q9_0 q2_0 by unfold F_permutations_k1_L1b; rw [ht79, ht57]; first | done | rfl)).symm, (by omega), (by first | omega | (simp only [sS_len, sL_len]; omega) | (simp only [List.length_replicate, sI_len]; omega) | (simp only [List.length_append, List.length_cons, List.length_nil, sI_len, cond_true, cond_false]; omega) | (simp only [List.length_append, List.length_cons, List.length_nil, sI_len, cond_eq_ite, apply_ite List.length]; split <;> simp only [List.length_append, List.length_cons, List.length_nil, sI_len] <;> omega) | grind), (by first | omega | (simp only [sS_len, sL_len]; omega) | (simp only [List.length_replicate, sI_len]; omega) | (simp only [List.length_append, List.length_cons, List.length_nil, sI_len, cond_true, cond_false]; omega) | (simp only [List.length_append, List.length_cons, List.length_nil, sI_len, cond_eq_ite, apply_ite List.length]; split <;> simp only [List.length_append, List.length_cons, List.length_nil, sI_len] <;> omega) | grind), (by first | assumption | (rw [(show (self (orI used (shlI 1 t15)) (q9_0 ++ [t15]) nn rel q2_0).1 = q9_0 ++ [t15] by assumption), slI_pop2]; exact hcl)), (hE166.sub (L' := [(0, .int .i64 used), (1, .pointer (some ⟨orderB, 0, none⟩)), (4, .pointer (some ⟨growB, 0, none⟩)), (14, .int .i64 nn), (15, .int .i64 (t15 + 1))]) ⟨rfl, rfl, rfl, rfl, rfl, trivial⟩), (St.pickT (Γ := [.blk orderB #[.slice q9_0A ((q9_0).length) q9_0C] 22, .own 2 1 q9_0A ((q9_0).length) q9_0C q9_0, .blk nnB #[.int .i64 nn] 2, .blk visitB #[.func (.func 186) #[] #[.pointer (some ⟨relB, 0, none⟩), .pointer (some ⟨bestB, 0, none⟩)]] 151, .blk growB #[.func (.func 234) #[] #[.pointer (some ⟨orderB, 0, none⟩), .pointer (some ⟨nnB, 0, none⟩), .pointer (some ⟨visitB, 0, none⟩), .pointer (some ⟨growB, 0, none⟩)]] 167, .blk relB #[.slice relA rel.length relC] 22, .rd 1 relA rel.length relC rel, .blk bestB #[.slice q2_0A ((q2_0).length) q2_0C] 22, .own 2 1 q2_0A ((q2_0).length) q2_0C q2_0]) (Γ' := [.blk orderB #[.slice q9_0A ((q9_0).length) q9_0C] 22, .own 2 1 q9_0A ((q9_0).length) q9_0C q9_0, .blk nnB #[.int .i64 nn] 2, .blk visitB #[.func (.func 186) #[] #[.pointer (some ⟨relB, 0, none⟩), .pointer (some ⟨bestB, 0, none⟩)]] 151, .blk growB #[.func (.func 234) #[] #[.pointer (some ⟨orderB, 0, none⟩), .pointer (some ⟨nnB, 0, none⟩), .pointer (some ⟨visitB, 0, none⟩), .pointer (some ⟨growB, 0, none⟩)]] 167, .blk relB #[.slice relA rel.length relC] 22, .rd 1 relA rel.length relC rel, .blk bestB #[.slice q2_0A ((q2_0).length) q2_0C] 22, .own 2 1 q2_0A ((q2_0).length) q2_0C q2_0]) (Γ0 := Γ0) hS47 [0, 1, 2, 3, 4, 5, 6, 7, 8] (by decide) rfl rfl)⟩
     ·
      have hp167 := of_decide_eq_false ht57
      have hE168 := hE56; rw [ht57] at hE168; clear hE56
      refine wp_exit ?_
      refine p_te ?_
      have hX169 : F_permutations_k1_L1 used nn rel self (Int.toNat (nn - 0) + 1) 0 order best = (t15, q9_0, q2_0) := hT48.symm.trans (show F_permutations_k1_L1b used nn rel self (F_permutations_k1_L1 used nn rel self r53) t15 q9_0 q2_0 = (t15, q9_0, q2_0) by unfold F_permutations_k1_L1b; rw [ht57]; first | done | rfl)
      refine p_te (p_be (p_tn ?_))
      exact ⟨q9_0A, q9_0C, q2_0A, q2_0C, (by rw [hX169]; exact (show 0 ≤ t15 from (by first | omega | (simp only [sS_len, sL_len]; omega) | (simp only [List.length_replicate, sI_len]; omega) | (simp only [List.length_append, List.length_cons, List.length_nil, sI_len, cond_true, cond_false]; omega) | (simp only [List.length_append, List.length_cons, List.length_nil, sI_len, cond_eq_ite, apply_ite List.length]; split <;> simp only [List.length_append, List.length_cons, List.length_nil, sI_len] <;> omega) | grind))), (by rw [hX169]; exact (show t15 ≤ nn from (by first | omega | (simp only [sS_len, sL_len]; omega) | (simp only [List.length_replicate, sI_len]; omega) | (simp only [List.length_append, List.length_cons, List.length_nil, sI_len, cond_true, cond_false]; omega) | (simp only [List.length_append, List.length_cons, List.length_nil, sI_len, cond_eq_ite, apply_ite List.length]; split <;> simp only [List.length_append, List.length_cons, List.length_nil, sI_len] <;> omega) | grind))), (by rw [hX169]; exact (show q9_0 = order from (by first | omega | (simp only [sS_len, sL_len]; omega) | (simp only [List.length_replicate, sI_len]; omega) | (simp only [List.length_append, List.length_cons, List.length_nil, sI_len, cond_true, cond_false]; omega) | (simp only [List.length_append, List.length_cons, List.length_nil, sI_len, cond_eq_ite, apply_ite List.length]; split <;> simp only [List.length_append, List.length_cons, List.length_nil, sI_len] <;> omega) | grind))), (by rw [hX169]; exact (hE168.sub (L' := [(0, .int .i64 used), (1, .pointer (some ⟨orderB, 0, none⟩)), (4, .pointer (some ⟨growB, 0, none⟩)), (14, .int .i64 nn), (15, .int .i64 t15)]) ⟨rfl, rfl, rfl, rfl, rfl, trivial⟩)), (by rw [hX169]; exact (St.pickT (Γ := [.blk orderB #[.slice q9_0A ((q9_0).length) q9_0C] 22, .own 2 1 q9_0A ((q9_0).length) q9_0C q9_0, .blk nnB #[.int .i64 nn] 2, .blk visitB #[.func (.func 186) #[] #[.pointer (some ⟨relB, 0, none⟩), .pointer (some ⟨bestB, 0, none⟩)]] 151, .blk growB #[.func (.func 234) #[] #[.pointer (some ⟨orderB, 0, none⟩), .pointer (some ⟨nnB, 0, none⟩), .pointer (some ⟨visitB, 0, none⟩), .pointer (some ⟨growB, 0, none⟩)]] 167, .blk relB #[.slice relA rel.length relC] 22, .rd 1 relA rel.length relC rel, .blk bestB #[.slice q2_0A ((q2_0).length) q2_0C] 22, .own 2 1 q2_0A ((q2_0).length) q2_0C q2_0]) (Γ' := [.blk orderB #[.slice q9_0A ((q9_0).length) q9_0C] 22, .own 2 1 q9_0A ((q9_0).length) q9_0C q9_0, .blk nnB #[.int .i64 nn] 2, .blk visitB #[.func (.func 186) #[] #[.pointer (some ⟨relB, 0, none⟩), .pointer (some ⟨bestB, 0, none⟩)]] 151, .blk growB #[.func (.func 234) #[] #[.pointer (some ⟨orderB, 0, none⟩), .pointer (some ⟨nnB, 0, none⟩), .pointer (some ⟨visitB, 0, none⟩), .pointer (some ⟨growB, 0, none⟩)]] 167, .blk relB #[.slice relA rel.length relC] 22, .rd 1 relA rel.length relC rel, .blk bestB #[.slice q2_0A ((q2_0).length) q2_0C] 22, .own 2 1 q2_0A ((q2_0).length) q2_0C q2_0]) (Γ0 := Γ0) hS47 [0, 1, 2, 3, 4, 5, 6, 7, 8] (by decide) rfl rfl))⟩
   ·
    rintro a170 w171 ⟨q9_0A_43, q9_0C_43, q2_0A_43, q2_0C_43, hi175, hi176, hi177, hE172, hS173⟩; clear hE42 hS3
    have hF : F_permutations_k1_b self used order nn rel best = ((F_permutations_k1_L1 used nn rel self (Int.toNat (nn - 0) + 1) 0 order best).2.1, (F_permutations_k1_L1 used nn rel self (Int.toNat (nn - 0) + 1) 0 order best).2.2) := by unfold F_permutations_k1_b; rw [ht18]; first | done | rfl
    refine c_end0 hE172 rfl ?_
    have hS9 := (St.pickT (Γ := [.blk orderB #[.slice q9_0A_43 (((F_permutations_k1_L1 used nn rel self (Int.toNat (nn - 0) + 1) 0 order best).2.1).length) q9_0C_43] 22, .own 2 1 q9_0A_43 (((F_permutations_k1_L1 used nn rel self (Int.toNat (nn - 0) + 1) 0 order best).2.1).length) q9_0C_43 ((F_permutations_k1_L1 used nn rel self (Int.toNat (nn - 0) + 1) 0 order best).2.1), .blk nnB #[.int .i64 nn] 2, .blk visitB #[.func (.func 186) #[] #[.pointer (some ⟨relB, 0, none⟩), .pointer (some ⟨bestB, 0, none⟩)]] 151, .blk growB #[.func (.func 234) #[] #[.pointer (some ⟨orderB, 0, none⟩), .pointer (some ⟨nnB, 0, none⟩), .pointer (some ⟨visitB, 0, none⟩), .pointer (some ⟨growB, 0, none⟩)]] 167, .blk relB #[.slice relA rel.length relC] 22, .rd 1 relA rel.length relC rel, .blk bestB #[.slice q2_0A_43 (((F_permutations_k1_L1 used nn rel self (Int.toNat (nn - 0) + 1) 0 order best).2.2).length) q2_0C_43] 22, .own 2 1 q2_0A_43 (((F_permutations_k1_L1 used nn rel self (Int.toNat (nn - 0) + 1) 0 order best).2.2).length) q2_0C_43 ((F_permutations_k1_L1 used nn rel self (Int.toNat (nn - 0) + 1) 0 order best).2.2)]) (Γ' := [.blk orderB #[.slice q9_0A_43 (((F_permutations_k1_L1 used nn rel self (Int.toNat (nn - 0) + 1) 0 order best).2.1).length) q9_0C_43] 22, .own 2 1 q9_0A_43 (((F_permutations_k1_L1 used nn rel self (Int.toNat (nn - 0) + 1) 0 order best).2.1).length) q9_0C_43 ((F_permutations_k1_L1 used nn rel self (Int.toNat (nn - 0) + 1) 0 order best).2.1), .blk nnB #[.int .i64 nn] 2, .blk visitB #[.func (.func 186) #[] #[.pointer (some ⟨relB, 0, none⟩), .pointer (some ⟨bestB, 0, none⟩)]] 151, .blk growB #[.func (.func 234) #[] #[.pointer (some ⟨orderB, 0, none⟩), .pointer (some ⟨nnB, 0, none⟩), .pointer (some ⟨visitB, 0, none⟩), .pointer (some ⟨growB, 0, none⟩)]] 167, .blk relB #[.slice relA rel.length relC] 22, .rd 1 relA rel.length relC rel, .blk bestB #[.slice q2_0A_43 (((F_permutations_k1_L1 used nn rel self (Int.toNat (nn - 0) + 1) 0 order best).2.2).length) q2_0C_43] 22, .own 2 1 q2_0A_43 (((F_permutations_k1_L1 used nn rel self (Int.toNat (nn - 0) + 1) 0 order best).2.2).length) q2_0C_43 ((F_permutations_k1_L1 used nn rel self (Int.toNat (nn - 0) + 1) 0 order best).2.2)]) (Γ0 := Γ0) hS173 [0, 1, 2, 3, 4, 5, 6, 7, 8] (by decide) rfl rfl)
    exact ⟨q9_0A_43, q9_0C_43, q2_0A_43, q2_0C_43, rfl, (by rw [hF]; (try dsimp only); exact hS9)⟩
theorem c_permutations_k1_r : ∀ (r : Nat) (used : Int) (orderB : Nat) (orderA : Option Addr) (orderN orderC : Nat) (order : List Int) (nnB : Nat) (nn : Int) (visitB : Nat) (growB : Nat) (relB : Nat) (relA : Option Addr) (relN relC : Nat) (rel : List Int) (bestB : Nat) (bestA : Option Addr) (bestN bestC : Nat) (best : List Int) (w : World) (w0v : World) (Γ0 : List Ent) (hS0 : St w0v w (.blk orderB #[.slice orderA orderN orderC] 22 :: .own 2 1 orderA orderN orderC order :: .blk nnB #[.int .i64 nn] 2 :: .blk visitB #[.func (.func 186) #[] #[.pointer (some ⟨relB, 0, none⟩), .pointer (some ⟨bestB, 0, none⟩)]] 151 :: .blk growB #[.func (.func 234) #[] #[.pointer (some ⟨orderB, 0, none⟩), .pointer (some ⟨nnB, 0, none⟩), .pointer (some ⟨visitB, 0, none⟩), .pointer (some ⟨growB, 0, none⟩)]] 167 :: .blk relB #[.slice relA relN relC] 22 :: .rd 1 relA relN relC rel :: .blk bestB #[.slice bestA bestN bestC] 22 :: .own 2 1 bestA bestN bestC best :: Γ0)) (hr : rel.length ≤ 8) (hrm : ∀ m : Int, 0 ≤ m → m < (rel.length : Int) → 0 ≤ gI rel m ∧ gI rel m ≤ fullI (rel.length : Int)) (hn : nn = (rel.length : Int)) (hl : (order.length : Int) ≤ nn) (hu : 0 ≤ used ∧ used ≤ fullI nn) (hx : ∀ m : Int, 0 ≤ m → m < (order.length : Int) → 0 ≤ gI order m ∧ gI order m < (rel.length : Int)) (hlt : (nn - (order.length : Int)).toNat < r), Calls Try.prog 234 #[.int .i64 used, .pointer (some ⟨orderB, 0, none⟩), .pointer (some ⟨nnB, 0, none⟩), .pointer (some ⟨visitB, 0, none⟩), .pointer (some ⟨growB, 0, none⟩)] w (Ret fun v w' => ∃ orderA1 : Option Addr, ∃ orderC1 : Nat, ∃ bestA1 : Option Addr, ∃ bestC1 : Nat, v = .tuple #[] ∧ St w0v w' (.blk orderB #[.slice orderA1 ((((F_permutations_k1_r r) used order nn rel best).1).length) orderC1] 22 :: .own 2 1 orderA1 ((((F_permutations_k1_r r) used order nn rel best).1).length) orderC1 (((F_permutations_k1_r r) used order nn rel best).1) :: .blk nnB #[.int .i64 nn] 2 :: .blk visitB #[.func (.func 186) #[] #[.pointer (some ⟨relB, 0, none⟩), .pointer (some ⟨bestB, 0, none⟩)]] 151 :: .blk growB #[.func (.func 234) #[] #[.pointer (some ⟨orderB, 0, none⟩), .pointer (some ⟨nnB, 0, none⟩), .pointer (some ⟨visitB, 0, none⟩), .pointer (some ⟨growB, 0, none⟩)]] 167 :: .blk relB #[.slice relA relN relC] 22 :: .rd 1 relA relN relC rel :: .blk bestB #[.slice bestA1 ((((F_permutations_k1_r r) used order nn rel best).2).length) bestC1] 22 :: .own 2 1 bestA1 ((((F_permutations_k1_r r) used order nn rel best).2).length) bestC1 (((F_permutations_k1_r r) used order nn rel best).2) :: Γ0)) := by
  intro r
  induction r with
  | zero => intros; omega
  | succ r ih =>
    intro used orderB orderA orderN orderC order nnB nn visitB growB relB relA relN relC rel bestB bestA bestN bestC best w w0v Γ0 hS0 hr hrm hn hl hu hx hlt
    exact cb_permutations_k1 (F_permutations_k1_r r) ((nn - (order.length : Int)).toNat) (fun used order nn rel best hr hrm hn hl hu hx hm => permLen r used order nn rel best hr hrm hn hl hu hx (by omega)) used orderB orderA orderN orderC order nnB nn visitB growB relB relA relN relC rel bestB bestA bestN bestC best w w0v Γ0 hS0 hr hrm hn hl hu hx rfl (fun used orderB orderA orderN orderC order nnB nn visitB growB relB relA relN relC rel bestB bestA bestN bestC best w w0v Γ0 hS0 hr hrm hn hl hu hx hdec => ih used orderB orderA orderN orderC order nnB nn visitB growB relB relA relN relC rel bestB bestA bestN bestC best w w0v Γ0 hS0 hr hrm hn hl hu hx (by omega))
theorem c_permutations_k1 (used : Int) (orderB : Nat) (orderA : Option Addr) (orderN orderC : Nat) (order : List Int) (nnB : Nat) (nn : Int) (visitB : Nat) (growB : Nat) (relB : Nat) (relA : Option Addr) (relN relC : Nat) (rel : List Int) (bestB : Nat) (bestA : Option Addr) (bestN bestC : Nat) (best : List Int) (w : World) (w0v : World) (Γ0 : List Ent) (hS0 : St w0v w (.blk orderB #[.slice orderA orderN orderC] 22 :: .own 2 1 orderA orderN orderC order :: .blk nnB #[.int .i64 nn] 2 :: .blk visitB #[.func (.func 186) #[] #[.pointer (some ⟨relB, 0, none⟩), .pointer (some ⟨bestB, 0, none⟩)]] 151 :: .blk growB #[.func (.func 234) #[] #[.pointer (some ⟨orderB, 0, none⟩), .pointer (some ⟨nnB, 0, none⟩), .pointer (some ⟨visitB, 0, none⟩), .pointer (some ⟨growB, 0, none⟩)]] 167 :: .blk relB #[.slice relA relN relC] 22 :: .rd 1 relA relN relC rel :: .blk bestB #[.slice bestA bestN bestC] 22 :: .own 2 1 bestA bestN bestC best :: Γ0)) (hr : rel.length ≤ 8) (hrm : ∀ m : Int, 0 ≤ m → m < (rel.length : Int) → 0 ≤ gI rel m ∧ gI rel m ≤ fullI (rel.length : Int)) (hn : nn = (rel.length : Int)) (hl : (order.length : Int) ≤ nn) (hu : 0 ≤ used ∧ used ≤ fullI nn) (hx : ∀ m : Int, 0 ≤ m → m < (order.length : Int) → 0 ≤ gI order m ∧ gI order m < (rel.length : Int)) :
    Calls Try.prog 234 #[.int .i64 used, .pointer (some ⟨orderB, 0, none⟩), .pointer (some ⟨nnB, 0, none⟩), .pointer (some ⟨visitB, 0, none⟩), .pointer (some ⟨growB, 0, none⟩)] w (Ret fun v w' => ∃ orderA1 : Option Addr, ∃ orderC1 : Nat, ∃ bestA1 : Option Addr, ∃ bestC1 : Nat, v = .tuple #[] ∧ St w0v w' (.blk orderB #[.slice orderA1 (((F_permutations_k1 used order nn rel best).1).length) orderC1] 22 :: .own 2 1 orderA1 (((F_permutations_k1 used order nn rel best).1).length) orderC1 ((F_permutations_k1 used order nn rel best).1) :: .blk nnB #[.int .i64 nn] 2 :: .blk visitB #[.func (.func 186) #[] #[.pointer (some ⟨relB, 0, none⟩), .pointer (some ⟨bestB, 0, none⟩)]] 151 :: .blk growB #[.func (.func 234) #[] #[.pointer (some ⟨orderB, 0, none⟩), .pointer (some ⟨nnB, 0, none⟩), .pointer (some ⟨visitB, 0, none⟩), .pointer (some ⟨growB, 0, none⟩)]] 167 :: .blk relB #[.slice relA relN relC] 22 :: .rd 1 relA relN relC rel :: .blk bestB #[.slice bestA1 (((F_permutations_k1 used order nn rel best).2).length) bestC1] 22 :: .own 2 1 bestA1 (((F_permutations_k1 used order nn rel best).2).length) bestC1 ((F_permutations_k1 used order nn rel best).2) :: Γ0)) := c_permutations_k1_r ((nn - (order.length : Int)).toNat + 1) used orderB orderA orderN orderC order nnB nn visitB growB relB relA relN relC rel bestB bestA bestN bestC best w w0v Γ0 hS0 hr hrm hn hl hu hx (Nat.lt_succ_self _)
def F_permutations (nn : Int) (rel : List Int) (best : List Int) : List Int :=
  (F_permutations_k1 0 ([]) nn rel best).2
theorem cf_permutations (args : Array Value) (w : World) : (callFunc 185 args).run Try.prog w = .ok (.enter 185 args) w := by kernel_rfl
set_option maxRecDepth 100000 in
theorem c_permutations (nn : Int) (relB : Nat) (relA : Option Addr) (relN relC : Nat) (rel : List Int) (bestB : Nat) (bestA : Option Addr) (bestN bestC : Nat) (best : List Int) (w : World) (w0v : World) (Γ0 : List Ent) (hS0 : St w0v w (.blk relB #[.slice relA relN relC] 22 :: .rd 1 relA relN relC rel :: .blk bestB #[.slice bestA bestN bestC] 22 :: .own 2 1 bestA bestN bestC best :: Γ0)) (hr : rel.length ≤ 8) (hrm : ∀ m : Int, 0 ≤ m → m < (rel.length : Int) → 0 ≤ gI rel m ∧ gI rel m ≤ fullI (rel.length : Int)) (hn : nn = (rel.length : Int)) :
    Calls Try.prog 185 #[.int .i64 nn, .func (.func 186) #[] #[.pointer (some ⟨relB, 0, none⟩), .pointer (some ⟨bestB, 0, none⟩)]] w (Ret fun v w' => ∃ bestA1 : Option Addr, ∃ bestC1 : Nat, v = .tuple #[] ∧ St w0v w' (.blk relB #[.slice relA relN relC] 22 :: .rd 1 relA relN relC rel :: .blk bestB #[.slice bestA1 ((F_permutations nn rel best).length) bestC1] 22 :: .own 2 1 bestA1 ((F_permutations nn rel best).length) bestC1 (F_permutations nn rel best) :: Γ0)) := by
  obtain rfl : relN = rel.length := (St.rdR (i := 1) hS0 rfl).len1.symm
  have relLe := (St.rdR (i := 1) hS0 rfl).le
  obtain rfl : bestN = best.length := (St.rdO (i := 3) hS0 rfl).len1.symm
  have bestLe := (St.rdO (i := 3) hS0 rfl).le
  refine enter (args := [.int .i64 nn, .func (.func 186) #[] #[.pointer (some ⟨relB, 0, none⟩), .pointer (some ⟨bestB, 0, none⟩)]]) Try.func185 rfl rfl ?_
  rw [Try.ntmps185]; intro a hE
  have hE := hE.sub (L' := [(0, .int .i64 nn), (1, .func (.func 186) #[] #[.pointer (some ⟨relB, 0, none⟩), .pointer (some ⟨bestB, 0, none⟩)])]) ⟨rfl, rfl, trivial⟩
  refine c_seq ?_
  refine c_reg ?_
  refine l_step hE rfl (l_box (v := .int .i64 nn) (cs := #[.int .i64 nn]) hS0 hE rfl rfl rfl ?_)
  intro b1 w2 hS5 he6 a3 hE4; clear hS0 hE
  refine l_step hE4 rfl (l_box (v := .func (.func 186) #[] #[.pointer (some ⟨relB, 0, none⟩), .pointer (some ⟨bestB, 0, none⟩)]) (cs := #[.func (.func 186) #[] #[.pointer (some ⟨relB, 0, none⟩), .pointer (some ⟨bestB, 0, none⟩)]]) hS5 hE4 rfl rfl rfl ?_)
  intro b7 w8 hS11 he12 a9 hE10; clear hS5 hE4
  refine c_nil ?_
  have hE13 := hE10.sub (L' := [(2, .pointer (some ⟨b1, 0, none⟩)), (3, .pointer (some ⟨b7, 0, none⟩))]) ⟨rfl, rfl, trivial⟩; clear hE10
  refine p_tn ?_
  refine c_seq ?_
  refine c_reg ?_
  refine q_step (v := .int .i64 nn) hE13 (y_load (fun _ => by kernel_rfl) rfl (St.cell (i := 1) hS11 rfl rfl)) rfl rfl rfl ?_; intro a14 hE15; clear hE13
  obtain ⟨_, hi1, hi2, hi3, hi4⟩ := info_parts (show (Try.prog.info? 2).map (fun i => (i.zero, i.size, i.bytes)) = some (some (.int .i64 0), 1, 8) by kernel_rfl)
  refine l_step hE15 rfl (l_make0 (e := 2) hS11 hE15 hi1 hi2 hi3 (by rw [hi4]; decide) (by kernel_rfl) rfl rfl (by omega) (by omega) rfl ?_)
  intro b16 w17 hS20 he21 a18 hE19; clear hS11 hE15
  refine l_step hE19 rfl (l_alloc (z := .slice none 0 0) (cs := #[.slice none 0 0]) hS20 hE19 (fun _ => by kernel_rfl) rfl rfl ?_)
  intro b22 w23 hS26 he27 a24 hE25; clear hS20 hE19
  refine l_step hE25 rfl (l_storeB (k := 0) (cs' := #[.slice b16 0 (Int.toNat nn)]) hS26 hE25 (fun _ => by kernel_rfl) rfl rfl rfl rfl rfl rfl rfl ?_)
  intro w29 hS32 a30 hE31; clear hS26 hE25
  refine c_nil ?_
  have hE34 := hE31.sub (L' := [(2, .pointer (some ⟨b1, 0, none⟩)), (3, .pointer (some ⟨b7, 0, none⟩)), (4, .pointer (some ⟨b22, 0, none⟩))]) ⟨rfl, rfl, rfl, trivial⟩; clear hE31
  refine p_tn ?_
  refine c_seq ?_
  refine c_reg ?_
  refine l_step hE34 rfl (l_alloc (z := .nilFunc) (cs := #[.nilFunc]) hS32 hE34 (fun _ => by kernel_rfl) rfl rfl ?_)
  intro b35 w36 hS39 he40 a37 hE38; clear hS32 hE34
  refine c_nil ?_
  have hE41 := hE38.sub (L' := [(2, .pointer (some ⟨b1, 0, none⟩)), (3, .pointer (some ⟨b7, 0, none⟩)), (4, .pointer (some ⟨b22, 0, none⟩)), (5, .pointer (some ⟨b35, 0, none⟩))]) ⟨rfl, rfl, rfl, rfl, trivial⟩; clear hE38
  refine p_tn ?_
  refine c_seq ?_
  refine c_reg ?_
  refine q_step (v := .func (.func 234) #[] #[.pointer (some ⟨b22, 0, none⟩), .pointer (some ⟨b1, 0, none⟩), .pointer (some ⟨b7, 0, none⟩), .pointer (some ⟨b35, 0, none⟩)]) hE41 (y_makeFunc (vs := [.pointer (some ⟨b22, 0, none⟩), .pointer (some ⟨b1, 0, none⟩), .pointer (some ⟨b7, 0, none⟩), .pointer (some ⟨b35, 0, none⟩)]) rfl) rfl rfl rfl ?_; intro a42 hE43; clear hE41
  refine l_step hE43 rfl (l_storeB (k := 0) (cs' := #[.func (.func 234) #[] #[.pointer (some ⟨b22, 0, none⟩), .pointer (some ⟨b1, 0, none⟩), .pointer (some ⟨b7, 0, none⟩), .pointer (some ⟨b35, 0, none⟩)]]) hS39 hE43 (fun _ => by kernel_rfl) rfl rfl rfl rfl rfl rfl rfl ?_)
  intro w45 hS48 a46 hE47; clear hS39 hE43
  refine c_nil ?_
  have hE50 := hE47.sub (L' := [(5, .pointer (some ⟨b35, 0, none⟩))]) ⟨rfl, trivial⟩; clear hE47
  refine p_tn ?_
  refine c_reg ?_
  refine q_step (v := .func (.func 234) #[] #[.pointer (some ⟨b22, 0, none⟩), .pointer (some ⟨b1, 0, none⟩), .pointer (some ⟨b7, 0, none⟩), .pointer (some ⟨b35, 0, none⟩)]) hE50 (y_load (fun _ => by kernel_rfl) rfl (St.cell (i := 0) hS48 rfl rfl)) rfl rfl rfl ?_; intro a51 hE52; clear hE50
  have hS59 := (St.pickT (Γ := [.blk b35 #[.func (.func 234) #[] #[.pointer (some ⟨b22, 0, none⟩), .pointer (some ⟨b1, 0, none⟩), .pointer (some ⟨b7, 0, none⟩), .pointer (some ⟨b35, 0, none⟩)]] 167, .blk b22 #[.slice b16 0 (Int.toNat nn)] 22, .own 2 1 b16 0 (Int.toNat nn) ([]), .blk b7 #[.func (.func 186) #[] #[.pointer (some ⟨relB, 0, none⟩), .pointer (some ⟨bestB, 0, none⟩)]] 151, .blk b1 #[.int .i64 nn] 2, .blk relB #[.slice relA rel.length relC] 22, .rd 1 relA rel.length relC rel, .blk bestB #[.slice bestA best.length bestC] 22, .own 2 1 bestA best.length bestC best]) (Γ' := [.blk b22 #[.slice b16 0 (Int.toNat nn)] 22, .own 2 1 b16 0 (Int.toNat nn) ([]), .blk b1 #[.int .i64 nn] 2, .blk b7 #[.func (.func 186) #[] #[.pointer (some ⟨relB, 0, none⟩), .pointer (some ⟨bestB, 0, none⟩)]] 151, .blk b35 #[.func (.func 234) #[] #[.pointer (some ⟨b22, 0, none⟩), .pointer (some ⟨b1, 0, none⟩), .pointer (some ⟨b7, 0, none⟩), .pointer (some ⟨b35, 0, none⟩)]] 167, .blk relB #[.slice relA rel.length relC] 22, .rd 1 relA rel.length relC rel, .blk bestB #[.slice bestA best.length bestC] 22, .own 2 1 bestA best.length bestC best]) (Γ0 := Γ0) hS48 [1, 2, 4, 3, 0, 5, 6, 7, 8] (by decide) rfl rfl); clear hS48
  have hc60 := c_permutations_k1 0 b22 b16 0 (Int.toNat nn) ([]) b1 nn b7 b35 relB relA rel.length relC rel bestB bestA best.length bestC best w45 w0v (Γ0) hS59 (by omega) hrm (by omega) (by simp; omega) (by have := fullI_bd (n := nn) (by omega) (by omega); omega) (fun m h0 h1 => absurd h1 (by simp; omega))
  refine l_step hE52 rfl (l_callv (f := 234) (caps := [.pointer (some ⟨b22, 0, none⟩), .pointer (some ⟨b1, 0, none⟩), .pointer (some ⟨b7, 0, none⟩), .pointer (some ⟨b35, 0, none⟩)]) (argv := [.int .i64 0]) hE52 rfl (fun _ => cf_permutations_k1 _ _) rfl rfl (by exact hc60) ?_)
  rintro _ w54 ⟨b61, c62, b63, c64, rfl, hS57⟩ a55 hE56; clear hE52 hc60
  refine c_nil ?_
  have hE65 := hE56.sub (L' := []) trivial; clear hE56
  have hF : F_permutations nn rel best = (F_permutations_k1 0 ([]) nn rel best).2 := by unfold F_permutations; rfl
  refine c_end0 hE65 rfl ?_
  have hS9 := (St.pickT (Γ := [.blk b22 #[.slice b61 (((F_permutations_k1 0 ([]) nn rel best).1).length) c62] 22, .own 2 1 b61 (((F_permutations_k1 0 ([]) nn rel best).1).length) c62 ((F_permutations_k1 0 ([]) nn rel best).1), .blk b1 #[.int .i64 nn] 2, .blk b7 #[.func (.func 186) #[] #[.pointer (some ⟨relB, 0, none⟩), .pointer (some ⟨bestB, 0, none⟩)]] 151, .blk b35 #[.func (.func 234) #[] #[.pointer (some ⟨b22, 0, none⟩), .pointer (some ⟨b1, 0, none⟩), .pointer (some ⟨b7, 0, none⟩), .pointer (some ⟨b35, 0, none⟩)]] 167, .blk relB #[.slice relA rel.length relC] 22, .rd 1 relA rel.length relC rel, .blk bestB #[.slice b63 (((F_permutations_k1 0 ([]) nn rel best).2).length) c64] 22, .own 2 1 b63 (((F_permutations_k1 0 ([]) nn rel best).2).length) c64 ((F_permutations_k1 0 ([]) nn rel best).2)]) (Γ' := [.blk relB #[.slice relA rel.length relC] 22, .rd 1 relA rel.length relC rel, .blk bestB #[.slice b63 (((F_permutations_k1 0 ([]) nn rel best).2).length) c64] 22, .own 2 1 b63 (((F_permutations_k1 0 ([]) nn rel best).2).length) c64 ((F_permutations_k1 0 ([]) nn rel best).2)]) (Γ0 := Γ0) hS57 [5, 6, 7, 8] (by decide) rfl rfl)
  exact ⟨b63, c64, rfl, (by rw [hF]; (try dsimp only); exact hS9)⟩
def F_leastRelation (rel : List Int) : List Int :=
  (F_permutations (rel.length : Int) rel rel)
theorem cf_leastRelation (args : Array Value) (w : World) : (callFunc 107 args).run Try.prog w = .ok (.enter 107 args) w := by kernel_rfl
set_option maxRecDepth 100000 in
theorem c_leastRelation (relA : Option Addr) (relN relC : Nat) (rel : List Int) (w : World) (relR : RdS w 1 relA relN relC rel) (hr : rel.length ≤ 8) (hrm : ∀ m : Int, 0 ≤ m → m < (rel.length : Int) → 0 ≤ gI rel m ∧ gI rel m ≤ fullI (rel.length : Int)) :
    Calls Try.prog 107 #[.slice relA relN relC] w (Ret fun v w' => ∃ b1 : Option Addr, ∃ c1 : Nat, v = .slice b1 (F_leastRelation rel).length c1 ∧ OwnS w' w.heap.size 2 1 b1 (F_leastRelation rel).length c1 (F_leastRelation rel) ∧ Ext w w') := by
  obtain rfl : relN = rel.length := relR.len1.symm
  have relLe := relR.le
  have hS := St.nil w
  have hS1 := St.rd0 hS rfl relR; clear hS
  refine enter (args := [.slice relA rel.length relC]) Try.func107 rfl rfl ?_
  rw [Try.ntmps107]; intro a hE
  have hE := hE.sub (L' := [(0, .slice relA rel.length relC)]) ⟨rfl, trivial⟩
  refine c_seq ?_
  refine c_reg ?_
  refine l_step hE rfl (l_box (v := .slice relA rel.length relC) (cs := #[.slice relA rel.length relC]) hS1 hE rfl rfl rfl ?_)
  intro b2 w3 hS6 he7 a4 hE5; clear hS1 hE
  refine q_step (v := .slice none 0 0) hE5 (y_assign rfl) rfl rfl rfl ?_; intro a8 hE9; clear hE5
  refine c_nil ?_
  have hE10 := hE9.sub (L' := [(1, .pointer (some ⟨b2, 0, none⟩))]) ⟨rfl, trivial⟩; clear hE9
  refine p_tn ?_
  refine c_seq ?_
  refine c_reg ?_
  refine q_step (v := .slice relA rel.length relC) hE10 (y_load (fun _ => by kernel_rfl) rfl (St.cell (i := 0) hS6 rfl rfl)) rfl rfl rfl ?_; intro a11 hE12; clear hE10
  refine l_step hE12 rfl (l_call (f := 184) (argv := [.slice relA rel.length relC]) hE12 (fun _ => cf_z_CloneS _ _) rfl rfl (c_z_Clone relA rel.length relC rel w3 (St.rdR (i := 1) hS6 rfl) (by omega)) ?_)
  rintro _ w14 ⟨b19, c20, rfl, ho21, he18⟩ a15 hE16; clear hE12
  have hS17 := St.own hS6 he18 ho21; clear hS6
  refine l_step hE16 rfl (l_alloc (z := .slice none 0 0) (cs := #[.slice none 0 0]) hS17 hE16 (fun _ => by kernel_rfl) rfl rfl ?_)
  intro b22 w23 hS26 he27 a24 hE25; clear hS17 hE16
  refine l_step hE25 rfl (l_storeB (k := 0) (cs' := #[.slice b19 ((rel).length) c20]) hS26 hE25 (fun _ => by kernel_rfl) rfl rfl rfl rfl rfl rfl rfl ?_)
  intro w29 hS32 a30 hE31; clear hS26 hE25
  refine c_nil ?_
  have hE34 := hE31.sub (L' := [(1, .pointer (some ⟨b2, 0, none⟩)), (3, .pointer (some ⟨b22, 0, none⟩))]) ⟨rfl, rfl, trivial⟩; clear hE31
  refine p_tn ?_
  refine c_seq ?_
  refine c_reg ?_
  refine q_step (v := .slice relA rel.length relC) hE34 (y_load (fun _ => by kernel_rfl) rfl (St.cell (i := 2) hS32 rfl rfl)) rfl rfl rfl ?_; intro a35 hE36; clear hE34
  refine l_step hE36 rfl (l_call (f := 165) (argv := [.slice relA rel.length relC]) hE36 (fun _ => cf_size _ _) rfl rfl (d_size relA rel.length relC rel w29 (St.rdR (i := 3) hS32 rfl)) ?_)
  rintro _ _ ⟨rfl, rfl⟩ a39 hE40; clear hE36
  refine q_step (v := .func (.func 186) #[] #[.pointer (some ⟨b2, 0, none⟩), .pointer (some ⟨b22, 0, none⟩)]) hE40 (y_makeFunc (vs := [.pointer (some ⟨b2, 0, none⟩), .pointer (some ⟨b22, 0, none⟩)]) rfl) rfl rfl rfl ?_; intro a43 hE44; clear hE40
  have hS51 := (St.pick (Γ' := [.blk b2 #[.slice relA rel.length relC] 22, .rd 1 relA rel.length relC rel, .blk b22 #[.slice b19 ((rel).length) c20] 22, .own 2 1 b19 ((rel).length) c20 rel]) hS32 [2, 3, 0, 1] (by decide) rfl); clear hS32
  have hc52 := c_permutations (rel.length : Int) b2 relA rel.length relC rel b22 b19 ((rel).length) c20 rel w29 w [] hS51 (by omega) hrm (by omega)
  refine l_step hE44 rfl (l_call (f := 185) (argv := [.int .i64 (rel.length : Int), .func (.func 186) #[] #[.pointer (some ⟨b2, 0, none⟩), .pointer (some ⟨b22, 0, none⟩)]]) hE44 (fun _ => cf_permutations _ _) rfl rfl (by exact hc52) ?_)
  rintro _ w46 ⟨b53, c54, rfl, hS49⟩ a47 hE48; clear hE44 hc52
  refine c_nil ?_
  have hE55 := hE48.sub (L' := [(3, .pointer (some ⟨b22, 0, none⟩))]) ⟨rfl, trivial⟩; clear hE48
  refine p_tn ?_
  refine c_seq ?_
  refine c_reg ?_
  refine q_step (v := .slice b53 ((F_permutations (rel.length : Int) rel rel).length) c54) hE55 (y_load (fun _ => by kernel_rfl) rfl (St.cell (i := 2) hS49 rfl rfl)) rfl rfl rfl ?_; intro a56 hE57; clear hE55
  refine q_step (v := .slice b53 ((F_permutations (rel.length : Int) rel rel).length) c54) hE57 (y_assign rfl) rfl rfl rfl ?_; intro a58 hE59; clear hE57
  refine c_nil ?_
  have hE60 := hE59.sub (L' := [(2, .slice b53 ((F_permutations (rel.length : Int) rel rel).length) c54)]) ⟨rfl, trivial⟩; clear hE59
  refine p_tn ?_
  refine wp_ret ?_
  have hF : F_leastRelation rel = (F_permutations (rel.length : Int) rel rel) := by unfold F_leastRelation; rfl
  refine c_ret1 hE60 rfl rfl ?_
  exact ⟨b53, c54, (by rw [hF]; first | done | (dsimp only; done) | rfl), (by rw [hF]; (try dsimp only); exact hS49.ok 3 _ rfl), hS49.ext⟩
def F_LeastFrame (f0 : Int) (f1 : List Int) : (Int × List Int) × (Int) :=
  bif (!(F_isFrame f0 f1)) then ((0, []), 1) else (bif (decide (6 < f0)) then ((0, []), 3) else (((F_frameOf (F_leastRelation f1)).1, F_leastRelation f1), 0))
theorem cf_LeastFrame (args : Array Value) (w : World) : (callFunc 42 args).run Try.prog w = .ok (.enter 42 args) w := by kernel_rfl
set_option maxRecDepth 100000 in
theorem c_LeastFrame (f0 : Int) (f1A : Option Addr) (f1N f1C : Nat) (f1 : List Int) (w : World) (f1R : RdS w 1 f1A f1N f1C f1) :
    Calls Try.prog 42 #[.agg #[.int .i64 f0, .slice f1A f1N f1C]] w (Ret fun v w' => ∃ b1 : Option Addr, ∃ c1 : Nat, v = .tuple #[.agg #[.int .i64 (((F_LeastFrame f0 f1).1).1), .slice b1 (((F_LeastFrame f0 f1).1).2).length c1], .int .i64 ((F_LeastFrame f0 f1).2)] ∧ OwnS w' w.heap.size 2 1 b1 (((F_LeastFrame f0 f1).1).2).length c1 (((F_LeastFrame f0 f1).1).2) ∧ Ext w w') := by
  obtain rfl : f1N = f1.length := f1R.len1.symm
  have f1Le := f1R.le
  have hS := St.nil w
  have hS1 := St.rd0 hS rfl f1R; clear hS
  refine enter (args := [.agg #[.int .i64 f0, .slice f1A f1.length f1C]]) Try.func42 rfl rfl ?_
  rw [Try.ntmps42]; intro a hE
  have hE := hE.sub (L' := [(0, .agg #[.int .i64 f0, .slice f1A f1.length f1C])]) ⟨rfl, trivial⟩
  refine c_seq ?_
  refine c_reg ?_
  refine l_step hE rfl (l_box (v := .agg #[.int .i64 f0, .slice f1A f1.length f1C]) (cs := #[.int .i64 f0, .slice f1A f1.length f1C]) hS1 hE rfl rfl rfl ?_)
  intro b2 w3 hS6 he7 a4 hE5; clear hS1 hE
  refine l_step hE5 rfl (l_alloc (z := .agg #[.int .i64 0, .slice none 0 0]) (cs := #[.int .i64 0, .slice none 0 0]) hS6 hE5 (fun _ => by kernel_rfl) rfl rfl ?_)
  intro b8 w9 hS12 he13 a10 hE11; clear hS6 hE5
  refine q_step (v := .int .i64 0) hE11 (y_assign rfl) rfl rfl rfl ?_; intro a14 hE15; clear hE11
  refine c_nil ?_
  have hE16 := hE15.sub (L' := [(1, .pointer (some ⟨b2, 0, none⟩)), (2, .pointer (some ⟨b8, 0, none⟩))]) ⟨rfl, rfl, trivial⟩; clear hE15
  refine p_tn ?_
  refine c_seq ?_
  refine wp_block ?_
  refine c_seq ?_
  refine c_reg ?_
  refine q_step (v := .agg #[.int .i64 f0, .slice f1A f1.length f1C]) hE16 (y_loadS Try.underlying30 rfl (by kernel_rfl) rfl (St.row (i := 1) hS12 rfl)) rfl rfl rfl ?_; intro a17 hE18; clear hE16
  refine l_step hE18 rfl (l_call (f := 96) (argv := [.agg #[.int .i64 f0, .slice f1A f1.length f1C]]) hE18 (fun _ => cf_isFrame _ _) rfl rfl (c_isFrame f0 f1A f1.length f1C f1 w9 (St.rdR (i := 2) hS12 rfl)) ?_)
  rintro _ w20 ⟨rfl, he24⟩ a21 hE22; clear hE18
  have hS23 := St.go hS12 he24; clear hS12
  refine q_step (v := .bool (!(F_isFrame f0 f1))) hE22 (y_not rfl) rfl rfl rfl ?_; intro a25 hE26; clear hE22
  refine q_step (v := .bool (!(F_isFrame f0 f1))) hE26 (y_assign rfl) rfl rfl rfl ?_; intro a27 hE28; clear hE26
  refine c_nil ?_
  have hE29 := hE28.sub (L' := [(1, .pointer (some ⟨b2, 0, none⟩)), (2, .pointer (some ⟨b8, 0, none⟩)), (4, .bool (!(F_isFrame f0 f1)))]) ⟨rfl, rfl, rfl, trivial⟩; clear hE28
  refine p_tn ?_
  refine c_cond hE29 rfl (fun ht30 => ?_) (fun ht30 => ?_)
  ·
   have ht31 := bn_t ht30
   have hE32 := hE29; rw [ht30] at hE32; clear hE29
   refine c_seq ?_
   refine c_reg ?_
   refine q_step (v := .agg #[.int .i64 0, .slice none 0 0]) hE32 (y_build (vs := #[]) (fun a n hE => by simp) (fun _ => by kernel_rfl)) rfl rfl rfl ?_; intro a33 hE34; clear hE32
   refine l_step hE34 rfl (l_storeS (k := 0) (cs' := #[.int .i64 0, .slice none 0 0]) hS23 hE34 (by kernel_rfl) rfl rfl (by kernel_rfl) rfl rfl ?_)
   intro w36 hS39 a37 hE38; clear hS23 hE34
   refine q_step (v := .int .i64 1) hE38 (y_assign rfl) rfl rfl rfl ?_; intro a41 hE42; clear hE38
   refine c_nil ?_
   have hE43 := hE42.sub (L' := [(2, .pointer (some ⟨b8, 0, none⟩)), (3, .int .i64 1)]) ⟨rfl, rfl, trivial⟩; clear hE42
   refine p_tn ?_
   refine wp_ret ?_
   refine p_br ?_
   refine p_tr ?_
   have hF : F_LeastFrame f0 f1 = ((0, []), 1) := by unfold F_LeastFrame; rw [ht30]; first | done | rfl
   refine c_retC2 hE43 rfl rfl rfl Try.underlying30 rfl (by kernel_rfl) (St.row (i := 0) hS39 rfl _ (Ext.refl _)) ?_
   exact ⟨none, 0, (by rw [hF]; first | done | (dsimp only; done) | rfl), (by rw [hF]; (try dsimp only); exact OwnS.nilS _ _ _ _), hS39.ext⟩
  ·
   have ht44 := bn_f ht30
   have hp45 := isFrame_t ht44
   have hE46 := hE29; rw [ht30] at hE46; clear hE29
   refine c_seq ?_
   refine c_reg ?_
   refine q_step (v := .pointer (some ⟨b2, 0, none⟩)) hE46 (y_field rfl (fun _ => by kernel_rfl)) rfl rfl rfl ?_; intro a47 hE48; clear hE46
   refine q_step (v := .int .i64 f0) hE48 (y_load (fun _ => by kernel_rfl) rfl (St.cell (i := 1) hS23 rfl rfl)) rfl rfl rfl ?_; intro a49 hE50; clear hE48
   refine q_step (v := .bool (decide (6 < f0))) hE50 (y_gtr rfl rfl) rfl rfl rfl ?_; intro a51 hE52; clear hE50
   refine q_step (v := .bool (decide (6 < f0))) hE52 (y_assign rfl) rfl rfl rfl ?_; intro a53 hE54; clear hE52
   refine c_nil ?_
   have hE55 := hE54.sub (L' := [(1, .pointer (some ⟨b2, 0, none⟩)), (2, .pointer (some ⟨b8, 0, none⟩)), (9, .bool (decide (6 < f0)))]) ⟨rfl, rfl, rfl, trivial⟩; clear hE54
   refine p_tn ?_
   refine c_cond hE55 rfl (fun ht56 => ?_) (fun ht56 => ?_)
   ·
    have hp57 := of_decide_eq_true ht56
    have hE58 := hE55; rw [ht56] at hE58; clear hE55
    refine c_seq ?_
    refine c_reg ?_
    refine q_step (v := .agg #[.int .i64 0, .slice none 0 0]) hE58 (y_build (vs := #[]) (fun a n hE => by simp) (fun _ => by kernel_rfl)) rfl rfl rfl ?_; intro a59 hE60; clear hE58
    refine l_step hE60 rfl (l_storeS (k := 0) (cs' := #[.int .i64 0, .slice none 0 0]) hS23 hE60 (by kernel_rfl) rfl rfl (by kernel_rfl) rfl rfl ?_)
    intro w62 hS65 a63 hE64; clear hS23 hE60
    refine q_step (v := .int .i64 3) hE64 (y_assign rfl) rfl rfl rfl ?_; intro a67 hE68; clear hE64
    refine c_nil ?_
    have hE69 := hE68.sub (L' := [(2, .pointer (some ⟨b8, 0, none⟩)), (3, .int .i64 3)]) ⟨rfl, rfl, trivial⟩; clear hE68
    refine p_tn ?_
    refine wp_ret ?_
    refine p_br ?_
    refine p_tr ?_
    have hF : F_LeastFrame f0 f1 = ((0, []), 3) := by unfold F_LeastFrame; rw [ht56, ht30]; first | done | rfl
    refine c_retC2 hE69 rfl rfl rfl Try.underlying30 rfl (by kernel_rfl) (St.row (i := 0) hS65 rfl _ (Ext.refl _)) ?_
    exact ⟨none, 0, (by rw [hF]; first | done | (dsimp only; done) | rfl), (by rw [hF]; (try dsimp only); exact OwnS.nilS _ _ _ _), hS65.ext⟩
   ·
    have hp70 := of_decide_eq_false ht56
    have hE71 := hE55; rw [ht56] at hE71; clear hE55
    refine wp_skip ?_
    refine p_bn ?_
    refine p_tn ?_
    refine c_seq ?_
    refine c_reg ?_
    refine q_step (v := .pointer (some ⟨b2, 1, none⟩)) hE71 (y_field rfl (fun _ => by kernel_rfl)) rfl rfl rfl ?_; intro a72 hE73; clear hE71
    refine q_step (v := .slice f1A f1.length f1C) hE73 (y_load (fun _ => by kernel_rfl) rfl (St.cell (i := 1) hS23 rfl rfl)) rfl rfl rfl ?_; intro a74 hE75; clear hE73
    refine l_step hE75 rfl (l_call (f := 107) (argv := [.slice f1A f1.length f1C]) hE75 (fun _ => cf_leastRelation _ _) rfl rfl (c_leastRelation f1A f1.length f1C f1 w20 (St.rdR (i := 2) hS23 rfl) (by omega) (frame_mm (by assumption))) ?_)
    rintro _ w77 ⟨b82, c83, rfl, ho84, he81⟩ a78 hE79; clear hE75
    have hS80 := St.own hS23 he81 ho84; clear hS23
    refine l_step hE79 rfl (l_call (f := 106) (argv := [.slice b82 ((F_leastRelation f1).length) c83]) hE79 (fun _ => cf_frameOf _ _) rfl rfl (c_frameOf b82 ((F_leastRelation f1).length) c83 (F_leastRelation f1) w77 (St.rdO (i := 0) hS80 rfl)) ?_)
    rintro _ w86 ⟨rfl, he90⟩ a87 hE88; clear hE79
    have hS89 := St.go hS80 he90; clear hS80
    refine l_step hE88 rfl (l_storeS (k := 1) (cs' := #[.int .i64 ((F_frameOf (F_leastRelation f1)).1), .slice b82 ((F_leastRelation f1).length) c83]) hS89 hE88 (by kernel_rfl) rfl rfl (by kernel_rfl) rfl rfl ?_)
    intro w92 hS95 a93 hE94; clear hS89 hE88
    refine q_step (v := .int .i64 0) hE94 (y_assign rfl) rfl rfl rfl ?_; intro a97 hE98; clear hE94
    refine c_nil ?_
    have hE99 := hE98.sub (L' := [(2, .pointer (some ⟨b8, 0, none⟩)), (3, .int .i64 0)]) ⟨rfl, rfl, trivial⟩; clear hE98
    refine p_tn ?_
    refine wp_ret ?_
    have hF : F_LeastFrame f0 f1 = (((F_frameOf (F_leastRelation f1)).1, F_leastRelation f1), 0) := by unfold F_LeastFrame; rw [ht56, ht30]; first | done | rfl
    refine c_retC2 hE99 rfl rfl rfl Try.underlying30 rfl (by kernel_rfl) (St.row (i := 1) hS95 rfl _ (Ext.refl _)) ?_
    exact ⟨b82, c83, (by rw [hF]; first | done | (dsimp only; done) | rfl), (by rw [hF]; (try dsimp only); exact hS95.ok 0 _ rfl), hS95.ext⟩
end Go.Proofs.Ytlbonhloeefnmaa
