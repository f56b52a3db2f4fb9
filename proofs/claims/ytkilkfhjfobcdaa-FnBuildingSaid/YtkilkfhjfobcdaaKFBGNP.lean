/- GNP: models and contracts, printed by wip/gen/gen.py -/
import Derived.Test.YtkilkfhjfobcdaaKFBGNB
set_option linter.unusedVariables false
set_option linter.unusedSimpArgs false
namespace Go.Proofs.Ytkilkfhjfobcdaa
open Go.RowKit
def F_sizeNode (list : List Int) : Int :=
  (((list).length / 2 : Nat) : Int)
theorem cf_sizeNode (args : Array Value) (w : World) : (callFunc 76 args).run Try.prog w = .ok (.enter 76 args) w := by kernel_rfl
set_option maxRecDepth 100000 in
theorem c_sizeNode (listA : Option Addr) (listN listC : Nat) (list : List Int) (w : World) (listR : RdS w 2 listA listN listC list) :
    Calls Try.prog 76 #[.slice listA listN listC] w (Ret fun v w' => v = .int .i64 (F_sizeNode list) ∧ w = w') := by
  obtain rfl : listN = list.length / 2 := (listR.lenD (by decide)).symm
  have listEv := listR.ev (by decide)
  have listLe := listR.le
  have hS := St.nil w
  have hS1 := St.rd0 hS rfl listR; clear hS
  refine enter (args := [.slice listA ((list).length / 2 : Nat) listC]) Try.func76 rfl rfl ?_
  rw [Try.ntmps76]; intro a hE
  have hE := hE.sub (L' := [(0, .slice listA ((list).length / 2 : Nat) listC)]) ⟨rfl, trivial⟩
  refine c_seq ?_
  refine c_reg ?_
  refine q_step (v := .int .i64 0) hE (y_assign rfl) rfl rfl rfl ?_; intro a2 hE3; clear hE
  refine c_nil ?_
  have hE4 := hE3.sub (L' := [(0, .slice listA ((list).length / 2 : Nat) listC)]) ⟨rfl, trivial⟩; clear hE3
  refine p_tn ?_
  refine c_seq ?_
  refine c_reg ?_
  refine q_step (v := .slice listA ((list).length / 2 : Nat) listC) hE4 (y_move rfl) rfl rfl rfl ?_; intro a5 hE6; clear hE4
  refine q_step (v := .int .i64 (((list).length / 2 : Nat) : Int)) hE6 (y_len (e := 94) (by kernel_rfl) rfl) rfl rfl rfl ?_; intro a7 hE8; clear hE6
  refine q_step (v := .int .i64 (((list).length / 2 : Nat) : Int)) hE8 (y_assign rfl) rfl rfl rfl ?_; intro a9 hE10; clear hE8
  refine c_nil ?_
  have hE11 := hE10.sub (L' := [(2, .int .i64 (((list).length / 2 : Nat) : Int))]) ⟨rfl, trivial⟩; clear hE10
  refine p_tn ?_
  refine wp_ret ?_
  have hF : F_sizeNode list = (((list).length / 2 : Nat) : Int) := by unfold F_sizeNode; rfl
  refine c_ret1 hE11 rfl rfl ?_
  exact ⟨(by rw [hF]; first | done | (dsimp only; done) | rfl), rfl⟩
theorem d_sizeNode (listA : Option Addr) (listN listC : Nat) (list : List Int) (w : World) (listR : RdS w 2 listA listN listC list) :
    Calls Try.prog 76 #[.slice listA listN listC] w (Ret fun v w' => v = .int .i64 ((list.length / 2 : Nat) : Int) ∧ w = w') := c_sizeNode listA listN listC list w listR
def F_PartEnd (ap : List Int) (i : Int) : (Int) × (Int) :=
  bif (!(F_isFormula ap)) then (0, 1) else (bif (!(F_inRange i 0 (((ap.length / 2 : Nat) : Int) - 1))) then (0, 2) else (F_partEnd ap i, 0))
theorem cf_PartEnd (args : Array Value) (w : World) : (callFunc 23 args).run Try.prog w = .ok (.enter 23 args) w := by kernel_rfl
set_option maxRecDepth 100000 in
theorem c_PartEnd (apA : Option Addr) (apN apC : Nat) (ap : List Int) (i : Int) (w : World) (apR : RdS w 2 apA apN apC ap) (hl : ap.length ≤ 4194304) :
    Calls Try.prog 23 #[.slice apA apN apC, .int .i64 i] w (Ret fun v w' => v = .tuple #[.int .i64 ((F_PartEnd ap i).1), .int .i64 ((F_PartEnd ap i).2)] ∧ Ext w w') := by
  obtain rfl : apN = ap.length / 2 := (apR.lenD (by decide)).symm
  have apEv := apR.ev (by decide)
  have apLe := apR.le
  have hS := St.nil w
  have hS1 := St.rd0 hS rfl apR; clear hS
  refine enter (args := [.slice apA ((ap).length / 2 : Nat) apC, .int .i64 i]) Try.func23 rfl rfl ?_
  rw [Try.ntmps23]; intro a hE
  have hE := hE.sub (L' := [(0, .slice apA ((ap).length / 2 : Nat) apC), (1, .int .i64 i)]) ⟨rfl, rfl, trivial⟩
  refine c_seq ?_
  refine c_reg ?_
  refine q_step (v := .int .i64 0) hE (y_assign rfl) rfl rfl rfl ?_; intro a2 hE3; clear hE
  refine q_step (v := .int .i64 0) hE3 (y_assign rfl) rfl rfl rfl ?_; intro a4 hE5; clear hE3
  refine c_nil ?_
  have hE6 := hE5.sub (L' := [(0, .slice apA ((ap).length / 2 : Nat) apC), (1, .int .i64 i)]) ⟨rfl, rfl, trivial⟩; clear hE5
  refine p_tn ?_
  refine c_seq ?_
  refine wp_block ?_
  refine c_seq ?_
  refine c_reg ?_
  refine q_step (v := .slice apA ((ap).length / 2 : Nat) apC) hE6 (y_move rfl) rfl rfl rfl ?_; intro a7 hE8; clear hE6
  refine l_step hE8 rfl (l_call (f := 74) (argv := [.slice apA ((ap).length / 2 : Nat) apC]) hE8 (fun _ => cf_isFormula _ _) rfl rfl (c_isFormula apA ((ap).length / 2 : Nat) apC ap w (St.rdR (i := 0) hS1 rfl) (by omega)) ?_)
  rintro _ w10 ⟨rfl, he14⟩ a11 hE12; clear hE8
  have hS13 := St.go hS1 he14; clear hS1
  refine q_step (v := .bool (!(F_isFormula ap))) hE12 (y_not rfl) rfl rfl rfl ?_; intro a15 hE16; clear hE12
  refine q_step (v := .bool (!(F_isFormula ap))) hE16 (y_assign rfl) rfl rfl rfl ?_; intro a17 hE18; clear hE16
  refine c_nil ?_
  have hE19 := hE18.sub (L' := [(0, .slice apA ((ap).length / 2 : Nat) apC), (1, .int .i64 i), (6, .bool (!(F_isFormula ap)))]) ⟨rfl, rfl, rfl, trivial⟩; clear hE18
  refine p_tn ?_
  refine c_cond hE19 rfl (fun ht20 => ?_) (fun ht20 => ?_)
  ·
   have ht21 := bn_t ht20
   have hE22 := hE19; rw [ht20] at hE22; clear hE19
   refine c_seq ?_
   refine c_reg ?_
   refine q_step (v := .int .i64 0) hE22 (y_assign rfl) rfl rfl rfl ?_; intro a23 hE24; clear hE22
   refine q_step (v := .int .i64 1) hE24 (y_assign rfl) rfl rfl rfl ?_; intro a25 hE26; clear hE24
   refine c_nil ?_
   have hE27 := hE26.sub (L' := [(4, .int .i64 0), (5, .int .i64 1)]) ⟨rfl, rfl, trivial⟩; clear hE26
   refine p_tn ?_
   refine wp_ret ?_
   refine p_br ?_
   refine p_tr ?_
   have hF : F_PartEnd ap i = (0, 1) := by unfold F_PartEnd; rw [ht20]; first | done | rfl
   refine c_ret2 hE27 rfl rfl rfl ?_
   exact ⟨(by rw [hF]; first | done | (dsimp only; done) | rfl), hS13.ext⟩
  ·
   have ht28 := bn_f ht20
   have hp29 := isFormula_t ht28
   have hE30 := hE19; rw [ht20] at hE30; clear hE19
   refine c_seq ?_
   refine c_reg ?_
   refine q_step (v := .int .i64 i) hE30 (y_move rfl) rfl rfl rfl ?_; intro a31 hE32; clear hE30
   refine q_step (v := .slice apA ((ap).length / 2 : Nat) apC) hE32 (y_move rfl) rfl rfl rfl ?_; intro a33 hE34; clear hE32
   refine l_step hE34 rfl (l_call (f := 76) (argv := [.slice apA ((ap).length / 2 : Nat) apC]) hE34 (fun _ => cf_sizeNode _ _) rfl rfl (d_sizeNode apA ((ap).length / 2 : Nat) apC ap w10 (St.rdR (i := 0) hS13 rfl)) ?_)
   rintro _ _ ⟨rfl, rfl⟩ a37 hE38; clear hE34
   refine q_step (v := .int .i64 (((ap.length / 2 : Nat) : Int) - 1)) hE38 (y_sub rfl rfl ⟨(by omega), (by omega)⟩) rfl rfl rfl ?_; intro a41 hE42; clear hE38
   refine l_step hE42 rfl (l_call (f := 75) (argv := [.int .i64 i, .int .i64 0, .int .i64 (((ap.length / 2 : Nat) : Int) - 1)]) hE42 (fun _ => cf_inRange _ _) rfl rfl (c_inRange i 0 (((ap.length / 2 : Nat) : Int) - 1) w10) ?_)
   rintro _ _ ⟨rfl, rfl⟩ a45 hE46; clear hE42
   refine q_step (v := .bool (!(F_inRange i 0 (((ap.length / 2 : Nat) : Int) - 1)))) hE46 (y_not rfl) rfl rfl rfl ?_; intro a49 hE50; clear hE46
   refine q_step (v := .bool (!(F_inRange i 0 (((ap.length / 2 : Nat) : Int) - 1)))) hE50 (y_assign rfl) rfl rfl rfl ?_; intro a51 hE52; clear hE50
   refine c_nil ?_
   have hE53 := hE52.sub (L' := [(0, .slice apA ((ap).length / 2 : Nat) apC), (1, .int .i64 i), (10, .bool (!(F_inRange i 0 (((ap.length / 2 : Nat) : Int) - 1))))]) ⟨rfl, rfl, rfl, trivial⟩; clear hE52
   refine p_tn ?_
   refine c_cond hE53 rfl (fun ht54 => ?_) (fun ht54 => ?_)
   ·
    have ht55 := bn_t ht54
    have hE56 := hE53; rw [ht54] at hE56; clear hE53
    refine c_seq ?_
    refine c_reg ?_
    refine q_step (v := .int .i64 0) hE56 (y_assign rfl) rfl rfl rfl ?_; intro a57 hE58; clear hE56
    refine q_step (v := .int .i64 2) hE58 (y_assign rfl) rfl rfl rfl ?_; intro a59 hE60; clear hE58
    refine c_nil ?_
    have hE61 := hE60.sub (L' := [(4, .int .i64 0), (5, .int .i64 2)]) ⟨rfl, rfl, trivial⟩; clear hE60
    refine p_tn ?_
    refine wp_ret ?_
    refine p_br ?_
    refine p_tr ?_
    have hF : F_PartEnd ap i = (0, 2) := by unfold F_PartEnd; rw [ht54, ht20]; first | done | rfl
    refine c_ret2 hE61 rfl rfl rfl ?_
    exact ⟨(by rw [hF]; first | done | (dsimp only; done) | rfl), hS13.ext⟩
   ·
    have ht62 := bn_f ht54
    have hp63 := F_inRange_t ht62
    have hE64 := hE53; rw [ht54] at hE64; clear hE53
    refine wp_skip ?_
    refine p_bn ?_
    refine p_tn ?_
    refine c_seq ?_
    refine c_reg ?_
    refine q_step (v := .slice apA ((ap).length / 2 : Nat) apC) hE64 (y_move rfl) rfl rfl rfl ?_; intro a65 hE66; clear hE64
    refine q_step (v := .int .i64 i) hE66 (y_move rfl) rfl rfl rfl ?_; intro a67 hE68; clear hE66
    refine l_step hE68 rfl (l_call (f := 77) (argv := [.slice apA ((ap).length / 2 : Nat) apC, .int .i64 i]) hE68 (fun _ => cf_partEnd _ _) rfl rfl (c_partEnd apA ((ap).length / 2 : Nat) apC ap i w10 (St.rdR (i := 0) hS13 rfl) (by omega) (by omega)) ?_)
    rintro _ w70 ⟨rfl, he74⟩ a71 hE72; clear hE68
    have hS73 := St.go hS13 he74; clear hS13
    refine q_step (v := .int .i64 (F_partEnd ap i)) hE72 (y_assign rfl) rfl rfl rfl ?_; intro a75 hE76; clear hE72
    refine q_step (v := .int .i64 0) hE76 (y_assign rfl) rfl rfl rfl ?_; intro a77 hE78; clear hE76
    refine c_nil ?_
    have hE79 := hE78.sub (L' := [(4, .int .i64 (F_partEnd ap i)), (5, .int .i64 0)]) ⟨rfl, rfl, trivial⟩; clear hE78
    refine p_tn ?_
    refine wp_ret ?_
    have hF : F_PartEnd ap i = (F_partEnd ap i, 0) := by unfold F_PartEnd; rw [ht54, ht20]; first | done | rfl
    refine c_ret2 hE79 rfl rfl rfl ?_
    exact ⟨(by rw [hF]; first | done | (dsimp only; done) | rfl), hS73.ext⟩
theorem PartEnd_cd (ap : List Int) (i : Int) : 0 ≤ (F_PartEnd ap i).2 ∧ (F_PartEnd ap i).2 ≤ 2 := by
  unfold F_PartEnd
  cases F_isFormula ap
  · exact ⟨by show (0 : Int) ≤ 1; omega, by show (1 : Int) ≤ 2; omega⟩
  · cases F_inRange i 0 (((ap.length / 2 : Nat) : Int) - 1)
    · exact ⟨by show (0 : Int) ≤ 2; omega, Int.le_refl 2⟩
    · exact ⟨Int.le_refl 0, by show (0 : Int) ≤ 2; omega⟩
end Go.Proofs.Ytkilkfhjfobcdaa
