/- GTE: models and contracts, printed by wip/gen/gen.py -/
import Derived.Test.YtkilkfhjfobcdaaKFTGTD
import Derived.Test.YtkilkfhjfobcdaaKFTPart
set_option linter.unusedVariables false
set_option linter.unusedSimpArgs false
namespace Go.Proofs.Ytkilkfhjfobcdaa
open Go.RowKit
def F_Frame_sees (f0 : Int) (f1 : List Int) (xp : Int) (yp : Int) : Bool :=
  F_has (gI f1 xp) yp
theorem cf_Frame_sees (args : Array Value) (w : World) : (callFunc 176 args).run Try.prog w = .ok (.enter 176 args) w := by kernel_rfl
set_option maxRecDepth 100000 in
theorem c_Frame_sees (f0 : Int) (f1A : Option Addr) (f1N f1C : Nat) (f1 : List Int) (xp : Int) (yp : Int) (w : World) (f1R : RdS w 1 f1A f1N f1C f1) (hx : 0 ≤ xp ∧ xp < (f1.length : Int)) (hy : 0 ≤ yp) :
    Calls Try.prog 176 #[.agg #[.int .i64 f0, .slice f1A f1N f1C], .int .i64 xp, .int .i64 yp] w (Ret fun v w' => v = .bool (F_Frame_sees f0 f1 xp yp) ∧ Ext w w') := by
  obtain rfl : f1N = f1.length := f1R.len1.symm
  have f1Le := f1R.le
  have hS := St.nil w
  have hS1 := St.rd0 hS rfl f1R; clear hS
  refine enter (args := [.agg #[.int .i64 f0, .slice f1A f1.length f1C], .int .i64 xp, .int .i64 yp]) Try.func176 rfl rfl ?_
  rw [Try.ntmps176]; intro a hE
  have hE := hE.sub (L' := [(0, .agg #[.int .i64 f0, .slice f1A f1.length f1C]), (1, .int .i64 xp), (2, .int .i64 yp)]) ⟨rfl, rfl, rfl, trivial⟩
  refine c_seq ?_
  refine c_reg ?_
  refine l_step hE rfl (l_box (v := .agg #[.int .i64 f0, .slice f1A f1.length f1C]) (cs := #[.int .i64 f0, .slice f1A f1.length f1C]) hS1 hE rfl rfl rfl ?_)
  intro b2 w3 hS6 he7 a4 hE5; clear hS1 hE
  refine q_step (v := .bool false) hE5 (y_assign rfl) rfl rfl rfl ?_; intro a8 hE9; clear hE5
  refine c_nil ?_
  have hE10 := hE9.sub (L' := [(1, .int .i64 xp), (2, .int .i64 yp), (3, .pointer (some ⟨b2, 0, none⟩))]) ⟨rfl, rfl, rfl, trivial⟩; clear hE9
  refine p_tn ?_
  refine c_seq ?_
  refine c_reg ?_
  refine q_step (v := .pointer (some ⟨b2, 1, none⟩)) hE10 (y_field rfl (fun _ => by kernel_rfl)) rfl rfl rfl ?_; intro a11 hE12; clear hE10
  refine q_step (v := .slice f1A f1.length f1C) hE12 (y_load (fun _ => by kernel_rfl) rfl (St.cell (i := 0) hS6 rfl rfl)) rfl rfl rfl ?_; intro a13 hE14; clear hE12
  refine q_step (v := .int .i64 xp) hE14 (y_move rfl) rfl rfl rfl ?_; intro a15 hE16; clear hE14
  refine q_step (v := .pointer (some (adr f1A (Int.toNat xp)))) hE16 (y_idx (by kernel_rfl) (fun _ => by kernel_rfl) rfl rfl (RdS.isS (m := xp) (St.rdR (i := 1) hS6 rfl) (by omega) (by omega)) (by omega) (by omega) (Nat.mul_one _).symm) rfl rfl rfl ?_; intro a17 hE18; clear hE16
  refine q_step (v := .int .i64 (gI f1 xp)) hE18 (y_load (fun _ => by kernel_rfl) rfl (RdS.elt (St.rdR (i := 1) hS6 rfl) (by omega) (by omega))) rfl rfl rfl ?_; intro a19 hE20; clear hE18
  refine q_step (v := .int .i64 yp) hE20 (y_move rfl) rfl rfl rfl ?_; intro a21 hE22; clear hE20
  refine l_step hE22 rfl (l_call (f := 177) (argv := [.int .i64 (gI f1 xp), .int .i64 yp]) hE22 (fun _ => cf_has _ _) rfl rfl (c_has (gI f1 xp) yp w3 (by omega)) ?_)
  rintro _ _ ⟨rfl, rfl⟩ a25 hE26; clear hE22
  refine q_step (v := .bool (F_has (gI f1 xp) yp)) hE26 (y_assign rfl) rfl rfl rfl ?_; intro a29 hE30; clear hE26
  refine c_nil ?_
  have hE31 := hE30.sub (L' := [(6, .bool (F_has (gI f1 xp) yp))]) ⟨rfl, trivial⟩; clear hE30
  refine p_tn ?_
  refine wp_ret ?_
  have hF : F_Frame_sees f0 f1 xp yp = F_has (gI f1 xp) yp := by unfold F_Frame_sees; rfl
  refine c_ret1 hE31 rfl rfl ?_
  exact ⟨(by rw [hF]; first | done | (dsimp only; done) | rfl), hS6.ext⟩
def F_Model_holds_L1b (mp0 : Int) (mp1 : List Int) (mp2 : List Int) (ap : List Int) (self : Int → List Int → List Int → List Int → List Int → Bool) (rec : Int → (List Int) → Except (Bool) (Int × (List Int))) (t120 : Int) (inner9 : List Int) : Except (Bool) (Int × (List Int)) :=
  bif (decide (t120 < mp0)) then (bif ((self mp0 mp1 mp2 (gL (F_below ap) 0) (sI inner9 (gS 3 1 ap 0) t120)) == (decide ((gS 3 0 ap 0) = 8))) then (.error (decide ((gS 3 0 ap 0) = 8))) else (rec (t120 + 1) (sI inner9 (gS 3 1 ap 0) t120))) else (.ok (t120, inner9))
def F_Model_holds_L1 (mp0 : Int) (mp1 : List Int) (mp2 : List Int) (ap : List Int) (self : Int → List Int → List Int → List Int → List Int → Bool) : Nat → Int → (List Int) → Except (Bool) (Int × (List Int))
  | 0, t120, inner9 => .ok (t120, inner9)
  | r + 1, t120, inner9 => F_Model_holds_L1b mp0 mp1 mp2 ap self (F_Model_holds_L1 mp0 mp1 mp2 ap self r) t120 inner9
def F_Model_holds_L2b (mp0 : Int) (mp1 : List Int) (mp2 : List Int) (ap : List Int) (self : Int → List Int → List Int → List Int → List Int → Bool) (rec : Int → (List Int) → Except (Bool) (Int × (List Int))) (t120L2 : Int) (inner9L2 : List Int) : Except (Bool) (Int × (List Int)) :=
  bif (decide (t120L2 < mp0)) then (bif ((self mp0 mp1 mp2 (gL (F_below ap) 0) (sI inner9L2 (gS 3 1 ap 0) t120L2)) == (decide ((gS 3 0 ap 0) = 8))) then (.error (decide ((gS 3 0 ap 0) = 8))) else (rec (t120L2 + 1) (sI inner9L2 (gS 3 1 ap 0) t120L2))) else (.ok (t120L2, inner9L2))
def F_Model_holds_L2 (mp0 : Int) (mp1 : List Int) (mp2 : List Int) (ap : List Int) (self : Int → List Int → List Int → List Int → List Int → Bool) : Nat → Int → (List Int) → Except (Bool) (Int × (List Int))
  | 0, t120L2, inner9L2 => .ok (t120L2, inner9L2)
  | r + 1, t120L2, inner9L2 => F_Model_holds_L2b mp0 mp1 mp2 ap self (F_Model_holds_L2 mp0 mp1 mp2 ap self r) t120L2 inner9L2
def F_Model_holds_b (self : Int → List Int → List Int → List Int → List Int → Bool) (mp0 : Int) (mp1 : List Int) (mp2 : List Int) (ap : List Int) (worlds : List Int) : Bool :=
  bif (decide ((gS 3 0 ap 0) = 0)) then (F_Frame_sees mp0 mp1 (gI worlds (gS 3 1 ap 0)) (gI worlds (gS 3 2 ap 0))) else (bif (decide ((gS 3 0 ap 0) = 1)) then (decide ((gI worlds (gS 3 1 ap 0)) = (gI worlds (gS 3 2 ap 0)))) else (bif (decide ((gS 3 0 ap 0) = 2)) then (F_has (gI mp2 (gS 3 1 ap 0)) (gI worlds (gS 3 2 ap 0))) else (bif (decide ((gS 3 0 ap 0) = 3)) then false else (bif (decide ((gS 3 0 ap 0) = 4)) then (bif (self mp0 mp1 mp2 (gL (F_below ap) 0) worlds) then (self mp0 mp1 mp2 (gL (F_below ap) 1) worlds) else false) else (bif (decide ((gS 3 0 ap 0) = 5)) then (bif (self mp0 mp1 mp2 (gL (F_below ap) 0) worlds) then true else (self mp0 mp1 mp2 (gL (F_below ap) 1) worlds)) else (bif (decide ((gS 3 0 ap 0) = 6)) then (bif (!(self mp0 mp1 mp2 (gL (F_below ap) 0) worlds)) then true else (self mp0 mp1 mp2 (gL (F_below ap) 1) worlds)) else (bif (isOk (F_Model_holds_L1 mp0 mp1 mp2 ap self (Int.toNat (mp0 - 0) + 1) 0 worlds)) then (!(decide ((gS 3 0 ap 0) = 8))) else (errD (F_Model_holds_L1 mp0 mp1 mp2 ap self (Int.toNat (mp0 - 0) + 1) 0 worlds)))))))))
def F_Model_holds_r : Nat → Int → List Int → List Int → List Int → List Int → Bool
  | 0 => fun _ _ _ _ _ => default
  | r + 1 => F_Model_holds_b (F_Model_holds_r r)
def F_Model_holds (mp0 : Int) (mp1 : List Int) (mp2 : List Int) (ap : List Int) (worlds : List Int) : Bool := F_Model_holds_r (ap.length + 1) mp0 mp1 mp2 ap worlds
theorem holds_L12 (mp0 : Int) (mp1 mp2 ap : List Int) (self : Int → List Int → List Int → List Int → List Int → Bool) : F_Model_holds_L2 mp0 mp1 mp2 ap self = F_Model_holds_L1 mp0 mp1 mp2 ap self := by
  funext r
  induction r with
  | zero => rfl
  | succ r ih =>
    funext t x
    show F_Model_holds_L2b mp0 mp1 mp2 ap self (F_Model_holds_L2 mp0 mp1 mp2 ap self r) t x = F_Model_holds_L1b mp0 mp1 mp2 ap self (F_Model_holds_L1 mp0 mp1 mp2 ap self r) t x
    rw [ih]; rfl
theorem cf_Model_holds (args : Array Value) (w : World) : (callFunc 110 args).run Try.prog w = .ok (.enter 110 args) w := by kernel_rfl
set_option maxHeartbeats 1600000 in
set_option maxRecDepth 100000 in
theorem cb_Model_holds (self : Int → List Int → List Int → List Int → List Int → Bool) (mp0 : Int) (mp1A : Option Addr) (mp1N mp1C : Nat) (mp1 : List Int) (mp2A : Option Addr) (mp2N mp2C : Nat) (mp2 : List Int) (apA : Option Addr) (apN apC : Nat) (ap : List Int) (worldsA : Option Addr) (worldsN worldsC : Nat) (worlds : List Int) (w : World) (mp1R : RdS w 1 mp1A mp1N mp1C mp1) (mp2R : RdS w 1 mp2A mp2N mp2C mp2) (apR : RdS w 3 apA apN apC ap) (worldsR : RdS w 1 worldsA worldsN worldsC worlds) (hm0 : 0 ≤ mp0 ∧ mp0 ≤ 8) (hml : (mp1.length : Int) = mp0) (hvl : mp2.length ≤ 6) (hl : ap.length ≤ 4194304) (hf : IsPm (mp2.length : Int) ap) (hw : worlds.length = 10) (hfw : ∀ x : Nat, tb (F_l10Free ap) x = true → 0 ≤ gI worlds (x : Int) ∧ gI worlds (x : Int) < mp0) (mu : Nat) (hmu : mu = ap.length) (ih : ∀ (mp0 : Int) (mp1A : Option Addr) (mp1N mp1C : Nat) (mp1 : List Int) (mp2A : Option Addr) (mp2N mp2C : Nat) (mp2 : List Int) (apA : Option Addr) (apN apC : Nat) (ap : List Int) (worldsA : Option Addr) (worldsN worldsC : Nat) (worlds : List Int) (w : World) (mp1R : RdS w 1 mp1A mp1N mp1C mp1) (mp2R : RdS w 1 mp2A mp2N mp2C mp2) (apR : RdS w 3 apA apN apC ap) (worldsR : RdS w 1 worldsA worldsN worldsC worlds) (hm0 : 0 ≤ mp0 ∧ mp0 ≤ 8) (hml : (mp1.length : Int) = mp0) (hvl : mp2.length ≤ 6) (hl : ap.length ≤ 4194304) (hf : IsPm (mp2.length : Int) ap) (hw : worlds.length = 10) (hfw : ∀ x : Nat, tb (F_l10Free ap) x = true → 0 ≤ gI worlds (x : Int) ∧ gI worlds (x : Int) < mp0) (hdec : ap.length < mu), Calls Try.prog 110 #[.agg #[.int .i64 mp0, .slice mp1A mp1N mp1C, .slice mp2A mp2N mp2C], .slice apA apN apC, .slice worldsA worldsN worldsC] w (Ret fun v w' => v = .bool (self mp0 mp1 mp2 ap worlds) ∧ Ext w w')) :
    Calls Try.prog 110 #[.agg #[.int .i64 mp0, .slice mp1A mp1N mp1C, .slice mp2A mp2N mp2C], .slice apA apN apC, .slice worldsA worldsN worldsC] w (Ret fun v w' => v = .bool (F_Model_holds_b self mp0 mp1 mp2 ap worlds) ∧ Ext w w') := by
  obtain rfl : mp1N = mp1.length := mp1R.len1.symm
  have mp1Le := mp1R.le
  obtain rfl : mp2N = mp2.length := mp2R.len1.symm
  have mp2Le := mp2R.le
  obtain rfl : apN = ap.length / 3 := (apR.lenD (by decide)).symm
  have apEv := apR.ev (by decide)
  have apLe := apR.le
  obtain rfl : worldsN = worlds.length := worldsR.len1.symm
  have worldsLe := worldsR.le
  have hl1 := hf.len
  have hpk := pm_kind hf
  have hfr := pm_fr hf hfw
  have hpt := below_rows hf
  have hS := St.nil w
  have hS1 := St.rd0 hS rfl mp1R; clear hS
  have hS2 := St.rd0 hS1 rfl mp2R; clear hS1
  have hS3 := St.rd0 hS2 rfl apR; clear hS2
  have hS4 := St.rd0 hS3 rfl worldsR; clear hS3
  refine enter (args := [.agg #[.int .i64 mp0, .slice mp1A mp1.length mp1C, .slice mp2A mp2.length mp2C], .slice apA ((ap).length / 3 : Nat) apC, .slice worldsA worlds.length worldsC]) Try.func110 rfl rfl ?_
  rw [Try.ntmps110]; intro a hE
  have hE := hE.sub (L' := [(0, .agg #[.int .i64 mp0, .slice mp1A mp1.length mp1C, .slice mp2A mp2.length mp2C]), (1, .slice apA ((ap).length / 3 : Nat) apC), (2, .slice worldsA worlds.length worldsC)]) ⟨rfl, rfl, rfl, trivial⟩
  refine c_seq ?_
  refine c_reg ?_
  refine l_step hE rfl (l_box (v := .agg #[.int .i64 mp0, .slice mp1A mp1.length mp1C, .slice mp2A mp2.length mp2C]) (cs := #[.int .i64 mp0, .slice mp1A mp1.length mp1C, .slice mp2A mp2.length mp2C]) hS4 hE rfl rfl rfl ?_)
  intro b5 w6 hS9 he10 a7 hE8; clear hS4 hE
  refine q_step (v := .bool false) hE8 (y_assign rfl) rfl rfl rfl ?_; intro a11 hE12; clear hE8
  refine c_nil ?_
  have hE13 := hE12.sub (L' := [(1, .slice apA ((ap).length / 3 : Nat) apC), (2, .slice worldsA worlds.length worldsC), (3, .pointer (some ⟨b5, 0, none⟩))]) ⟨rfl, rfl, rfl, trivial⟩; clear hE12
  refine p_tn ?_
  refine c_seq ?_
  refine d_start (fun w w' => (fun w' => rngA w' (adr apA (Int.toNat 0 * 3)) [.int .i64 (gS 3 0 ap 0), .int .i64 (gS 3 1 ap 0), .int .i64 (gS 3 2 ap 0)] ∧ True) w → (fun w' => rngA w' (adr apA (Int.toNat 0 * 3)) [.int .i64 (gS 3 0 ap 0), .int .i64 (gS 3 1 ap 0), .int .i64 (gS 3 2 ap 0)] ∧ True) w') [2] 8 (by kernel_rfl) rfl ?_
  intro w14 he15; have hS16 := St.go hS9 he15; clear hS9
  refine d_pure (fun _ h => h) (v := .slice apA ((ap).length / 3 : Nat) apC) 0 rfl hE13 (y_move rfl) rfl (by kernel_rfl) (by kernel_rfl) (by kernel_rfl) rfl rfl (fun _ _ _ h => h) ?_; intro a17 hE18; clear hE13
  refine d_pure (fun _ h => h) (v := .pointer (some (adr apA (Int.toNat 0 * 3)))) 1 rfl hE18 (y_idx (by kernel_rfl) (fun _ => by kernel_rfl) rfl rfl (RdS.isS (m := 0) (St.rdR (i := 2) hS16 rfl) (by omega) (by omega)) (by omega) (by omega) rfl) rfl (by kernel_rfl) (by kernel_rfl) (by kernel_rfl) rfl rfl (fun _ _ _ h => h) ?_; intro a19 hE20; clear hE18
  refine d_take (fun _ h => h) (fun _ _ h k => h k) (v := .agg #[.int .i64 (gS 3 0 ap 0), .int .i64 (gS 3 1 ap 0), .int .i64 (gS 3 2 ap 0)]) 2 rfl hE20 (S := fun w' => rngA w' (adr apA (Int.toNat 0 * 3)) [.int .i64 (gS 3 0 ap 0), .int .i64 (gS 3 1 ap 0), .int .i64 (gS 3 2 ap 0)] ∧ True) ⟨(RdS.rng3 (St.rdR (i := 2) hS16 rfl) (by omega) (by omega) _ (Ext.refl _)), trivial⟩ (y_loadE Try.underlying115 rfl (by kernel_rfl) rfl (fun _ h => h.1)) rfl rfl (by kernel_rfl) (by kernel_rfl) (by kernel_rfl) (by kernel_rfl) rfl rfl (fun _ _ _ h => h) ?_; intro a21 hE22; clear hE20
  refine d_pure (fun _ h => h) (v := .slice apA ((ap).length / 3 : Nat) apC) 3 rfl hE22 (y_move rfl) rfl (by kernel_rfl) (by kernel_rfl) (by kernel_rfl) rfl rfl (fun _ _ _ h => h) ?_; intro a23 hE24; clear hE22
  refine d_two 4 5 (by kernel_rfl) rfl rfl hE24 rfl rfl ?_ ?_
  ·
   have hc31 := c_below apA ((ap).length / 3 : Nat) apC ap w14 (St.rdR (i := 2) hS16 rfl) (by omega) (hf.mono (by omega))
   refine l_call (f := 172) (argv := [.slice apA ((ap).length / 3 : Nat) apC]) hE24 (fun _ => cf_below _ _) rfl rfl (by exact hc31) ?_
   rintro _ w26 ⟨b32, c33, rfl, ho34, he30⟩ a27 hE28; clear hE24
   have hS29 := St.ownRows (rows := belowRows apA apC ap) hS16 he30 ho34 rfl (belowRows_xs _ _ _) (belowRows_ok (St.rdR (i := 2) hS16 rfl) (St.robR (i := 2) hS16 rfl) hf); clear hS16
   refine ⟨fun _ _ => ⟨(RdS.rng3 (St.rdR (i := 3) hS29 rfl) (by omega) (by omega) _ (Ext.refl _)), trivial⟩, ?_⟩
   refine d_only 5 (by kernel_rfl) rfl hE28 rfl (l_alloc (z := .agg #[.int .i64 0, .int .i64 0, .int .i64 0]) (cs := #[.int .i64 0, .int .i64 0, .int .i64 0]) hS29 hE28 (fun _ => by kernel_rfl) rfl rfl ?_)
   intro b35 w36 hS39 he40 a37 hE38; clear hS29 hE28
   refine ⟨fun _ _ => ⟨(RdS.rng3 (St.rdR (i := 4) hS39 rfl) (by omega) (by omega) _ (Ext.refl _)), trivial⟩, ?_⟩
   refine d_only 6 (by kernel_rfl) rfl hE38 rfl (l_storeS (k := 0) (cs' := #[.int .i64 (gS 3 0 ap 0), .int .i64 (gS 3 1 ap 0), .int .i64 (gS 3 2 ap 0)]) hS39 hE38 (by kernel_rfl) rfl rfl (by kernel_rfl) rfl rfl ?_)
   intro w42 hS45 a43 hE44; clear hS39 hE38
   refine ⟨fun h => Bool.noConfusion (h.symm.trans (show exm _ _ _ = true by kernel_rfl)), ?_⟩
   refine d_pure (fun _ h => h) (v := .slice b32 ((F_below ap).length) c33) 7 rfl hE44 (y_assign rfl) rfl (by kernel_rfl) (by kernel_rfl) (by kernel_rfl) rfl rfl (fun _ _ _ h => h) ?_; intro a47 hE48; clear hE44
   refine d_done (by kernel_rfl) ?_
   have hE49 := hE48.sub (L' := [(2, .slice worldsA worlds.length worldsC), (3, .pointer (some ⟨b5, 0, none⟩)), (7, .pointer (some ⟨b35, 0, none⟩)), (8, .slice b32 ((F_below ap).length) c33)]) ⟨rfl, rfl, rfl, rfl, trivial⟩; clear hE48
   refine p_tn ?_
   refine c_seq ?_
   refine c_seq ?_
   refine c_reg ?_
   refine q_step (v := .pointer (some ⟨b35, 0, none⟩)) hE49 (y_field rfl (fun _ => by kernel_rfl)) rfl rfl rfl ?_; intro a50 hE51; clear hE49
   refine q_step (v := .int .i64 (gS 3 0 ap 0)) hE51 (y_load (fun _ => by kernel_rfl) rfl (St.cell (i := 0) hS45 rfl rfl)) rfl rfl rfl ?_; intro a52 hE53; clear hE51
   refine c_nil ?_
   have hE54 := hE53.sub (L' := [(2, .slice worldsA worlds.length worldsC), (3, .pointer (some ⟨b5, 0, none⟩)), (7, .pointer (some ⟨b35, 0, none⟩)), (8, .slice b32 ((F_below ap).length) c33), (18, .int .i64 (gS 3 0 ap 0))]) ⟨rfl, rfl, rfl, rfl, rfl, trivial⟩; clear hE53
   refine p_tn ?_
   refine wp_block ?_
   refine c_seq ?_
   refine c_reg ?_
   refine q_step (v := .bool (decide ((gS 3 0 ap 0) = 0))) hE54 (y_eql rfl rfl) rfl rfl rfl ?_; intro a55 hE56; clear hE54
   refine q_step (v := .bool (decide ((gS 3 0 ap 0) = 0))) hE56 (y_assign rfl) rfl rfl rfl ?_; intro a57 hE58; clear hE56
   refine c_nil ?_
   have hE59 := hE58.sub (L' := [(2, .slice worldsA worlds.length worldsC), (3, .pointer (some ⟨b5, 0, none⟩)), (7, .pointer (some ⟨b35, 0, none⟩)), (8, .slice b32 ((F_below ap).length) c33), (18, .int .i64 (gS 3 0 ap 0)), (19, .bool (decide ((gS 3 0 ap 0) = 0)))]) ⟨rfl, rfl, rfl, rfl, rfl, rfl, trivial⟩; clear hE58
   refine p_tn ?_
   refine c_cond hE59 rfl (fun ht60 => ?_) (fun ht60 => ?_)
   ·
    have hp61 := of_decide_eq_true ht60
    have hE62 := hE59; rw [ht60] at hE62; clear hE59
    refine c_seq ?_
    refine d_start (fun w w' => (fun w' => w'.heap[b5]? = some (.cells #[.int .i64 mp0, .slice mp1A mp1.length mp1C, .slice mp2A mp2.length mp2C] 69 (0, 0)) ∧ w'.cell? ⟨b35, 1, none⟩ = some (.int .i64 (gS 3 1 ap 0)) ∧ w'.cell? (adr worldsA (Int.toNat (gS 3 1 ap 0))) = some (.int .i64 (gI worlds (gS 3 1 ap 0))) ∧ w'.cell? ⟨b35, 2, none⟩ = some (.int .i64 (gS 3 2 ap 0)) ∧ w'.cell? (adr worldsA (Int.toNat (gS 3 2 ap 0))) = some (.int .i64 (gI worlds (gS 3 2 ap 0))) ∧ True) w → (fun w' => w'.heap[b5]? = some (.cells #[.int .i64 mp0, .slice mp1A mp1.length mp1C, .slice mp2A mp2.length mp2C] 69 (0, 0)) ∧ w'.cell? ⟨b35, 1, none⟩ = some (.int .i64 (gS 3 1 ap 0)) ∧ w'.cell? (adr worldsA (Int.toNat (gS 3 1 ap 0))) = some (.int .i64 (gI worlds (gS 3 1 ap 0))) ∧ w'.cell? ⟨b35, 2, none⟩ = some (.int .i64 (gS 3 2 ap 0)) ∧ w'.cell? (adr worldsA (Int.toNat (gS 3 2 ap 0))) = some (.int .i64 (gI worlds (gS 3 2 ap 0))) ∧ True) w') [1, 4, 6, 9, 11] 14 (by kernel_rfl) rfl ?_
    intro w63 he64; have hS65 := St.go hS45 he64; clear hS45
    refine d_pure (fun _ h => h) (v := .pointer (some ⟨b5, 0, none⟩)) 0 rfl hE62 (y_field rfl (fun _ => by kernel_rfl)) rfl (by kernel_rfl) (by kernel_rfl) (by kernel_rfl) rfl rfl (fun _ _ _ h => h) ?_; intro a66 hE67; clear hE62
    refine d_take (fun _ h => h) (fun _ _ h k => h k) (v := .agg #[.int .i64 mp0, .slice mp1A mp1.length mp1C]) 1 rfl hE67 (S := fun w' => w'.heap[b5]? = some (.cells #[.int .i64 mp0, .slice mp1A mp1.length mp1C, .slice mp2A mp2.length mp2C] 69 (0, 0)) ∧ w'.cell? ⟨b35, 1, none⟩ = some (.int .i64 (gS 3 1 ap 0)) ∧ w'.cell? (adr worldsA (Int.toNat (gS 3 1 ap 0))) = some (.int .i64 (gI worlds (gS 3 1 ap 0))) ∧ w'.cell? ⟨b35, 2, none⟩ = some (.int .i64 (gS 3 2 ap 0)) ∧ w'.cell? (adr worldsA (Int.toNat (gS 3 2 ap 0))) = some (.int .i64 (gI worlds (gS 3 2 ap 0))) ∧ True) ⟨(St.row (i := 2) hS65 rfl _ (Ext.refl _)), (St.cell (i := 0) hS65 rfl rfl _ (Ext.refl _)), (RdS.elt (St.rdR (i := 3) hS65 rfl) (by omega) (by omega) _ (Ext.refl _)), (St.cell (i := 0) hS65 rfl rfl _ (Ext.refl _)), (RdS.elt (St.rdR (i := 3) hS65 rfl) (by omega) (by omega) _ (Ext.refl _)), trivial⟩ (y_loadP Try.underlying57 rfl (by kernel_rfl) rfl rfl (fun _ h => h.1)) rfl rfl (by kernel_rfl) (by kernel_rfl) (by kernel_rfl) (by kernel_rfl) rfl rfl (fun _ _ _ h => h) ?_; intro a68 hE69; clear hE67
    refine d_pure (fun _ h => h) (v := .slice worldsA worlds.length worldsC) 2 rfl hE69 (y_move rfl) rfl (by kernel_rfl) (by kernel_rfl) (by kernel_rfl) rfl rfl (fun _ _ _ h => h) ?_; intro a70 hE71; clear hE69
    refine d_pure (fun _ h => h) (v := .pointer (some ⟨b35, 1, none⟩)) 3 rfl hE71 (y_field rfl (fun _ => by kernel_rfl)) rfl (by kernel_rfl) (by kernel_rfl) (by kernel_rfl) rfl rfl (fun _ _ _ h => h) ?_; intro a72 hE73; clear hE71
    refine d_take (fun _ h => h) (fun _ _ h k => h k) (v := .int .i64 (gS 3 1 ap 0)) 4 rfl hE73 (S := fun w' => w'.heap[b5]? = some (.cells #[.int .i64 mp0, .slice mp1A mp1.length mp1C, .slice mp2A mp2.length mp2C] 69 (0, 0)) ∧ w'.cell? ⟨b35, 1, none⟩ = some (.int .i64 (gS 3 1 ap 0)) ∧ w'.cell? (adr worldsA (Int.toNat (gS 3 1 ap 0))) = some (.int .i64 (gI worlds (gS 3 1 ap 0))) ∧ w'.cell? ⟨b35, 2, none⟩ = some (.int .i64 (gS 3 2 ap 0)) ∧ w'.cell? (adr worldsA (Int.toNat (gS 3 2 ap 0))) = some (.int .i64 (gI worlds (gS 3 2 ap 0))) ∧ True) ⟨(St.row (i := 2) hS65 rfl _ (Ext.refl _)), (St.cell (i := 0) hS65 rfl rfl _ (Ext.refl _)), (RdS.elt (St.rdR (i := 3) hS65 rfl) (by omega) (by omega) _ (Ext.refl _)), (St.cell (i := 0) hS65 rfl rfl _ (Ext.refl _)), (RdS.elt (St.rdR (i := 3) hS65 rfl) (by omega) (by omega) _ (Ext.refl _)), trivial⟩ (y_load (fun _ => by kernel_rfl) rfl (fun _ h => h.2.1)) rfl rfl (by kernel_rfl) (by kernel_rfl) (by kernel_rfl) (by kernel_rfl) rfl rfl (fun _ _ _ h => h) ?_; intro a74 hE75; clear hE73
    refine d_pure (fun _ h => h) (v := .pointer (some (adr worldsA (Int.toNat (gS 3 1 ap 0))))) 5 rfl hE75 (y_idx (by kernel_rfl) (fun _ => by kernel_rfl) rfl rfl (RdS.isS (m := gS 3 1 ap 0) (St.rdR (i := 3) hS65 rfl) (by omega) (by omega)) (by omega) (by omega) (Nat.mul_one _).symm) rfl (by kernel_rfl) (by kernel_rfl) (by kernel_rfl) rfl rfl (fun _ _ _ h => h) ?_; intro a76 hE77; clear hE75
    refine d_take (fun _ h => h) (fun _ _ h k => h k) (v := .int .i64 (gI worlds (gS 3 1 ap 0))) 6 rfl hE77 (S := fun w' => w'.heap[b5]? = some (.cells #[.int .i64 mp0, .slice mp1A mp1.length mp1C, .slice mp2A mp2.length mp2C] 69 (0, 0)) ∧ w'.cell? ⟨b35, 1, none⟩ = some (.int .i64 (gS 3 1 ap 0)) ∧ w'.cell? (adr worldsA (Int.toNat (gS 3 1 ap 0))) = some (.int .i64 (gI worlds (gS 3 1 ap 0))) ∧ w'.cell? ⟨b35, 2, none⟩ = some (.int .i64 (gS 3 2 ap 0)) ∧ w'.cell? (adr worldsA (Int.toNat (gS 3 2 ap 0))) = some (.int .i64 (gI worlds (gS 3 2 ap 0))) ∧ True) ⟨(St.row (i := 2) hS65 rfl _ (Ext.refl _)), (St.cell (i := 0) hS65 rfl rfl _ (Ext.refl _)), (RdS.elt (St.rdR (i := 3) hS65 rfl) (by omega) (by omega) _ (Ext.refl _)), (St.cell (i := 0) hS65 rfl rfl _ (Ext.refl _)), (RdS.elt (St.rdR (i := 3) hS65 rfl) (by omega) (by omega) _ (Ext.refl _)), trivial⟩ (y_load (fun _ => by kernel_rfl) rfl (fun _ h => h.2.2.1)) rfl rfl (by kernel_rfl) (by kernel_rfl) (by kernel_rfl) (by kernel_rfl) rfl rfl (fun _ _ _ h => h) ?_; intro a78 hE79; clear hE77
    refine d_pure (fun _ h => h) (v := .slice worldsA worlds.length worldsC) 7 rfl hE79 (y_move rfl) rfl (by kernel_rfl) (by kernel_rfl) (by kernel_rfl) rfl rfl (fun _ _ _ h => h) ?_; intro a80 hE81; clear hE79
    refine d_pure (fun _ h => h) (v := .pointer (some ⟨b35, 2, none⟩)) 8 rfl hE81 (y_field rfl (fun _ => by kernel_rfl)) rfl (by kernel_rfl) (by kernel_rfl) (by kernel_rfl) rfl rfl (fun _ _ _ h => h) ?_; intro a82 hE83; clear hE81
    refine d_take (fun _ h => h) (fun _ _ h k => h k) (v := .int .i64 (gS 3 2 ap 0)) 9 rfl hE83 (S := fun w' => w'.heap[b5]? = some (.cells #[.int .i64 mp0, .slice mp1A mp1.length mp1C, .slice mp2A mp2.length mp2C] 69 (0, 0)) ∧ w'.cell? ⟨b35, 1, none⟩ = some (.int .i64 (gS 3 1 ap 0)) ∧ w'.cell? (adr worldsA (Int.toNat (gS 3 1 ap 0))) = some (.int .i64 (gI worlds (gS 3 1 ap 0))) ∧ w'.cell? ⟨b35, 2, none⟩ = some (.int .i64 (gS 3 2 ap 0)) ∧ w'.cell? (adr worldsA (Int.toNat (gS 3 2 ap 0))) = some (.int .i64 (gI worlds (gS 3 2 ap 0))) ∧ True) ⟨(St.row (i := 2) hS65 rfl _ (Ext.refl _)), (St.cell (i := 0) hS65 rfl rfl _ (Ext.refl _)), (RdS.elt (St.rdR (i := 3) hS65 rfl) (by omega) (by omega) _ (Ext.refl _)), (St.cell (i := 0) hS65 rfl rfl _ (Ext.refl _)), (RdS.elt (St.rdR (i := 3) hS65 rfl) (by omega) (by omega) _ (Ext.refl _)), trivial⟩ (y_load (fun _ => by kernel_rfl) rfl (fun _ h => h.2.2.2.1)) rfl rfl (by kernel_rfl) (by kernel_rfl) (by kernel_rfl) (by kernel_rfl) rfl rfl (fun _ _ _ h => h) ?_; intro a84 hE85; clear hE83
    refine d_pure (fun _ h => h) (v := .pointer (some (adr worldsA (Int.toNat (gS 3 2 ap 0))))) 10 rfl hE85 (y_idx (by kernel_rfl) (fun _ => by kernel_rfl) rfl rfl (RdS.isS (m := gS 3 2 ap 0) (St.rdR (i := 3) hS65 rfl) (by omega) (by omega)) (by omega) (by omega) (Nat.mul_one _).symm) rfl (by kernel_rfl) (by kernel_rfl) (by kernel_rfl) rfl rfl (fun _ _ _ h => h) ?_; intro a86 hE87; clear hE85
    refine d_take (fun _ h => h) (fun _ _ h k => h k) (v := .int .i64 (gI worlds (gS 3 2 ap 0))) 11 rfl hE87 (S := fun w' => w'.heap[b5]? = some (.cells #[.int .i64 mp0, .slice mp1A mp1.length mp1C, .slice mp2A mp2.length mp2C] 69 (0, 0)) ∧ w'.cell? ⟨b35, 1, none⟩ = some (.int .i64 (gS 3 1 ap 0)) ∧ w'.cell? (adr worldsA (Int.toNat (gS 3 1 ap 0))) = some (.int .i64 (gI worlds (gS 3 1 ap 0))) ∧ w'.cell? ⟨b35, 2, none⟩ = some (.int .i64 (gS 3 2 ap 0)) ∧ w'.cell? (adr worldsA (Int.toNat (gS 3 2 ap 0))) = some (.int .i64 (gI worlds (gS 3 2 ap 0))) ∧ True) ⟨(St.row (i := 2) hS65 rfl _ (Ext.refl _)), (St.cell (i := 0) hS65 rfl rfl _ (Ext.refl _)), (RdS.elt (St.rdR (i := 3) hS65 rfl) (by omega) (by omega) _ (Ext.refl _)), (St.cell (i := 0) hS65 rfl rfl _ (Ext.refl _)), (RdS.elt (St.rdR (i := 3) hS65 rfl) (by omega) (by omega) _ (Ext.refl _)), trivial⟩ (y_load (fun _ => by kernel_rfl) rfl (fun _ h => h.2.2.2.2.1)) rfl rfl (by kernel_rfl) (by kernel_rfl) (by kernel_rfl) (by kernel_rfl) rfl rfl (fun _ _ _ h => h) ?_; intro a88 hE89; clear hE87
    have hc96 := c_Frame_sees mp0 mp1A mp1.length mp1C mp1 (gI worlds (gS 3 1 ap 0)) (gI worlds (gS 3 2 ap 0)) w63 (St.rdR (i := 6) hS65 rfl) (by omega) (by omega)
    refine d_only 12 (by kernel_rfl) rfl hE89 rfl (l_call (f := 176) (argv := [.agg #[.int .i64 mp0, .slice mp1A mp1.length mp1C], .int .i64 (gI worlds (gS 3 1 ap 0)), .int .i64 (gI worlds (gS 3 2 ap 0))]) hE89 (fun _ => cf_Frame_sees _ _) rfl rfl (by exact hc96) ?_)
    rintro _ w91 ⟨rfl, he95⟩ a92 hE93; clear hE89
    have hS94 := St.go hS65 he95; clear hS65
    refine ⟨fun h => Bool.noConfusion (h.symm.trans (show exm _ _ _ = true by kernel_rfl)), ?_⟩
    refine d_pure (fun _ h => h) (v := .bool (F_Frame_sees mp0 mp1 (gI worlds (gS 3 1 ap 0)) (gI worlds (gS 3 2 ap 0)))) 13 rfl hE93 (y_assign rfl) rfl (by kernel_rfl) (by kernel_rfl) (by kernel_rfl) rfl rfl (fun _ _ _ h => h) ?_; intro a97 hE98; clear hE93
    refine d_done (by kernel_rfl) ?_
    have hE99 := hE98.sub (L' := [(6, .bool (F_Frame_sees mp0 mp1 (gI worlds (gS 3 1 ap 0)) (gI worlds (gS 3 2 ap 0))))]) ⟨rfl, trivial⟩; clear hE98
    refine p_tn ?_
    refine wp_ret ?_
    refine p_br ?_
    refine p_tr ?_
    have hF : F_Model_holds_b self mp0 mp1 mp2 ap worlds = F_Frame_sees mp0 mp1 (gI worlds (gS 3 1 ap 0)) (gI worlds (gS 3 2 ap 0)) := by unfold F_Model_holds_b; (first | (rw [ht60]; first | done | rfl) | (rw [← holds_L12 mp0 mp1 mp2 ap self, ht60]; first | done | rfl) | (exfalso; omega))
    refine c_ret1 hE99 rfl rfl ?_
    exact ⟨(by rw [hF]; first | done | (dsimp only; done) | rfl), hS94.ext⟩
   ·
    have hp100 := of_decide_eq_false ht60
    have hE101 := hE59; rw [ht60] at hE101; clear hE59
    refine c_seq ?_
    refine c_reg ?_
    refine q_step (v := .bool (decide ((gS 3 0 ap 0) = 1))) hE101 (y_eql rfl rfl) rfl rfl rfl ?_; intro a102 hE103; clear hE101
    refine q_step (v := .bool (decide ((gS 3 0 ap 0) = 1))) hE103 (y_assign rfl) rfl rfl rfl ?_; intro a104 hE105; clear hE103
    refine c_nil ?_
    have hE106 := hE105.sub (L' := [(2, .slice worldsA worlds.length worldsC), (3, .pointer (some ⟨b5, 0, none⟩)), (7, .pointer (some ⟨b35, 0, none⟩)), (8, .slice b32 ((F_below ap).length) c33), (18, .int .i64 (gS 3 0 ap 0)), (34, .bool (decide ((gS 3 0 ap 0) = 1)))]) ⟨rfl, rfl, rfl, rfl, rfl, rfl, trivial⟩; clear hE105
    refine p_tn ?_
    refine c_cond hE106 rfl (fun ht107 => ?_) (fun ht107 => ?_)
    ·
     have hp108 := of_decide_eq_true ht107
     have hE109 := hE106; rw [ht107] at hE109; clear hE106
     refine c_seq ?_
     refine d_start (fun w w' => (fun w' => w'.cell? ⟨b35, 1, none⟩ = some (.int .i64 (gS 3 1 ap 0)) ∧ w'.cell? (adr worldsA (Int.toNat (gS 3 1 ap 0))) = some (.int .i64 (gI worlds (gS 3 1 ap 0))) ∧ w'.cell? ⟨b35, 2, none⟩ = some (.int .i64 (gS 3 2 ap 0)) ∧ w'.cell? (adr worldsA (Int.toNat (gS 3 2 ap 0))) = some (.int .i64 (gI worlds (gS 3 2 ap 0))) ∧ True) w → (fun w' => w'.cell? ⟨b35, 1, none⟩ = some (.int .i64 (gS 3 1 ap 0)) ∧ w'.cell? (adr worldsA (Int.toNat (gS 3 1 ap 0))) = some (.int .i64 (gI worlds (gS 3 1 ap 0))) ∧ w'.cell? ⟨b35, 2, none⟩ = some (.int .i64 (gS 3 2 ap 0)) ∧ w'.cell? (adr worldsA (Int.toNat (gS 3 2 ap 0))) = some (.int .i64 (gI worlds (gS 3 2 ap 0))) ∧ True) w') [2, 4, 7, 9] 12 (by kernel_rfl) rfl ?_
     intro w110 he111; have hS112 := St.go hS45 he111; clear hS45
     refine d_pure (fun _ h => h) (v := .slice worldsA worlds.length worldsC) 0 rfl hE109 (y_move rfl) rfl (by kernel_rfl) (by kernel_rfl) (by kernel_rfl) rfl rfl (fun _ _ _ h => h) ?_; intro a113 hE114; clear hE109
     refine d_pure (fun _ h => h) (v := .pointer (some ⟨b35, 1, none⟩)) 1 rfl hE114 (y_field rfl (fun _ => by kernel_rfl)) rfl (by kernel_rfl) (by kernel_rfl) (by kernel_rfl) rfl rfl (fun _ _ _ h => h) ?_; intro a115 hE116; clear hE114
     refine d_take (fun _ h => h) (fun _ _ h k => h k) (v := .int .i64 (gS 3 1 ap 0)) 2 rfl hE116 (S := fun w' => w'.cell? ⟨b35, 1, none⟩ = some (.int .i64 (gS 3 1 ap 0)) ∧ w'.cell? (adr worldsA (Int.toNat (gS 3 1 ap 0))) = some (.int .i64 (gI worlds (gS 3 1 ap 0))) ∧ w'.cell? ⟨b35, 2, none⟩ = some (.int .i64 (gS 3 2 ap 0)) ∧ w'.cell? (adr worldsA (Int.toNat (gS 3 2 ap 0))) = some (.int .i64 (gI worlds (gS 3 2 ap 0))) ∧ True) ⟨(St.cell (i := 0) hS112 rfl rfl _ (Ext.refl _)), (RdS.elt (St.rdR (i := 3) hS112 rfl) (by omega) (by omega) _ (Ext.refl _)), (St.cell (i := 0) hS112 rfl rfl _ (Ext.refl _)), (RdS.elt (St.rdR (i := 3) hS112 rfl) (by omega) (by omega) _ (Ext.refl _)), trivial⟩ (y_load (fun _ => by kernel_rfl) rfl (fun _ h => h.1)) rfl rfl (by kernel_rfl) (by kernel_rfl) (by kernel_rfl) (by kernel_rfl) rfl rfl (fun _ _ _ h => h) ?_; intro a117 hE118; clear hE116
     refine d_pure (fun _ h => h) (v := .pointer (some (adr worldsA (Int.toNat (gS 3 1 ap 0))))) 3 rfl hE118 (y_idx (by kernel_rfl) (fun _ => by kernel_rfl) rfl rfl (RdS.isS (m := gS 3 1 ap 0) (St.rdR (i := 3) hS112 rfl) (by omega) (by omega)) (by omega) (by omega) (Nat.mul_one _).symm) rfl (by kernel_rfl) (by kernel_rfl) (by kernel_rfl) rfl rfl (fun _ _ _ h => h) ?_; intro a119 hE120; clear hE118
     refine d_take (fun _ h => h) (fun _ _ h k => h k) (v := .int .i64 (gI worlds (gS 3 1 ap 0))) 4 rfl hE120 (S := fun w' => w'.cell? ⟨b35, 1, none⟩ = some (.int .i64 (gS 3 1 ap 0)) ∧ w'.cell? (adr worldsA (Int.toNat (gS 3 1 ap 0))) = some (.int .i64 (gI worlds (gS 3 1 ap 0))) ∧ w'.cell? ⟨b35, 2, none⟩ = some (.int .i64 (gS 3 2 ap 0)) ∧ w'.cell? (adr worldsA (Int.toNat (gS 3 2 ap 0))) = some (.int .i64 (gI worlds (gS 3 2 ap 0))) ∧ True) ⟨(St.cell (i := 0) hS112 rfl rfl _ (Ext.refl _)), (RdS.elt (St.rdR (i := 3) hS112 rfl) (by omega) (by omega) _ (Ext.refl _)), (St.cell (i := 0) hS112 rfl rfl _ (Ext.refl _)), (RdS.elt (St.rdR (i := 3) hS112 rfl) (by omega) (by omega) _ (Ext.refl _)), trivial⟩ (y_load (fun _ => by kernel_rfl) rfl (fun _ h => h.2.1)) rfl rfl (by kernel_rfl) (by kernel_rfl) (by kernel_rfl) (by kernel_rfl) rfl rfl (fun _ _ _ h => h) ?_; intro a121 hE122; clear hE120
     refine d_pure (fun _ h => h) (v := .slice worldsA worlds.length worldsC) 5 rfl hE122 (y_move rfl) rfl (by kernel_rfl) (by kernel_rfl) (by kernel_rfl) rfl rfl (fun _ _ _ h => h) ?_; intro a123 hE124; clear hE122
     refine d_pure (fun _ h => h) (v := .pointer (some ⟨b35, 2, none⟩)) 6 rfl hE124 (y_field rfl (fun _ => by kernel_rfl)) rfl (by kernel_rfl) (by kernel_rfl) (by kernel_rfl) rfl rfl (fun _ _ _ h => h) ?_; intro a125 hE126; clear hE124
     refine d_take (fun _ h => h) (fun _ _ h k => h k) (v := .int .i64 (gS 3 2 ap 0)) 7 rfl hE126 (S := fun w' => w'.cell? ⟨b35, 1, none⟩ = some (.int .i64 (gS 3 1 ap 0)) ∧ w'.cell? (adr worldsA (Int.toNat (gS 3 1 ap 0))) = some (.int .i64 (gI worlds (gS 3 1 ap 0))) ∧ w'.cell? ⟨b35, 2, none⟩ = some (.int .i64 (gS 3 2 ap 0)) ∧ w'.cell? (adr worldsA (Int.toNat (gS 3 2 ap 0))) = some (.int .i64 (gI worlds (gS 3 2 ap 0))) ∧ True) ⟨(St.cell (i := 0) hS112 rfl rfl _ (Ext.refl _)), (RdS.elt (St.rdR (i := 3) hS112 rfl) (by omega) (by omega) _ (Ext.refl _)), (St.cell (i := 0) hS112 rfl rfl _ (Ext.refl _)), (RdS.elt (St.rdR (i := 3) hS112 rfl) (by omega) (by omega) _ (Ext.refl _)), trivial⟩ (y_load (fun _ => by kernel_rfl) rfl (fun _ h => h.2.2.1)) rfl rfl (by kernel_rfl) (by kernel_rfl) (by kernel_rfl) (by kernel_rfl) rfl rfl (fun _ _ _ h => h) ?_; intro a127 hE128; clear hE126
     refine d_pure (fun _ h => h) (v := .pointer (some (adr worldsA (Int.toNat (gS 3 2 ap 0))))) 8 rfl hE128 (y_idx (by kernel_rfl) (fun _ => by kernel_rfl) rfl rfl (RdS.isS (m := gS 3 2 ap 0) (St.rdR (i := 3) hS112 rfl) (by omega) (by omega)) (by omega) (by omega) (Nat.mul_one _).symm) rfl (by kernel_rfl) (by kernel_rfl) (by kernel_rfl) rfl rfl (fun _ _ _ h => h) ?_; intro a129 hE130; clear hE128
     refine d_take (fun _ h => h) (fun _ _ h k => h k) (v := .int .i64 (gI worlds (gS 3 2 ap 0))) 9 rfl hE130 (S := fun w' => w'.cell? ⟨b35, 1, none⟩ = some (.int .i64 (gS 3 1 ap 0)) ∧ w'.cell? (adr worldsA (Int.toNat (gS 3 1 ap 0))) = some (.int .i64 (gI worlds (gS 3 1 ap 0))) ∧ w'.cell? ⟨b35, 2, none⟩ = some (.int .i64 (gS 3 2 ap 0)) ∧ w'.cell? (adr worldsA (Int.toNat (gS 3 2 ap 0))) = some (.int .i64 (gI worlds (gS 3 2 ap 0))) ∧ True) ⟨(St.cell (i := 0) hS112 rfl rfl _ (Ext.refl _)), (RdS.elt (St.rdR (i := 3) hS112 rfl) (by omega) (by omega) _ (Ext.refl _)), (St.cell (i := 0) hS112 rfl rfl _ (Ext.refl _)), (RdS.elt (St.rdR (i := 3) hS112 rfl) (by omega) (by omega) _ (Ext.refl _)), trivial⟩ (y_load (fun _ => by kernel_rfl) rfl (fun _ h => h.2.2.2.1)) rfl rfl (by kernel_rfl) (by kernel_rfl) (by kernel_rfl) (by kernel_rfl) rfl rfl (fun _ _ _ h => h) ?_; intro a131 hE132; clear hE130
     refine d_pure (fun _ h => h) (v := .bool (decide ((gI worlds (gS 3 1 ap 0)) = (gI worlds (gS 3 2 ap 0))))) 10 rfl hE132 (y_eql rfl rfl) rfl (by kernel_rfl) (by kernel_rfl) (by kernel_rfl) rfl rfl (fun _ _ _ h => h) ?_; intro a133 hE134; clear hE132
     refine d_pure (fun _ h => h) (v := .bool (decide ((gI worlds (gS 3 1 ap 0)) = (gI worlds (gS 3 2 ap 0))))) 11 rfl hE134 (y_assign rfl) rfl (by kernel_rfl) (by kernel_rfl) (by kernel_rfl) rfl rfl (fun _ _ _ h => h) ?_; intro a135 hE136; clear hE134
     refine d_done (by kernel_rfl) ?_
     have hE137 := hE136.sub (L' := [(6, .bool (decide ((gI worlds (gS 3 1 ap 0)) = (gI worlds (gS 3 2 ap 0)))))]) ⟨rfl, trivial⟩; clear hE136
     refine p_tn ?_
     refine wp_ret ?_
     refine p_br ?_
     refine p_tr ?_
     have hF : F_Model_holds_b self mp0 mp1 mp2 ap worlds = decide ((gI worlds (gS 3 1 ap 0)) = (gI worlds (gS 3 2 ap 0))) := by unfold F_Model_holds_b; (first | (rw [ht107, ht60]; first | done | rfl) | (rw [← holds_L12 mp0 mp1 mp2 ap self, ht107, ht60]; first | done | rfl) | (exfalso; omega))
     refine c_ret1 hE137 rfl rfl ?_
     exact ⟨(by rw [hF]; first | done | (dsimp only; done) | rfl), hS112.ext⟩
    ·
     have hp138 := of_decide_eq_false ht107
     have hE139 := hE106; rw [ht107] at hE139; clear hE106
     refine c_seq ?_
     refine c_reg ?_
     refine q_step (v := .bool (decide ((gS 3 0 ap 0) = 2))) hE139 (y_eql rfl rfl) rfl rfl rfl ?_; intro a140 hE141; clear hE139
     refine q_step (v := .bool (decide ((gS 3 0 ap 0) = 2))) hE141 (y_assign rfl) rfl rfl rfl ?_; intro a142 hE143; clear hE141
     refine c_nil ?_
     have hE144 := hE143.sub (L' := [(2, .slice worldsA worlds.length worldsC), (3, .pointer (some ⟨b5, 0, none⟩)), (7, .pointer (some ⟨b35, 0, none⟩)), (8, .slice b32 ((F_below ap).length) c33), (18, .int .i64 (gS 3 0 ap 0)), (47, .bool (decide ((gS 3 0 ap 0) = 2)))]) ⟨rfl, rfl, rfl, rfl, rfl, rfl, trivial⟩; clear hE143
     refine p_tn ?_
     refine c_cond hE144 rfl (fun ht145 => ?_) (fun ht145 => ?_)
     ·
      have hp146 := of_decide_eq_true ht145
      have hE147 := hE144; rw [ht145] at hE147; clear hE144
      refine c_seq ?_
      refine d_start (fun w w' => (fun w' => w'.cell? ⟨b5, 2, none⟩ = some (.slice mp2A mp2.length mp2C) ∧ w'.cell? ⟨b35, 1, none⟩ = some (.int .i64 (gS 3 1 ap 0)) ∧ w'.cell? (adr mp2A (Int.toNat (gS 3 1 ap 0))) = some (.int .i64 (gI mp2 (gS 3 1 ap 0))) ∧ w'.cell? ⟨b35, 2, none⟩ = some (.int .i64 (gS 3 2 ap 0)) ∧ w'.cell? (adr worldsA (Int.toNat (gS 3 2 ap 0))) = some (.int .i64 (gI worlds (gS 3 2 ap 0))) ∧ True) w → (fun w' => w'.cell? ⟨b5, 2, none⟩ = some (.slice mp2A mp2.length mp2C) ∧ w'.cell? ⟨b35, 1, none⟩ = some (.int .i64 (gS 3 1 ap 0)) ∧ w'.cell? (adr mp2A (Int.toNat (gS 3 1 ap 0))) = some (.int .i64 (gI mp2 (gS 3 1 ap 0))) ∧ w'.cell? ⟨b35, 2, none⟩ = some (.int .i64 (gS 3 2 ap 0)) ∧ w'.cell? (adr worldsA (Int.toNat (gS 3 2 ap 0))) = some (.int .i64 (gI worlds (gS 3 2 ap 0))) ∧ True) w') [1, 3, 5, 8, 10] 13 (by kernel_rfl) rfl ?_
      intro w148 he149; have hS150 := St.go hS45 he149; clear hS45
      refine d_pure (fun _ h => h) (v := .pointer (some ⟨b5, 2, none⟩)) 0 rfl hE147 (y_field rfl (fun _ => by kernel_rfl)) rfl (by kernel_rfl) (by kernel_rfl) (by kernel_rfl) rfl rfl (fun _ _ _ h => h) ?_; intro a151 hE152; clear hE147
      refine d_take (fun _ h => h) (fun _ _ h k => h k) (v := .slice mp2A mp2.length mp2C) 1 rfl hE152 (S := fun w' => w'.cell? ⟨b5, 2, none⟩ = some (.slice mp2A mp2.length mp2C) ∧ w'.cell? ⟨b35, 1, none⟩ = some (.int .i64 (gS 3 1 ap 0)) ∧ w'.cell? (adr mp2A (Int.toNat (gS 3 1 ap 0))) = some (.int .i64 (gI mp2 (gS 3 1 ap 0))) ∧ w'.cell? ⟨b35, 2, none⟩ = some (.int .i64 (gS 3 2 ap 0)) ∧ w'.cell? (adr worldsA (Int.toNat (gS 3 2 ap 0))) = some (.int .i64 (gI worlds (gS 3 2 ap 0))) ∧ True) ⟨(St.cell (i := 2) hS150 rfl rfl _ (Ext.refl _)), (St.cell (i := 0) hS150 rfl rfl _ (Ext.refl _)), (RdS.elt (St.rdR (i := 5) hS150 rfl) (by omega) (by omega) _ (Ext.refl _)), (St.cell (i := 0) hS150 rfl rfl _ (Ext.refl _)), (RdS.elt (St.rdR (i := 3) hS150 rfl) (by omega) (by omega) _ (Ext.refl _)), trivial⟩ (y_load (fun _ => by kernel_rfl) rfl (fun _ h => h.1)) rfl rfl (by kernel_rfl) (by kernel_rfl) (by kernel_rfl) (by kernel_rfl) rfl rfl (fun _ _ _ h => h) ?_; intro a153 hE154; clear hE152
      refine d_pure (fun _ h => h) (v := .pointer (some ⟨b35, 1, none⟩)) 2 rfl hE154 (y_field rfl (fun _ => by kernel_rfl)) rfl (by kernel_rfl) (by kernel_rfl) (by kernel_rfl) rfl rfl (fun _ _ _ h => h) ?_; intro a155 hE156; clear hE154
      refine d_take (fun _ h => h) (fun _ _ h k => h k) (v := .int .i64 (gS 3 1 ap 0)) 3 rfl hE156 (S := fun w' => w'.cell? ⟨b5, 2, none⟩ = some (.slice mp2A mp2.length mp2C) ∧ w'.cell? ⟨b35, 1, none⟩ = some (.int .i64 (gS 3 1 ap 0)) ∧ w'.cell? (adr mp2A (Int.toNat (gS 3 1 ap 0))) = some (.int .i64 (gI mp2 (gS 3 1 ap 0))) ∧ w'.cell? ⟨b35, 2, none⟩ = some (.int .i64 (gS 3 2 ap 0)) ∧ w'.cell? (adr worldsA (Int.toNat (gS 3 2 ap 0))) = some (.int .i64 (gI worlds (gS 3 2 ap 0))) ∧ True) ⟨(St.cell (i := 2) hS150 rfl rfl _ (Ext.refl _)), (St.cell (i := 0) hS150 rfl rfl _ (Ext.refl _)), (RdS.elt (St.rdR (i := 5) hS150 rfl) (by omega) (by omega) _ (Ext.refl _)), (St.cell (i := 0) hS150 rfl rfl _ (Ext.refl _)), (RdS.elt (St.rdR (i := 3) hS150 rfl) (by omega) (by omega) _ (Ext.refl _)), trivial⟩ (y_load (fun _ => by kernel_rfl) rfl (fun _ h => h.2.1)) rfl rfl (by kernel_rfl) (by kernel_rfl) (by kernel_rfl) (by kernel_rfl) rfl rfl (fun _ _ _ h => h) ?_; intro a157 hE158; clear hE156
      refine d_pure (fun _ h => h) (v := .pointer (some (adr mp2A (Int.toNat (gS 3 1 ap 0))))) 4 rfl hE158 (y_idx (by kernel_rfl) (fun _ => by kernel_rfl) rfl rfl (RdS.isS (m := gS 3 1 ap 0) (St.rdR (i := 5) hS150 rfl) (by omega) (by omega)) (by omega) (by omega) (Nat.mul_one _).symm) rfl (by kernel_rfl) (by kernel_rfl) (by kernel_rfl) rfl rfl (fun _ _ _ h => h) ?_; intro a159 hE160; clear hE158
      refine d_take (fun _ h => h) (fun _ _ h k => h k) (v := .int .i64 (gI mp2 (gS 3 1 ap 0))) 5 rfl hE160 (S := fun w' => w'.cell? ⟨b5, 2, none⟩ = some (.slice mp2A mp2.length mp2C) ∧ w'.cell? ⟨b35, 1, none⟩ = some (.int .i64 (gS 3 1 ap 0)) ∧ w'.cell? (adr mp2A (Int.toNat (gS 3 1 ap 0))) = some (.int .i64 (gI mp2 (gS 3 1 ap 0))) ∧ w'.cell? ⟨b35, 2, none⟩ = some (.int .i64 (gS 3 2 ap 0)) ∧ w'.cell? (adr worldsA (Int.toNat (gS 3 2 ap 0))) = some (.int .i64 (gI worlds (gS 3 2 ap 0))) ∧ True) ⟨(St.cell (i := 2) hS150 rfl rfl _ (Ext.refl _)), (St.cell (i := 0) hS150 rfl rfl _ (Ext.refl _)), (RdS.elt (St.rdR (i := 5) hS150 rfl) (by omega) (by omega) _ (Ext.refl _)), (St.cell (i := 0) hS150 rfl rfl _ (Ext.refl _)), (RdS.elt (St.rdR (i := 3) hS150 rfl) (by omega) (by omega) _ (Ext.refl _)), trivial⟩ (y_load (fun _ => by kernel_rfl) rfl (fun _ h => h.2.2.1)) rfl rfl (by kernel_rfl) (by kernel_rfl) (by kernel_rfl) (by kernel_rfl) rfl rfl (fun _ _ _ h => h) ?_; intro a161 hE162; clear hE160
      refine d_pure (fun _ h => h) (v := .slice worldsA worlds.length worldsC) 6 rfl hE162 (y_move rfl) rfl (by kernel_rfl) (by kernel_rfl) (by kernel_rfl) rfl rfl (fun _ _ _ h => h) ?_; intro a163 hE164; clear hE162
      refine d_pure (fun _ h => h) (v := .pointer (some ⟨b35, 2, none⟩)) 7 rfl hE164 (y_field rfl (fun _ => by kernel_rfl)) rfl (by kernel_rfl) (by kernel_rfl) (by kernel_rfl) rfl rfl (fun _ _ _ h => h) ?_; intro a165 hE166; clear hE164
      refine d_take (fun _ h => h) (fun _ _ h k => h k) (v := .int .i64 (gS 3 2 ap 0)) 8 rfl hE166 (S := fun w' => w'.cell? ⟨b5, 2, none⟩ = some (.slice mp2A mp2.length mp2C) ∧ w'.cell? ⟨b35, 1, none⟩ = some (.int .i64 (gS 3 1 ap 0)) ∧ w'.cell? (adr mp2A (Int.toNat (gS 3 1 ap 0))) = some (.int .i64 (gI mp2 (gS 3 1 ap 0))) ∧ w'.cell? ⟨b35, 2, none⟩ = some (.int .i64 (gS 3 2 ap 0)) ∧ w'.cell? (adr worldsA (Int.toNat (gS 3 2 ap 0))) = some (.int .i64 (gI worlds (gS 3 2 ap 0))) ∧ True) ⟨(St.cell (i := 2) hS150 rfl rfl _ (Ext.refl _)), (St.cell (i := 0) hS150 rfl rfl _ (Ext.refl _)), (RdS.elt (St.rdR (i := 5) hS150 rfl) (by omega) (by omega) _ (Ext.refl _)), (St.cell (i := 0) hS150 rfl rfl _ (Ext.refl _)), (RdS.elt (St.rdR (i := 3) hS150 rfl) (by omega) (by omega) _ (Ext.refl _)), trivial⟩ (y_load (fun _ => by kernel_rfl) rfl (fun _ h => h.2.2.2.1)) rfl rfl (by kernel_rfl) (by kernel_rfl) (by kernel_rfl) (by kernel_rfl) rfl rfl (fun _ _ _ h => h) ?_; intro a167 hE168; clear hE166
      refine d_pure (fun _ h => h) (v := .pointer (some (adr worldsA (Int.toNat (gS 3 2 ap 0))))) 9 rfl hE168 (y_idx (by kernel_rfl) (fun _ => by kernel_rfl) rfl rfl (RdS.isS (m := gS 3 2 ap 0) (St.rdR (i := 3) hS150 rfl) (by omega) (by omega)) (by omega) (by omega) (Nat.mul_one _).symm) rfl (by kernel_rfl) (by kernel_rfl) (by kernel_rfl) rfl rfl (fun _ _ _ h => h) ?_; intro a169 hE170; clear hE168
      refine d_take (fun _ h => h) (fun _ _ h k => h k) (v := .int .i64 (gI worlds (gS 3 2 ap 0))) 10 rfl hE170 (S := fun w' => w'.cell? ⟨b5, 2, none⟩ = some (.slice mp2A mp2.length mp2C) ∧ w'.cell? ⟨b35, 1, none⟩ = some (.int .i64 (gS 3 1 ap 0)) ∧ w'.cell? (adr mp2A (Int.toNat (gS 3 1 ap 0))) = some (.int .i64 (gI mp2 (gS 3 1 ap 0))) ∧ w'.cell? ⟨b35, 2, none⟩ = some (.int .i64 (gS 3 2 ap 0)) ∧ w'.cell? (adr worldsA (Int.toNat (gS 3 2 ap 0))) = some (.int .i64 (gI worlds (gS 3 2 ap 0))) ∧ True) ⟨(St.cell (i := 2) hS150 rfl rfl _ (Ext.refl _)), (St.cell (i := 0) hS150 rfl rfl _ (Ext.refl _)), (RdS.elt (St.rdR (i := 5) hS150 rfl) (by omega) (by omega) _ (Ext.refl _)), (St.cell (i := 0) hS150 rfl rfl _ (Ext.refl _)), (RdS.elt (St.rdR (i := 3) hS150 rfl) (by omega) (by omega) _ (Ext.refl _)), trivial⟩ (y_load (fun _ => by kernel_rfl) rfl (fun _ h => h.2.2.2.2.1)) rfl rfl (by kernel_rfl) (by kernel_rfl) (by kernel_rfl) (by kernel_rfl) rfl rfl (fun _ _ _ h => h) ?_; intro a171 hE172; clear hE170
      have hc179 := c_has (gI mp2 (gS 3 1 ap 0)) (gI worlds (gS 3 2 ap 0)) w148 (by omega)
      refine d_only 11 (by kernel_rfl) rfl hE172 rfl (l_call (f := 177) (argv := [.int .i64 (gI mp2 (gS 3 1 ap 0)), .int .i64 (gI worlds (gS 3 2 ap 0))]) hE172 (fun _ => cf_has _ _) rfl rfl (by exact hc179) ?_)
      rintro _ _ ⟨rfl, rfl⟩ a175 hE176; clear hE172
      refine ⟨fun h => Bool.noConfusion (h.symm.trans (show exm _ _ _ = true by kernel_rfl)), ?_⟩
      refine d_pure (fun _ h => h) (v := .bool (F_has (gI mp2 (gS 3 1 ap 0)) (gI worlds (gS 3 2 ap 0)))) 12 rfl hE176 (y_assign rfl) rfl (by kernel_rfl) (by kernel_rfl) (by kernel_rfl) rfl rfl (fun _ _ _ h => h) ?_; intro a180 hE181; clear hE176
      refine d_done (by kernel_rfl) ?_
      have hE182 := hE181.sub (L' := [(6, .bool (F_has (gI mp2 (gS 3 1 ap 0)) (gI worlds (gS 3 2 ap 0))))]) ⟨rfl, trivial⟩; clear hE181
      refine p_tn ?_
      refine wp_ret ?_
      refine p_br ?_
      refine p_tr ?_
      have hF : F_Model_holds_b self mp0 mp1 mp2 ap worlds = F_has (gI mp2 (gS 3 1 ap 0)) (gI worlds (gS 3 2 ap 0)) := by unfold F_Model_holds_b; (first | (rw [ht145, ht107, ht60]; first | done | rfl) | (rw [← holds_L12 mp0 mp1 mp2 ap self, ht145, ht107, ht60]; first | done | rfl) | (exfalso; omega))
      refine c_ret1 hE182 rfl rfl ?_
      exact ⟨(by rw [hF]; first | done | (dsimp only; done) | rfl), hS150.ext⟩
     ·
      have hp183 := of_decide_eq_false ht145
      have hE184 := hE144; rw [ht145] at hE184; clear hE144
      refine c_seq ?_
      refine c_reg ?_
      refine q_step (v := .bool (decide ((gS 3 0 ap 0) = 3))) hE184 (y_eql rfl rfl) rfl rfl rfl ?_; intro a185 hE186; clear hE184
      refine q_step (v := .bool (decide ((gS 3 0 ap 0) = 3))) hE186 (y_assign rfl) rfl rfl rfl ?_; intro a187 hE188; clear hE186
      refine c_nil ?_
      have hE189 := hE188.sub (L' := [(2, .slice worldsA worlds.length worldsC), (3, .pointer (some ⟨b5, 0, none⟩)), (7, .pointer (some ⟨b35, 0, none⟩)), (8, .slice b32 ((F_below ap).length) c33), (18, .int .i64 (gS 3 0 ap 0)), (61, .bool (decide ((gS 3 0 ap 0) = 3)))]) ⟨rfl, rfl, rfl, rfl, rfl, rfl, trivial⟩; clear hE188
      refine p_tn ?_
      refine c_cond hE189 rfl (fun ht190 => ?_) (fun ht190 => ?_)
      ·
       have hp191 := of_decide_eq_true ht190
       have hE192 := hE189; rw [ht190] at hE192; clear hE189
       refine c_seq ?_
       refine c_reg ?_
       refine q_step (v := .bool false) hE192 (y_assign rfl) rfl rfl rfl ?_; intro a193 hE194; clear hE192
       refine c_nil ?_
       have hE195 := hE194.sub (L' := [(6, .bool false)]) ⟨rfl, trivial⟩; clear hE194
       refine p_tn ?_
       refine wp_ret ?_
       refine p_br ?_
       refine p_tr ?_
       have hF : F_Model_holds_b self mp0 mp1 mp2 ap worlds = false := by unfold F_Model_holds_b; (first | (rw [ht190, ht145, ht107, ht60]; first | done | rfl) | (rw [← holds_L12 mp0 mp1 mp2 ap self, ht190, ht145, ht107, ht60]; first | done | rfl) | (exfalso; omega))
       refine c_ret1 hE195 rfl rfl ?_
       exact ⟨(by rw [hF]; first | done | (dsimp only; done) | rfl), hS45.ext⟩
      ·
       have hp196 := of_decide_eq_false ht190
       have hE197 := hE189; rw [ht190] at hE197; clear hE189
       refine c_seq ?_
       refine c_reg ?_
       refine q_step (v := .bool (decide ((gS 3 0 ap 0) = 4))) hE197 (y_eql rfl rfl) rfl rfl rfl ?_; intro a198 hE199; clear hE197
       refine q_step (v := .bool (decide ((gS 3 0 ap 0) = 4))) hE199 (y_assign rfl) rfl rfl rfl ?_; intro a200 hE201; clear hE199
       refine c_nil ?_
       have hE202 := hE201.sub (L' := [(2, .slice worldsA worlds.length worldsC), (3, .pointer (some ⟨b5, 0, none⟩)), (7, .pointer (some ⟨b35, 0, none⟩)), (8, .slice b32 ((F_below ap).length) c33), (18, .int .i64 (gS 3 0 ap 0)), (63, .bool (decide ((gS 3 0 ap 0) = 4)))]) ⟨rfl, rfl, rfl, rfl, rfl, rfl, trivial⟩; clear hE201
       refine p_tn ?_
       refine c_cond hE202 rfl (fun ht203 => ?_) (fun ht203 => ?_)
       ·
        have hp204 := of_decide_eq_true ht203
        have hE205 := hE202; rw [ht203] at hE205; clear hE202
        refine c_seq ?_
        refine d_start (fun w w' => (fun w' => w'.heap[b5]? = some (.cells #[.int .i64 mp0, .slice mp1A mp1.length mp1C, .slice mp2A mp2.length mp2C] 69 (0, 0)) ∧ w'.cell? (adr b32 (Int.toNat 0)) = some (.slice (hdA ((belowRows apA apC ap).map (·.1)) 0) ((gL (F_below ap) 0).length / 3 : Nat) (hdC ((belowRows apA apC ap).map (·.1)) 0)) ∧ w'.heap[b5]? = some (.cells #[.int .i64 mp0, .slice mp1A mp1.length mp1C, .slice mp2A mp2.length mp2C] 69 (0, 0)) ∧ w'.cell? (adr b32 (Int.toNat 1)) = some (.slice (hdA ((belowRows apA apC ap).map (·.1)) 1) ((gL (F_below ap) 1).length / 3 : Nat) (hdC ((belowRows apA apC ap).map (·.1)) 1)) ∧ True) w → (fun w' => w'.heap[b5]? = some (.cells #[.int .i64 mp0, .slice mp1A mp1.length mp1C, .slice mp2A mp2.length mp2C] 69 (0, 0)) ∧ w'.cell? (adr b32 (Int.toNat 0)) = some (.slice (hdA ((belowRows apA apC ap).map (·.1)) 0) ((gL (F_below ap) 0).length / 3 : Nat) (hdC ((belowRows apA apC ap).map (·.1)) 0)) ∧ w'.heap[b5]? = some (.cells #[.int .i64 mp0, .slice mp1A mp1.length mp1C, .slice mp2A mp2.length mp2C] 69 (0, 0)) ∧ w'.cell? (adr b32 (Int.toNat 1)) = some (.slice (hdA ((belowRows apA apC ap).map (·.1)) 1) ((gL (F_below ap) 1).length / 3 : Nat) (hdC ((belowRows apA apC ap).map (·.1)) 1)) ∧ True) w') [0, 3, 7, 10] 15 (by kernel_rfl) rfl ?_
        intro w206 he207; have hS208 := St.go hS45 he207; clear hS45
        refine d_take (fun _ h => h) (fun _ _ h k => h k) (v := .agg #[.int .i64 mp0, .slice mp1A mp1.length mp1C, .slice mp2A mp2.length mp2C]) 0 rfl hE205 (S := fun w' => w'.heap[b5]? = some (.cells #[.int .i64 mp0, .slice mp1A mp1.length mp1C, .slice mp2A mp2.length mp2C] 69 (0, 0)) ∧ w'.cell? (adr b32 (Int.toNat 0)) = some (.slice (hdA ((belowRows apA apC ap).map (·.1)) 0) ((gL (F_below ap) 0).length / 3 : Nat) (hdC ((belowRows apA apC ap).map (·.1)) 0)) ∧ w'.heap[b5]? = some (.cells #[.int .i64 mp0, .slice mp1A mp1.length mp1C, .slice mp2A mp2.length mp2C] 69 (0, 0)) ∧ w'.cell? (adr b32 (Int.toNat 1)) = some (.slice (hdA ((belowRows apA apC ap).map (·.1)) 1) ((gL (F_below ap) 1).length / 3 : Nat) (hdC ((belowRows apA apC ap).map (·.1)) 1)) ∧ True) ⟨(St.row (i := 2) hS208 rfl _ (Ext.refl _)), (RdN.eltD (St.rdNo (i := 1) hS208 rfl) (by decide) (by omega) (by omega) _ (Ext.refl _)), (St.row (i := 2) hS208 rfl _ (Ext.refl _)), (RdN.eltD (St.rdNo (i := 1) hS208 rfl) (by decide) (by omega) (by omega) _ (Ext.refl _)), trivial⟩ (y_loadS Try.underlying69 rfl (by kernel_rfl) rfl (fun _ h => h.1)) rfl rfl (by kernel_rfl) (by kernel_rfl) (by kernel_rfl) (by kernel_rfl) rfl rfl (fun _ _ _ h => h) ?_; intro a209 hE210; clear hE205
        refine d_pure (fun _ h => h) (v := .slice b32 ((F_below ap).length) c33) 1 rfl hE210 (y_move rfl) rfl (by kernel_rfl) (by kernel_rfl) (by kernel_rfl) rfl rfl (fun _ _ _ h => h) ?_; intro a211 hE212; clear hE210
        refine d_pure (fun _ h => h) (v := .pointer (some (adr b32 (Int.toNat 0)))) 2 rfl hE212 (y_idx (by kernel_rfl) (fun _ => by kernel_rfl) rfl rfl (RdN.isS (m := 0) (St.rdNo (i := 1) hS208 rfl) (by omega) (by omega)) (by omega) (by omega) (Nat.mul_one _).symm) rfl (by kernel_rfl) (by kernel_rfl) (by kernel_rfl) rfl rfl (fun _ _ _ h => h) ?_; intro a213 hE214; clear hE212
        have hv215 : (0 : Int) ≤ 0 ∧ 0 < ((F_below ap).length : Int) := ⟨(by omega), (by omega)⟩
        refine d_take (fun _ h => h) (fun _ _ h k => h k) (v := .slice (hdA ((belowRows apA apC ap).map (·.1)) 0) ((gL (F_below ap) 0).length / 3 : Nat) (hdC ((belowRows apA apC ap).map (·.1)) 0)) 3 rfl hE214 (S := fun w' => w'.heap[b5]? = some (.cells #[.int .i64 mp0, .slice mp1A mp1.length mp1C, .slice mp2A mp2.length mp2C] 69 (0, 0)) ∧ w'.cell? (adr b32 (Int.toNat 0)) = some (.slice (hdA ((belowRows apA apC ap).map (·.1)) 0) ((gL (F_below ap) 0).length / 3 : Nat) (hdC ((belowRows apA apC ap).map (·.1)) 0)) ∧ w'.heap[b5]? = some (.cells #[.int .i64 mp0, .slice mp1A mp1.length mp1C, .slice mp2A mp2.length mp2C] 69 (0, 0)) ∧ w'.cell? (adr b32 (Int.toNat 1)) = some (.slice (hdA ((belowRows apA apC ap).map (·.1)) 1) ((gL (F_below ap) 1).length / 3 : Nat) (hdC ((belowRows apA apC ap).map (·.1)) 1)) ∧ True) ⟨(St.row (i := 2) hS208 rfl _ (Ext.refl _)), (RdN.eltD (St.rdNo (i := 1) hS208 rfl) (by decide) (by omega) (by omega) _ (Ext.refl _)), (St.row (i := 2) hS208 rfl _ (Ext.refl _)), (RdN.eltD (St.rdNo (i := 1) hS208 rfl) (by decide) (by omega) (by omega) _ (Ext.refl _)), trivial⟩ (y_load (fun _ => by kernel_rfl) rfl (fun _ h => h.2.1)) rfl rfl (by kernel_rfl) (by kernel_rfl) (by kernel_rfl) (by kernel_rfl) rfl rfl (fun _ _ _ h => h) ?_; intro a217 hE218; clear hE214
        refine d_pure (fun _ h => h) (v := .slice worldsA worlds.length worldsC) 4 rfl hE218 (y_move rfl) rfl (by kernel_rfl) (by kernel_rfl) (by kernel_rfl) rfl rfl (fun _ _ _ h => h) ?_; intro a219 hE220; clear hE218
        have hr227 := (RdN.rowD (St.rdNo (i := 1) hS208 rfl) (by decide) hv215.1 hv215.2)
        have hc228 := ih mp0 mp1A mp1.length mp1C mp1 mp2A mp2.length mp2C mp2 (hdA ((belowRows apA apC ap).map (·.1)) 0) ((gL (F_below ap) 0).length / 3 : Nat) (hdC ((belowRows apA apC ap).map (·.1)) 0) (gL (F_below ap) 0) worldsA worlds.length worldsC worlds w206 (St.rdR (i := 6) hS208 rfl) (St.rdR (i := 5) hS208 rfl) hr227 (St.rdR (i := 3) hS208 rfl) (by omega) (by omega) (by omega) (Nat.le_trans (below_le _ _) hl) (hpt.2 _ (by omega) (by omega)).1 (by first | assumption | (rw [sI_len]; assumption)) (by first | (have h9 := pm_frB hf (by omega) hfw (m := 0) (by omega) (by omega); with_reducible exact h9) | (have h9 := pm_frB hf (by omega) hfw (m := 1) (by omega) (by omega); with_reducible exact h9) | exact pm_frunI hf (by omega) hfw (by omega) (by omega) (by omega) hag) (by first | (have h := (hpt.2 0 (by omega) (by omega)).2; omega) | (have h := (hpt.2 1 (by omega) (by omega)).2; omega))
        refine d_only 5 (by kernel_rfl) rfl hE220 rfl (l_call (f := 110) (argv := [.agg #[.int .i64 mp0, .slice mp1A mp1.length mp1C, .slice mp2A mp2.length mp2C], .slice (hdA ((belowRows apA apC ap).map (·.1)) 0) ((gL (F_below ap) 0).length / 3 : Nat) (hdC ((belowRows apA apC ap).map (·.1)) 0), .slice worldsA worlds.length worldsC]) hE220 (fun _ => cf_Model_holds _ _) rfl rfl (by exact hc228) ?_)
        rintro _ w222 ⟨rfl, he226⟩ a223 hE224; clear hE220
        have hS225 := St.go hS208 he226; clear hS208
        refine ⟨fun _ _ => ⟨(St.row (i := 2) hS225 rfl _ (Ext.refl _)), (RdN.eltD (St.rdNo (i := 1) hS225 rfl) (by decide) (by omega) (by omega) _ (Ext.refl _)), (St.row (i := 2) hS225 rfl _ (Ext.refl _)), (RdN.eltD (St.rdNo (i := 1) hS225 rfl) (by decide) (by omega) (by omega) _ (Ext.refl _)), trivial⟩, ?_⟩
        refine d_pure (fun _ h => h) (v := .bool (self mp0 mp1 mp2 (gL (F_below ap) 0) worlds)) 6 rfl hE224 (y_move rfl) rfl (by kernel_rfl) (by kernel_rfl) (by kernel_rfl) rfl rfl (fun _ _ _ h => h) ?_; intro a229 hE230; clear hE224
        rcases Bool.eq_false_or_eq_true (self mp0 mp1 mp2 (gL (F_below ap) 0) worlds) with hb231 | hb231
        ·
         have hE232 := hE230; (try rw [hb231] at hE232); clear hE230
         refine d_take (fun _ h => h) (fun _ _ h k => h k) (v := .agg #[.int .i64 mp0, .slice mp1A mp1.length mp1C, .slice mp2A mp2.length mp2C]) 7 rfl hE232 (S := fun w' => w'.heap[b5]? = some (.cells #[.int .i64 mp0, .slice mp1A mp1.length mp1C, .slice mp2A mp2.length mp2C] 69 (0, 0)) ∧ w'.cell? (adr b32 (Int.toNat 0)) = some (.slice (hdA ((belowRows apA apC ap).map (·.1)) 0) ((gL (F_below ap) 0).length / 3 : Nat) (hdC ((belowRows apA apC ap).map (·.1)) 0)) ∧ w'.heap[b5]? = some (.cells #[.int .i64 mp0, .slice mp1A mp1.length mp1C, .slice mp2A mp2.length mp2C] 69 (0, 0)) ∧ w'.cell? (adr b32 (Int.toNat 1)) = some (.slice (hdA ((belowRows apA apC ap).map (·.1)) 1) ((gL (F_below ap) 1).length / 3 : Nat) (hdC ((belowRows apA apC ap).map (·.1)) 1)) ∧ True) ⟨(St.row (i := 2) hS225 rfl _ (Ext.refl _)), (RdN.eltD (St.rdNo (i := 1) hS225 rfl) (by decide) (by omega) (by omega) _ (Ext.refl _)), (St.row (i := 2) hS225 rfl _ (Ext.refl _)), (RdN.eltD (St.rdNo (i := 1) hS225 rfl) (by decide) (by omega) (by omega) _ (Ext.refl _)), trivial⟩ (y_loadS Try.underlying69 rfl (by kernel_rfl) rfl (fun _ h => h.2.2.1)) rfl rfl (by kernel_rfl) (by kernel_rfl) (by kernel_rfl) (by kernel_rfl) rfl rfl (fun _ _ _ h => h) ?_; intro a233 hE234; clear hE232
         refine d_pure (fun _ h => h) (v := .slice b32 ((F_below ap).length) c33) 8 rfl hE234 (y_move rfl) rfl (by kernel_rfl) (by kernel_rfl) (by kernel_rfl) rfl rfl (fun _ _ _ h => h) ?_; intro a235 hE236; clear hE234
         refine d_pure (fun _ h => h) (v := .pointer (some (adr b32 (Int.toNat 1)))) 9 rfl hE236 (y_idx (by kernel_rfl) (fun _ => by kernel_rfl) rfl rfl (RdN.isS (m := 1) (St.rdNo (i := 1) hS225 rfl) (by omega) (by omega)) (by omega) (by omega) (Nat.mul_one _).symm) rfl (by kernel_rfl) (by kernel_rfl) (by kernel_rfl) rfl rfl (fun _ _ _ h => h) ?_; intro a237 hE238; clear hE236
         have hv239 : (0 : Int) ≤ 1 ∧ 1 < ((F_below ap).length : Int) := ⟨(by omega), (by omega)⟩
         refine d_take (fun _ h => h) (fun _ _ h k => h k) (v := .slice (hdA ((belowRows apA apC ap).map (·.1)) 1) ((gL (F_below ap) 1).length / 3 : Nat) (hdC ((belowRows apA apC ap).map (·.1)) 1)) 10 rfl hE238 (S := fun w' => w'.heap[b5]? = some (.cells #[.int .i64 mp0, .slice mp1A mp1.length mp1C, .slice mp2A mp2.length mp2C] 69 (0, 0)) ∧ w'.cell? (adr b32 (Int.toNat 0)) = some (.slice (hdA ((belowRows apA apC ap).map (·.1)) 0) ((gL (F_below ap) 0).length / 3 : Nat) (hdC ((belowRows apA apC ap).map (·.1)) 0)) ∧ w'.heap[b5]? = some (.cells #[.int .i64 mp0, .slice mp1A mp1.length mp1C, .slice mp2A mp2.length mp2C] 69 (0, 0)) ∧ w'.cell? (adr b32 (Int.toNat 1)) = some (.slice (hdA ((belowRows apA apC ap).map (·.1)) 1) ((gL (F_below ap) 1).length / 3 : Nat) (hdC ((belowRows apA apC ap).map (·.1)) 1)) ∧ True) ⟨(St.row (i := 2) hS225 rfl _ (Ext.refl _)), (RdN.eltD (St.rdNo (i := 1) hS225 rfl) (by decide) (by omega) (by omega) _ (Ext.refl _)), (St.row (i := 2) hS225 rfl _ (Ext.refl _)), (RdN.eltD (St.rdNo (i := 1) hS225 rfl) (by decide) (by omega) (by omega) _ (Ext.refl _)), trivial⟩ (y_load (fun _ => by kernel_rfl) rfl (fun _ h => h.2.2.2.1)) rfl rfl (by kernel_rfl) (by kernel_rfl) (by kernel_rfl) (by kernel_rfl) rfl rfl (fun _ _ _ h => h) ?_; intro a241 hE242; clear hE238
         refine d_pure (fun _ h => h) (v := .slice worldsA worlds.length worldsC) 11 rfl hE242 (y_move rfl) rfl (by kernel_rfl) (by kernel_rfl) (by kernel_rfl) rfl rfl (fun _ _ _ h => h) ?_; intro a243 hE244; clear hE242
         have hr251 := (RdN.rowD (St.rdNo (i := 1) hS225 rfl) (by decide) hv239.1 hv239.2)
         have hc252 := ih mp0 mp1A mp1.length mp1C mp1 mp2A mp2.length mp2C mp2 (hdA ((belowRows apA apC ap).map (·.1)) 1) ((gL (F_below ap) 1).length / 3 : Nat) (hdC ((belowRows apA apC ap).map (·.1)) 1) (gL (F_below ap) 1) worldsA worlds.length worldsC worlds w222 (St.rdR (i := 6) hS225 rfl) (St.rdR (i := 5) hS225 rfl) hr251 (St.rdR (i := 3) hS225 rfl) (by omega) (by omega) (by omega) (Nat.le_trans (below_le _ _) hl) (hpt.2 _ (by omega) (by omega)).1 (by first | assumption | (rw [sI_len]; assumption)) (by first | (have h9 := pm_frB hf (by omega) hfw (m := 0) (by omega) (by omega); with_reducible exact h9) | (have h9 := pm_frB hf (by omega) hfw (m := 1) (by omega) (by omega); with_reducible exact h9) | exact pm_frunI hf (by omega) hfw (by omega) (by omega) (by omega) hag) (by first | (have h := (hpt.2 0 (by omega) (by omega)).2; omega) | (have h := (hpt.2 1 (by omega) (by omega)).2; omega))
         refine d_only 12 (by kernel_rfl) rfl hE244 rfl (l_call (f := 110) (argv := [.agg #[.int .i64 mp0, .slice mp1A mp1.length mp1C, .slice mp2A mp2.length mp2C], .slice (hdA ((belowRows apA apC ap).map (·.1)) 1) ((gL (F_below ap) 1).length / 3 : Nat) (hdC ((belowRows apA apC ap).map (·.1)) 1), .slice worldsA worlds.length worldsC]) hE244 (fun _ => cf_Model_holds _ _) rfl rfl (by exact hc252) ?_)
         rintro _ w246 ⟨rfl, he250⟩ a247 hE248; clear hE244
         have hS249 := St.go hS225 he250; clear hS225
         refine ⟨fun h => Bool.noConfusion (h.symm.trans (show exm _ _ _ = true by kernel_rfl)), ?_⟩
         refine d_pure (fun _ h => h) (v := .bool (self mp0 mp1 mp2 (gL (F_below ap) 1) worlds)) 13 rfl hE248 (y_pick (b := true) rfl rfl) rfl (by kernel_rfl) (by kernel_rfl) (by kernel_rfl) rfl rfl (fun _ _ _ h => h) ?_; intro a253 hE254; clear hE248
         refine d_pure (fun _ h => h) (v := .bool (self mp0 mp1 mp2 (gL (F_below ap) 1) worlds)) 14 rfl hE254 (y_assign rfl) rfl (by kernel_rfl) (by kernel_rfl) (by kernel_rfl) rfl rfl (fun _ _ _ h => h) ?_; intro a255 hE256; clear hE254
         refine d_done (by kernel_rfl) ?_
         have hE257 := hE256.sub (L' := [(6, .bool (self mp0 mp1 mp2 (gL (F_below ap) 1) worlds))]) ⟨rfl, trivial⟩; clear hE256
         refine p_tn ?_
         refine wp_ret ?_
         refine p_br ?_
         refine p_tr ?_
         have hF : F_Model_holds_b self mp0 mp1 mp2 ap worlds = self mp0 mp1 mp2 (gL (F_below ap) 1) worlds := by unfold F_Model_holds_b; (first | (rw [hb231, ht203, ht190, ht145, ht107, ht60]; first | done | rfl) | (rw [← holds_L12 mp0 mp1 mp2 ap self, hb231, ht203, ht190, ht145, ht107, ht60]; first | done | rfl) | (exfalso; omega))
         refine c_ret1 hE257 rfl rfl ?_
         exact ⟨(by rw [hF]; first | done | (dsimp only; done) | rfl), hS249.ext⟩
        ·
         have hE258 := hE230; (try rw [hb231] at hE258); clear hE230
         refine d_skip (fun _ h => h) 7 rfl hE258 rfl (by kernel_rfl) (by kernel_rfl) (by kernel_rfl) rfl rfl (fun _ _ _ h => h) ?_; intro a259 hE260; clear hE258
         refine d_skip (fun _ h => h) 8 rfl hE260 rfl (by kernel_rfl) (by kernel_rfl) (by kernel_rfl) rfl rfl (fun _ _ _ h => h) ?_; intro a261 hE262; clear hE260
         refine d_skip (fun _ h => h) 9 rfl hE262 rfl (by kernel_rfl) (by kernel_rfl) (by kernel_rfl) rfl rfl (fun _ _ _ h => h) ?_; intro a263 hE264; clear hE262
         refine d_skip (fun _ h => h) 10 rfl hE264 rfl (by kernel_rfl) (by kernel_rfl) (by kernel_rfl) rfl rfl (fun _ _ _ h => h) ?_; intro a265 hE266; clear hE264
         refine d_skip (fun _ h => h) 11 rfl hE266 rfl (by kernel_rfl) (by kernel_rfl) (by kernel_rfl) rfl rfl (fun _ _ _ h => h) ?_; intro a267 hE268; clear hE266
         refine d_skip (fun _ h => h) 12 rfl hE268 rfl (by kernel_rfl) (by kernel_rfl) (by kernel_rfl) rfl rfl (fun _ _ _ h => h) ?_; intro a269 hE270; clear hE268
         refine d_pure (fun _ h => h) (v := .bool false) 13 rfl hE270 (y_pick (b := false) rfl rfl) rfl (by kernel_rfl) (by kernel_rfl) (by kernel_rfl) rfl rfl (fun _ _ _ h => h) ?_; intro a271 hE272; clear hE270
         refine d_pure (fun _ h => h) (v := .bool false) 14 rfl hE272 (y_assign rfl) rfl (by kernel_rfl) (by kernel_rfl) (by kernel_rfl) rfl rfl (fun _ _ _ h => h) ?_; intro a273 hE274; clear hE272
         refine d_done (by kernel_rfl) ?_
         have hE275 := hE274.sub (L' := [(6, .bool false)]) ⟨rfl, trivial⟩; clear hE274
         refine p_tn ?_
         refine wp_ret ?_
         refine p_br ?_
         refine p_tr ?_
         have hF : F_Model_holds_b self mp0 mp1 mp2 ap worlds = false := by unfold F_Model_holds_b; (first | (rw [hb231, ht203, ht190, ht145, ht107, ht60]; first | done | rfl) | (rw [← holds_L12 mp0 mp1 mp2 ap self, hb231, ht203, ht190, ht145, ht107, ht60]; first | done | rfl) | (exfalso; omega))
         refine c_ret1 hE275 rfl rfl ?_
         exact ⟨(by rw [hF]; first | done | (dsimp only; done) | rfl), hS225.ext⟩
       ·
        have hp276 := of_decide_eq_false ht203
        have hE277 := hE202; rw [ht203] at hE277; clear hE202
        refine c_seq ?_
        refine c_reg ?_
        refine q_step (v := .bool (decide ((gS 3 0 ap 0) = 5))) hE277 (y_eql rfl rfl) rfl rfl rfl ?_; intro a278 hE279; clear hE277
        refine q_step (v := .bool (decide ((gS 3 0 ap 0) = 5))) hE279 (y_assign rfl) rfl rfl rfl ?_; intro a280 hE281; clear hE279
        refine c_nil ?_
        have hE282 := hE281.sub (L' := [(2, .slice worldsA worlds.length worldsC), (3, .pointer (some ⟨b5, 0, none⟩)), (7, .pointer (some ⟨b35, 0, none⟩)), (8, .slice b32 ((F_below ap).length) c33), (18, .int .i64 (gS 3 0 ap 0)), (79, .bool (decide ((gS 3 0 ap 0) = 5)))]) ⟨rfl, rfl, rfl, rfl, rfl, rfl, trivial⟩; clear hE281
        refine p_tn ?_
        refine c_cond hE282 rfl (fun ht283 => ?_) (fun ht283 => ?_)
        ·
         have hp284 := of_decide_eq_true ht283
         have hE285 := hE282; rw [ht283] at hE285; clear hE282
         refine c_seq ?_
         refine d_start (fun w w' => (fun w' => w'.heap[b5]? = some (.cells #[.int .i64 mp0, .slice mp1A mp1.length mp1C, .slice mp2A mp2.length mp2C] 69 (0, 0)) ∧ w'.cell? (adr b32 (Int.toNat 0)) = some (.slice (hdA ((belowRows apA apC ap).map (·.1)) 0) ((gL (F_below ap) 0).length / 3 : Nat) (hdC ((belowRows apA apC ap).map (·.1)) 0)) ∧ w'.heap[b5]? = some (.cells #[.int .i64 mp0, .slice mp1A mp1.length mp1C, .slice mp2A mp2.length mp2C] 69 (0, 0)) ∧ w'.cell? (adr b32 (Int.toNat 1)) = some (.slice (hdA ((belowRows apA apC ap).map (·.1)) 1) ((gL (F_below ap) 1).length / 3 : Nat) (hdC ((belowRows apA apC ap).map (·.1)) 1)) ∧ True) w → (fun w' => w'.heap[b5]? = some (.cells #[.int .i64 mp0, .slice mp1A mp1.length mp1C, .slice mp2A mp2.length mp2C] 69 (0, 0)) ∧ w'.cell? (adr b32 (Int.toNat 0)) = some (.slice (hdA ((belowRows apA apC ap).map (·.1)) 0) ((gL (F_below ap) 0).length / 3 : Nat) (hdC ((belowRows apA apC ap).map (·.1)) 0)) ∧ w'.heap[b5]? = some (.cells #[.int .i64 mp0, .slice mp1A mp1.length mp1C, .slice mp2A mp2.length mp2C] 69 (0, 0)) ∧ w'.cell? (adr b32 (Int.toNat 1)) = some (.slice (hdA ((belowRows apA apC ap).map (·.1)) 1) ((gL (F_below ap) 1).length / 3 : Nat) (hdC ((belowRows apA apC ap).map (·.1)) 1)) ∧ True) w') [0, 3, 7, 10] 15 (by kernel_rfl) rfl ?_
         intro w286 he287; have hS288 := St.go hS45 he287; clear hS45
         refine d_take (fun _ h => h) (fun _ _ h k => h k) (v := .agg #[.int .i64 mp0, .slice mp1A mp1.length mp1C, .slice mp2A mp2.length mp2C]) 0 rfl hE285 (S := fun w' => w'.heap[b5]? = some (.cells #[.int .i64 mp0, .slice mp1A mp1.length mp1C, .slice mp2A mp2.length mp2C] 69 (0, 0)) ∧ w'.cell? (adr b32 (Int.toNat 0)) = some (.slice (hdA ((belowRows apA apC ap).map (·.1)) 0) ((gL (F_below ap) 0).length / 3 : Nat) (hdC ((belowRows apA apC ap).map (·.1)) 0)) ∧ w'.heap[b5]? = some (.cells #[.int .i64 mp0, .slice mp1A mp1.length mp1C, .slice mp2A mp2.length mp2C] 69 (0, 0)) ∧ w'.cell? (adr b32 (Int.toNat 1)) = some (.slice (hdA ((belowRows apA apC ap).map (·.1)) 1) ((gL (F_below ap) 1).length / 3 : Nat) (hdC ((belowRows apA apC ap).map (·.1)) 1)) ∧ True) ⟨(St.row (i := 2) hS288 rfl _ (Ext.refl _)), (RdN.eltD (St.rdNo (i := 1) hS288 rfl) (by decide) (by omega) (by omega) _ (Ext.refl _)), (St.row (i := 2) hS288 rfl _ (Ext.refl _)), (RdN.eltD (St.rdNo (i := 1) hS288 rfl) (by decide) (by omega) (by omega) _ (Ext.refl _)), trivial⟩ (y_loadS Try.underlying69 rfl (by kernel_rfl) rfl (fun _ h => h.1)) rfl rfl (by kernel_rfl) (by kernel_rfl) (by kernel_rfl) (by kernel_rfl) rfl rfl (fun _ _ _ h => h) ?_; intro a289 hE290; clear hE285
         refine d_pure (fun _ h => h) (v := .slice b32 ((F_below ap).length) c33) 1 rfl hE290 (y_move rfl) rfl (by kernel_rfl) (by kernel_rfl) (by kernel_rfl) rfl rfl (fun _ _ _ h => h) ?_; intro a291 hE292; clear hE290
         refine d_pure (fun _ h => h) (v := .pointer (some (adr b32 (Int.toNat 0)))) 2 rfl hE292 (y_idx (by kernel_rfl) (fun _ => by kernel_rfl) rfl rfl (RdN.isS (m := 0) (St.rdNo (i := 1) hS288 rfl) (by omega) (by omega)) (by omega) (by omega) (Nat.mul_one _).symm) rfl (by kernel_rfl) (by kernel_rfl) (by kernel_rfl) rfl rfl (fun _ _ _ h => h) ?_; intro a293 hE294; clear hE292
         have hv295 : (0 : Int) ≤ 0 ∧ 0 < ((F_below ap).length : Int) := ⟨(by omega), (by omega)⟩
         refine d_take (fun _ h => h) (fun _ _ h k => h k) (v := .slice (hdA ((belowRows apA apC ap).map (·.1)) 0) ((gL (F_below ap) 0).length / 3 : Nat) (hdC ((belowRows apA apC ap).map (·.1)) 0)) 3 rfl hE294 (S := fun w' => w'.heap[b5]? = some (.cells #[.int .i64 mp0, .slice mp1A mp1.length mp1C, .slice mp2A mp2.length mp2C] 69 (0, 0)) ∧ w'.cell? (adr b32 (Int.toNat 0)) = some (.slice (hdA ((belowRows apA apC ap).map (·.1)) 0) ((gL (F_below ap) 0).length / 3 : Nat) (hdC ((belowRows apA apC ap).map (·.1)) 0)) ∧ w'.heap[b5]? = some (.cells #[.int .i64 mp0, .slice mp1A mp1.length mp1C, .slice mp2A mp2.length mp2C] 69 (0, 0)) ∧ w'.cell? (adr b32 (Int.toNat 1)) = some (.slice (hdA ((belowRows apA apC ap).map (·.1)) 1) ((gL (F_below ap) 1).length / 3 : Nat) (hdC ((belowRows apA apC ap).map (·.1)) 1)) ∧ True) ⟨(St.row (i := 2) hS288 rfl _ (Ext.refl _)), (RdN.eltD (St.rdNo (i := 1) hS288 rfl) (by decide) (by omega) (by omega) _ (Ext.refl _)), (St.row (i := 2) hS288 rfl _ (Ext.refl _)), (RdN.eltD (St.rdNo (i := 1) hS288 rfl) (by decide) (by omega) (by omega) _ (Ext.refl _)), trivial⟩ (y_load (fun _ => by kernel_rfl) rfl (fun _ h => h.2.1)) rfl rfl (by kernel_rfl) (by kernel_rfl) (by kernel_rfl) (by kernel_rfl) rfl rfl (fun _ _ _ h => h) ?_; intro a297 hE298; clear hE294
         refine d_pure (fun _ h => h) (v := .slice worldsA worlds.length worldsC) 4 rfl hE298 (y_move rfl) rfl (by kernel_rfl) (by kernel_rfl) (by kernel_rfl) rfl rfl (fun _ _ _ h => h) ?_; intro a299 hE300; clear hE298
         have hr307 := (RdN.rowD (St.rdNo (i := 1) hS288 rfl) (by decide) hv295.1 hv295.2)
         have hc308 := ih mp0 mp1A mp1.length mp1C mp1 mp2A mp2.length mp2C mp2 (hdA ((belowRows apA apC ap).map (·.1)) 0) ((gL (F_below ap) 0).length / 3 : Nat) (hdC ((belowRows apA apC ap).map (·.1)) 0) (gL (F_below ap) 0) worldsA worlds.length worldsC worlds w286 (St.rdR (i := 6) hS288 rfl) (St.rdR (i := 5) hS288 rfl) hr307 (St.rdR (i := 3) hS288 rfl) (by omega) (by omega) (by omega) (Nat.le_trans (below_le _ _) hl) (hpt.2 _ (by omega) (by omega)).1 (by first | assumption | (rw [sI_len]; assumption)) (by first | (have h9 := pm_frB hf (by omega) hfw (m := 0) (by omega) (by omega); with_reducible exact h9) | (have h9 := pm_frB hf (by omega) hfw (m := 1) (by omega) (by omega); with_reducible exact h9) | exact pm_frunI hf (by omega) hfw (by omega) (by omega) (by omega) hag) (by first | (have h := (hpt.2 0 (by omega) (by omega)).2; omega) | (have h := (hpt.2 1 (by omega) (by omega)).2; omega))
         refine d_only 5 (by kernel_rfl) rfl hE300 rfl (l_call (f := 110) (argv := [.agg #[.int .i64 mp0, .slice mp1A mp1.length mp1C, .slice mp2A mp2.length mp2C], .slice (hdA ((belowRows apA apC ap).map (·.1)) 0) ((gL (F_below ap) 0).length / 3 : Nat) (hdC ((belowRows apA apC ap).map (·.1)) 0), .slice worldsA worlds.length worldsC]) hE300 (fun _ => cf_Model_holds _ _) rfl rfl (by exact hc308) ?_)
         rintro _ w302 ⟨rfl, he306⟩ a303 hE304; clear hE300
         have hS305 := St.go hS288 he306; clear hS288
         refine ⟨fun _ _ => ⟨(St.row (i := 2) hS305 rfl _ (Ext.refl _)), (RdN.eltD (St.rdNo (i := 1) hS305 rfl) (by decide) (by omega) (by omega) _ (Ext.refl _)), (St.row (i := 2) hS305 rfl _ (Ext.refl _)), (RdN.eltD (St.rdNo (i := 1) hS305 rfl) (by decide) (by omega) (by omega) _ (Ext.refl _)), trivial⟩, ?_⟩
         refine d_pure (fun _ h => h) (v := .bool (self mp0 mp1 mp2 (gL (F_below ap) 0) worlds)) 6 rfl hE304 (y_move rfl) rfl (by kernel_rfl) (by kernel_rfl) (by kernel_rfl) rfl rfl (fun _ _ _ h => h) ?_; intro a309 hE310; clear hE304
         rcases Bool.eq_false_or_eq_true (self mp0 mp1 mp2 (gL (F_below ap) 0) worlds) with hb311 | hb311
         ·
          have hE312 := hE310; (try rw [hb311] at hE312); clear hE310
          refine d_skip (fun _ h => h) 7 rfl hE312 rfl (by kernel_rfl) (by kernel_rfl) (by kernel_rfl) rfl rfl (fun _ _ _ h => h) ?_; intro a313 hE314; clear hE312
          refine d_skip (fun _ h => h) 8 rfl hE314 rfl (by kernel_rfl) (by kernel_rfl) (by kernel_rfl) rfl rfl (fun _ _ _ h => h) ?_; intro a315 hE316; clear hE314
          refine d_skip (fun _ h => h) 9 rfl hE316 rfl (by kernel_rfl) (by kernel_rfl) (by kernel_rfl) rfl rfl (fun _ _ _ h => h) ?_; intro a317 hE318; clear hE316
          refine d_skip (fun _ h => h) 10 rfl hE318 rfl (by kernel_rfl) (by kernel_rfl) (by kernel_rfl) rfl rfl (fun _ _ _ h => h) ?_; intro a319 hE320; clear hE318
          refine d_skip (fun _ h => h) 11 rfl hE320 rfl (by kernel_rfl) (by kernel_rfl) (by kernel_rfl) rfl rfl (fun _ _ _ h => h) ?_; intro a321 hE322; clear hE320
          refine d_skip (fun _ h => h) 12 rfl hE322 rfl (by kernel_rfl) (by kernel_rfl) (by kernel_rfl) rfl rfl (fun _ _ _ h => h) ?_; intro a323 hE324; clear hE322
          refine d_pure (fun _ h => h) (v := .bool true) 13 rfl hE324 (y_pick (b := true) rfl rfl) rfl (by kernel_rfl) (by kernel_rfl) (by kernel_rfl) rfl rfl (fun _ _ _ h => h) ?_; intro a325 hE326; clear hE324
          refine d_pure (fun _ h => h) (v := .bool true) 14 rfl hE326 (y_assign rfl) rfl (by kernel_rfl) (by kernel_rfl) (by kernel_rfl) rfl rfl (fun _ _ _ h => h) ?_; intro a327 hE328; clear hE326
          refine d_done (by kernel_rfl) ?_
          have hE329 := hE328.sub (L' := [(6, .bool true)]) ⟨rfl, trivial⟩; clear hE328
          refine p_tn ?_
          refine wp_ret ?_
          refine p_br ?_
          refine p_tr ?_
          have hF : F_Model_holds_b self mp0 mp1 mp2 ap worlds = true := by unfold F_Model_holds_b; (first | (rw [hb311, ht283, ht203, ht190, ht145, ht107, ht60]; first | done | rfl) | (rw [← holds_L12 mp0 mp1 mp2 ap self, hb311, ht283, ht203, ht190, ht145, ht107, ht60]; first | done | rfl) | (exfalso; omega))
          refine c_ret1 hE329 rfl rfl ?_
          exact ⟨(by rw [hF]; first | done | (dsimp only; done) | rfl), hS305.ext⟩
         ·
          have hE330 := hE310; (try rw [hb311] at hE330); clear hE310
          refine d_take (fun _ h => h) (fun _ _ h k => h k) (v := .agg #[.int .i64 mp0, .slice mp1A mp1.length mp1C, .slice mp2A mp2.length mp2C]) 7 rfl hE330 (S := fun w' => w'.heap[b5]? = some (.cells #[.int .i64 mp0, .slice mp1A mp1.length mp1C, .slice mp2A mp2.length mp2C] 69 (0, 0)) ∧ w'.cell? (adr b32 (Int.toNat 0)) = some (.slice (hdA ((belowRows apA apC ap).map (·.1)) 0) ((gL (F_below ap) 0).length / 3 : Nat) (hdC ((belowRows apA apC ap).map (·.1)) 0)) ∧ w'.heap[b5]? = some (.cells #[.int .i64 mp0, .slice mp1A mp1.length mp1C, .slice mp2A mp2.length mp2C] 69 (0, 0)) ∧ w'.cell? (adr b32 (Int.toNat 1)) = some (.slice (hdA ((belowRows apA apC ap).map (·.1)) 1) ((gL (F_below ap) 1).length / 3 : Nat) (hdC ((belowRows apA apC ap).map (·.1)) 1)) ∧ True) ⟨(St.row (i := 2) hS305 rfl _ (Ext.refl _)), (RdN.eltD (St.rdNo (i := 1) hS305 rfl) (by decide) (by omega) (by omega) _ (Ext.refl _)), (St.row (i := 2) hS305 rfl _ (Ext.refl _)), (RdN.eltD (St.rdNo (i := 1) hS305 rfl) (by decide) (by omega) (by omega) _ (Ext.refl _)), trivial⟩ (y_loadS Try.underlying69 rfl (by kernel_rfl) rfl (fun _ h => h.2.2.1)) rfl rfl (by kernel_rfl) (by kernel_rfl) (by kernel_rfl) (by kernel_rfl) rfl rfl (fun _ _ _ h => h) ?_; intro a331 hE332; clear hE330
          refine d_pure (fun _ h => h) (v := .slice b32 ((F_below ap).length) c33) 8 rfl hE332 (y_move rfl) rfl (by kernel_rfl) (by kernel_rfl) (by kernel_rfl) rfl rfl (fun _ _ _ h => h) ?_; intro a333 hE334; clear hE332
          refine d_pure (fun _ h => h) (v := .pointer (some (adr b32 (Int.toNat 1)))) 9 rfl hE334 (y_idx (by kernel_rfl) (fun _ => by kernel_rfl) rfl rfl (RdN.isS (m := 1) (St.rdNo (i := 1) hS305 rfl) (by omega) (by omega)) (by omega) (by omega) (Nat.mul_one _).symm) rfl (by kernel_rfl) (by kernel_rfl) (by kernel_rfl) rfl rfl (fun _ _ _ h => h) ?_; intro a335 hE336; clear hE334
          have hv337 : (0 : Int) ≤ 1 ∧ 1 < ((F_below ap).length : Int) := ⟨(by omega), (by omega)⟩
          refine d_take (fun _ h => h) (fun _ _ h k => h k) (v := .slice (hdA ((belowRows apA apC ap).map (·.1)) 1) ((gL (F_below ap) 1).length / 3 : Nat) (hdC ((belowRows apA apC ap).map (·.1)) 1)) 10 rfl hE336 (S := fun w' => w'.heap[b5]? = some (.cells #[.int .i64 mp0, .slice mp1A mp1.length mp1C, .slice mp2A mp2.length mp2C] 69 (0, 0)) ∧ w'.cell? (adr b32 (Int.toNat 0)) = some (.slice (hdA ((belowRows apA apC ap).map (·.1)) 0) ((gL (F_below ap) 0).length / 3 : Nat) (hdC ((belowRows apA apC ap).map (·.1)) 0)) ∧ w'.heap[b5]? = some (.cells #[.int .i64 mp0, .slice mp1A mp1.length mp1C, .slice mp2A mp2.length mp2C] 69 (0, 0)) ∧ w'.cell? (adr b32 (Int.toNat 1)) = some (.slice (hdA ((belowRows apA apC ap).map (·.1)) 1) ((gL (F_below ap) 1).length / 3 : Nat) (hdC ((belowRows apA apC ap).map (·.1)) 1)) ∧ True) ⟨(St.row (i := 2) hS305 rfl _ (Ext.refl _)), (RdN.eltD (St.rdNo (i := 1) hS305 rfl) (by decide) (by omega) (by omega) _ (Ext.refl _)), (St.row (i := 2) hS305 rfl _ (Ext.refl _)), (RdN.eltD (St.rdNo (i := 1) hS305 rfl) (by decide) (by omega) (by omega) _ (Ext.refl _)), trivial⟩ (y_load (fun _ => by kernel_rfl) rfl (fun _ h => h.2.2.2.1)) rfl rfl (by kernel_rfl) (by kernel_rfl) (by kernel_rfl) (by kernel_rfl) rfl rfl (fun _ _ _ h => h) ?_; intro a339 hE340; clear hE336
          refine d_pure (fun _ h => h) (v := .slice worldsA worlds.length worldsC) 11 rfl hE340 (y_move rfl) rfl (by kernel_rfl) (by kernel_rfl) (by kernel_rfl) rfl rfl (fun _ _ _ h => h) ?_; intro a341 hE342; clear hE340
          have hr349 := (RdN.rowD (St.rdNo (i := 1) hS305 rfl) (by decide) hv337.1 hv337.2)
          have hc350 := ih mp0 mp1A mp1.length mp1C mp1 mp2A mp2.length mp2C mp2 (hdA ((belowRows apA apC ap).map (·.1)) 1) ((gL (F_below ap) 1).length / 3 : Nat) (hdC ((belowRows apA apC ap).map (·.1)) 1) (gL (F_below ap) 1) worldsA worlds.length worldsC worlds w302 (St.rdR (i := 6) hS305 rfl) (St.rdR (i := 5) hS305 rfl) hr349 (St.rdR (i := 3) hS305 rfl) (by omega) (by omega) (by omega) (Nat.le_trans (below_le _ _) hl) (hpt.2 _ (by omega) (by omega)).1 (by first | assumption | (rw [sI_len]; assumption)) (by first | (have h9 := pm_frB hf (by omega) hfw (m := 0) (by omega) (by omega); with_reducible exact h9) | (have h9 := pm_frB hf (by omega) hfw (m := 1) (by omega) (by omega); with_reducible exact h9) | exact pm_frunI hf (by omega) hfw (by omega) (by omega) (by omega) hag) (by first | (have h := (hpt.2 0 (by omega) (by omega)).2; omega) | (have h := (hpt.2 1 (by omega) (by omega)).2; omega))
          refine d_only 12 (by kernel_rfl) rfl hE342 rfl (l_call (f := 110) (argv := [.agg #[.int .i64 mp0, .slice mp1A mp1.length mp1C, .slice mp2A mp2.length mp2C], .slice (hdA ((belowRows apA apC ap).map (·.1)) 1) ((gL (F_below ap) 1).length / 3 : Nat) (hdC ((belowRows apA apC ap).map (·.1)) 1), .slice worldsA worlds.length worldsC]) hE342 (fun _ => cf_Model_holds _ _) rfl rfl (by exact hc350) ?_)
          rintro _ w344 ⟨rfl, he348⟩ a345 hE346; clear hE342
          have hS347 := St.go hS305 he348; clear hS305
          refine ⟨fun h => Bool.noConfusion (h.symm.trans (show exm _ _ _ = true by kernel_rfl)), ?_⟩
          refine d_pure (fun _ h => h) (v := .bool (self mp0 mp1 mp2 (gL (F_below ap) 1) worlds)) 13 rfl hE346 (y_pick (b := false) rfl rfl) rfl (by kernel_rfl) (by kernel_rfl) (by kernel_rfl) rfl rfl (fun _ _ _ h => h) ?_; intro a351 hE352; clear hE346
          refine d_pure (fun _ h => h) (v := .bool (self mp0 mp1 mp2 (gL (F_below ap) 1) worlds)) 14 rfl hE352 (y_assign rfl) rfl (by kernel_rfl) (by kernel_rfl) (by kernel_rfl) rfl rfl (fun _ _ _ h => h) ?_; intro a353 hE354; clear hE352
          refine d_done (by kernel_rfl) ?_
          have hE355 := hE354.sub (L' := [(6, .bool (self mp0 mp1 mp2 (gL (F_below ap) 1) worlds))]) ⟨rfl, trivial⟩; clear hE354
          refine p_tn ?_
          refine wp_ret ?_
          refine p_br ?_
          refine p_tr ?_
          have hF : F_Model_holds_b self mp0 mp1 mp2 ap worlds = self mp0 mp1 mp2 (gL (F_below ap) 1) worlds := by unfold F_Model_holds_b; (first | (rw [hb311, ht283, ht203, ht190, ht145, ht107, ht60]; first | done | rfl) | (rw [← holds_L12 mp0 mp1 mp2 ap self, hb311, ht283, ht203, ht190, ht145, ht107, ht60]; first | done | rfl) | (exfalso; omega))
          refine c_ret1 hE355 rfl rfl ?_
          exact ⟨(by rw [hF]; first | done | (dsimp only; done) | rfl), hS347.ext⟩
        ·
         have hp356 := of_decide_eq_false ht283
         have hE357 := hE282; rw [ht283] at hE357; clear hE282
         refine c_seq ?_
         refine c_reg ?_
         refine q_step (v := .bool (decide ((gS 3 0 ap 0) = 6))) hE357 (y_eql rfl rfl) rfl rfl rfl ?_; intro a358 hE359; clear hE357
         refine q_step (v := .bool (decide ((gS 3 0 ap 0) = 6))) hE359 (y_assign rfl) rfl rfl rfl ?_; intro a360 hE361; clear hE359
         refine c_nil ?_
         have hE362 := hE361.sub (L' := [(2, .slice worldsA worlds.length worldsC), (3, .pointer (some ⟨b5, 0, none⟩)), (7, .pointer (some ⟨b35, 0, none⟩)), (8, .slice b32 ((F_below ap).length) c33), (95, .bool (decide ((gS 3 0 ap 0) = 6)))]) ⟨rfl, rfl, rfl, rfl, rfl, trivial⟩; clear hE361
         refine p_tn ?_
         refine c_cond hE362 rfl (fun ht363 => ?_) (fun ht363 => ?_)
         ·
          have hp364 := of_decide_eq_true ht363
          have hE365 := hE362; rw [ht363] at hE365; clear hE362
          refine c_seq ?_
          refine d_start (fun w w' => (fun w' => w'.heap[b5]? = some (.cells #[.int .i64 mp0, .slice mp1A mp1.length mp1C, .slice mp2A mp2.length mp2C] 69 (0, 0)) ∧ w'.cell? (adr b32 (Int.toNat 0)) = some (.slice (hdA ((belowRows apA apC ap).map (·.1)) 0) ((gL (F_below ap) 0).length / 3 : Nat) (hdC ((belowRows apA apC ap).map (·.1)) 0)) ∧ w'.heap[b5]? = some (.cells #[.int .i64 mp0, .slice mp1A mp1.length mp1C, .slice mp2A mp2.length mp2C] 69 (0, 0)) ∧ w'.cell? (adr b32 (Int.toNat 1)) = some (.slice (hdA ((belowRows apA apC ap).map (·.1)) 1) ((gL (F_below ap) 1).length / 3 : Nat) (hdC ((belowRows apA apC ap).map (·.1)) 1)) ∧ True) w → (fun w' => w'.heap[b5]? = some (.cells #[.int .i64 mp0, .slice mp1A mp1.length mp1C, .slice mp2A mp2.length mp2C] 69 (0, 0)) ∧ w'.cell? (adr b32 (Int.toNat 0)) = some (.slice (hdA ((belowRows apA apC ap).map (·.1)) 0) ((gL (F_below ap) 0).length / 3 : Nat) (hdC ((belowRows apA apC ap).map (·.1)) 0)) ∧ w'.heap[b5]? = some (.cells #[.int .i64 mp0, .slice mp1A mp1.length mp1C, .slice mp2A mp2.length mp2C] 69 (0, 0)) ∧ w'.cell? (adr b32 (Int.toNat 1)) = some (.slice (hdA ((belowRows apA apC ap).map (·.1)) 1) ((gL (F_below ap) 1).length / 3 : Nat) (hdC ((belowRows apA apC ap).map (·.1)) 1)) ∧ True) w') [0, 3, 8, 11] 16 (by kernel_rfl) rfl ?_
          intro w366 he367; have hS368 := St.go hS45 he367; clear hS45
          refine d_take (fun _ h => h) (fun _ _ h k => h k) (v := .agg #[.int .i64 mp0, .slice mp1A mp1.length mp1C, .slice mp2A mp2.length mp2C]) 0 rfl hE365 (S := fun w' => w'.heap[b5]? = some (.cells #[.int .i64 mp0, .slice mp1A mp1.length mp1C, .slice mp2A mp2.length mp2C] 69 (0, 0)) ∧ w'.cell? (adr b32 (Int.toNat 0)) = some (.slice (hdA ((belowRows apA apC ap).map (·.1)) 0) ((gL (F_below ap) 0).length / 3 : Nat) (hdC ((belowRows apA apC ap).map (·.1)) 0)) ∧ w'.heap[b5]? = some (.cells #[.int .i64 mp0, .slice mp1A mp1.length mp1C, .slice mp2A mp2.length mp2C] 69 (0, 0)) ∧ w'.cell? (adr b32 (Int.toNat 1)) = some (.slice (hdA ((belowRows apA apC ap).map (·.1)) 1) ((gL (F_below ap) 1).length / 3 : Nat) (hdC ((belowRows apA apC ap).map (·.1)) 1)) ∧ True) ⟨(St.row (i := 2) hS368 rfl _ (Ext.refl _)), (RdN.eltD (St.rdNo (i := 1) hS368 rfl) (by decide) (by omega) (by omega) _ (Ext.refl _)), (St.row (i := 2) hS368 rfl _ (Ext.refl _)), (RdN.eltD (St.rdNo (i := 1) hS368 rfl) (by decide) (by omega) (by omega) _ (Ext.refl _)), trivial⟩ (y_loadS Try.underlying69 rfl (by kernel_rfl) rfl (fun _ h => h.1)) rfl rfl (by kernel_rfl) (by kernel_rfl) (by kernel_rfl) (by kernel_rfl) rfl rfl (fun _ _ _ h => h) ?_; intro a369 hE370; clear hE365
          refine d_pure (fun _ h => h) (v := .slice b32 ((F_below ap).length) c33) 1 rfl hE370 (y_move rfl) rfl (by kernel_rfl) (by kernel_rfl) (by kernel_rfl) rfl rfl (fun _ _ _ h => h) ?_; intro a371 hE372; clear hE370
          refine d_pure (fun _ h => h) (v := .pointer (some (adr b32 (Int.toNat 0)))) 2 rfl hE372 (y_idx (by kernel_rfl) (fun _ => by kernel_rfl) rfl rfl (RdN.isS (m := 0) (St.rdNo (i := 1) hS368 rfl) (by omega) (by omega)) (by omega) (by omega) (Nat.mul_one _).symm) rfl (by kernel_rfl) (by kernel_rfl) (by kernel_rfl) rfl rfl (fun _ _ _ h => h) ?_; intro a373 hE374; clear hE372
          have hv375 : (0 : Int) ≤ 0 ∧ 0 < ((F_below ap).length : Int) := ⟨(by omega), (by omega)⟩
          refine d_take (fun _ h => h) (fun _ _ h k => h k) (v := .slice (hdA ((belowRows apA apC ap).map (·.1)) 0) ((gL (F_below ap) 0).length / 3 : Nat) (hdC ((belowRows apA apC ap).map (·.1)) 0)) 3 rfl hE374 (S := fun w' => w'.heap[b5]? = some (.cells #[.int .i64 mp0, .slice mp1A mp1.length mp1C, .slice mp2A mp2.length mp2C] 69 (0, 0)) ∧ w'.cell? (adr b32 (Int.toNat 0)) = some (.slice (hdA ((belowRows apA apC ap).map (·.1)) 0) ((gL (F_below ap) 0).length / 3 : Nat) (hdC ((belowRows apA apC ap).map (·.1)) 0)) ∧ w'.heap[b5]? = some (.cells #[.int .i64 mp0, .slice mp1A mp1.length mp1C, .slice mp2A mp2.length mp2C] 69 (0, 0)) ∧ w'.cell? (adr b32 (Int.toNat 1)) = some (.slice (hdA ((belowRows apA apC ap).map (·.1)) 1) ((gL (F_below ap) 1).length / 3 : Nat) (hdC ((belowRows apA apC ap).map (·.1)) 1)) ∧ True) ⟨(St.row (i := 2) hS368 rfl _ (Ext.refl _)), (RdN.eltD (St.rdNo (i := 1) hS368 rfl) (by decide) (by omega) (by omega) _ (Ext.refl _)), (St.row (i := 2) hS368 rfl _ (Ext.refl _)), (RdN.eltD (St.rdNo (i := 1) hS368 rfl) (by decide) (by omega) (by omega) _ (Ext.refl _)), trivial⟩ (y_load (fun _ => by kernel_rfl) rfl (fun _ h => h.2.1)) rfl rfl (by kernel_rfl) (by kernel_rfl) (by kernel_rfl) (by kernel_rfl) rfl rfl (fun _ _ _ h => h) ?_; intro a377 hE378; clear hE374
          refine d_pure (fun _ h => h) (v := .slice worldsA worlds.length worldsC) 4 rfl hE378 (y_move rfl) rfl (by kernel_rfl) (by kernel_rfl) (by kernel_rfl) rfl rfl (fun _ _ _ h => h) ?_; intro a379 hE380; clear hE378
          have hr387 := (RdN.rowD (St.rdNo (i := 1) hS368 rfl) (by decide) hv375.1 hv375.2)
          have hc388 := ih mp0 mp1A mp1.length mp1C mp1 mp2A mp2.length mp2C mp2 (hdA ((belowRows apA apC ap).map (·.1)) 0) ((gL (F_below ap) 0).length / 3 : Nat) (hdC ((belowRows apA apC ap).map (·.1)) 0) (gL (F_below ap) 0) worldsA worlds.length worldsC worlds w366 (St.rdR (i := 6) hS368 rfl) (St.rdR (i := 5) hS368 rfl) hr387 (St.rdR (i := 3) hS368 rfl) (by omega) (by omega) (by omega) (Nat.le_trans (below_le _ _) hl) (hpt.2 _ (by omega) (by omega)).1 (by first | assumption | (rw [sI_len]; assumption)) (by first | (have h9 := pm_frB hf (by omega) hfw (m := 0) (by omega) (by omega); with_reducible exact h9) | (have h9 := pm_frB hf (by omega) hfw (m := 1) (by omega) (by omega); with_reducible exact h9) | exact pm_frunI hf (by omega) hfw (by omega) (by omega) (by omega) hag) (by first | (have h := (hpt.2 0 (by omega) (by omega)).2; omega) | (have h := (hpt.2 1 (by omega) (by omega)).2; omega))
          refine d_only 5 (by kernel_rfl) rfl hE380 rfl (l_call (f := 110) (argv := [.agg #[.int .i64 mp0, .slice mp1A mp1.length mp1C, .slice mp2A mp2.length mp2C], .slice (hdA ((belowRows apA apC ap).map (·.1)) 0) ((gL (F_below ap) 0).length / 3 : Nat) (hdC ((belowRows apA apC ap).map (·.1)) 0), .slice worldsA worlds.length worldsC]) hE380 (fun _ => cf_Model_holds _ _) rfl rfl (by exact hc388) ?_)
          rintro _ w382 ⟨rfl, he386⟩ a383 hE384; clear hE380
          have hS385 := St.go hS368 he386; clear hS368
          refine ⟨fun _ _ => ⟨(St.row (i := 2) hS385 rfl _ (Ext.refl _)), (RdN.eltD (St.rdNo (i := 1) hS385 rfl) (by decide) (by omega) (by omega) _ (Ext.refl _)), (St.row (i := 2) hS385 rfl _ (Ext.refl _)), (RdN.eltD (St.rdNo (i := 1) hS385 rfl) (by decide) (by omega) (by omega) _ (Ext.refl _)), trivial⟩, ?_⟩
          refine d_pure (fun _ h => h) (v := .bool (!(self mp0 mp1 mp2 (gL (F_below ap) 0) worlds))) 6 rfl hE384 (y_not rfl) rfl (by kernel_rfl) (by kernel_rfl) (by kernel_rfl) rfl rfl (fun _ _ _ h => h) ?_; intro a389 hE390; clear hE384
          refine d_pure (fun _ h => h) (v := .bool (!(self mp0 mp1 mp2 (gL (F_below ap) 0) worlds))) 7 rfl hE390 (y_move rfl) rfl (by kernel_rfl) (by kernel_rfl) (by kernel_rfl) rfl rfl (fun _ _ _ h => h) ?_; intro a391 hE392; clear hE390
          rcases Bool.eq_false_or_eq_true (!(self mp0 mp1 mp2 (gL (F_below ap) 0) worlds)) with hb393 | hb393
          ·
           have hE394 := hE392; (try rw [hb393] at hE394); clear hE392
           have ht395 := bn_t hb393
           refine d_skip (fun _ h => h) 8 rfl hE394 rfl (by kernel_rfl) (by kernel_rfl) (by kernel_rfl) rfl rfl (fun _ _ _ h => h) ?_; intro a396 hE397; clear hE394
           refine d_skip (fun _ h => h) 9 rfl hE397 rfl (by kernel_rfl) (by kernel_rfl) (by kernel_rfl) rfl rfl (fun _ _ _ h => h) ?_; intro a398 hE399; clear hE397
           refine d_skip (fun _ h => h) 10 rfl hE399 rfl (by kernel_rfl) (by kernel_rfl) (by kernel_rfl) rfl rfl (fun _ _ _ h => h) ?_; intro a400 hE401; clear hE399
           refine d_skip (fun _ h => h) 11 rfl hE401 rfl (by kernel_rfl) (by kernel_rfl) (by kernel_rfl) rfl rfl (fun _ _ _ h => h) ?_; intro a402 hE403; clear hE401
           refine d_skip (fun _ h => h) 12 rfl hE403 rfl (by kernel_rfl) (by kernel_rfl) (by kernel_rfl) rfl rfl (fun _ _ _ h => h) ?_; intro a404 hE405; clear hE403
           refine d_skip (fun _ h => h) 13 rfl hE405 rfl (by kernel_rfl) (by kernel_rfl) (by kernel_rfl) rfl rfl (fun _ _ _ h => h) ?_; intro a406 hE407; clear hE405
           refine d_pure (fun _ h => h) (v := .bool true) 14 rfl hE407 (y_pick (b := true) rfl rfl) rfl (by kernel_rfl) (by kernel_rfl) (by kernel_rfl) rfl rfl (fun _ _ _ h => h) ?_; intro a408 hE409; clear hE407
           refine d_pure (fun _ h => h) (v := .bool true) 15 rfl hE409 (y_assign rfl) rfl (by kernel_rfl) (by kernel_rfl) (by kernel_rfl) rfl rfl (fun _ _ _ h => h) ?_; intro a410 hE411; clear hE409
           refine d_done (by kernel_rfl) ?_
           have hE412 := hE411.sub (L' := [(6, .bool true)]) ⟨rfl, trivial⟩; clear hE411
           refine p_tn ?_
           refine wp_ret ?_
           refine p_br ?_
           refine p_tr ?_
           have hF : F_Model_holds_b self mp0 mp1 mp2 ap worlds = true := by unfold F_Model_holds_b; (first | (rw [hb393, ht363, ht283, ht203, ht190, ht145, ht107, ht60]; first | done | rfl) | (rw [← holds_L12 mp0 mp1 mp2 ap self, hb393, ht363, ht283, ht203, ht190, ht145, ht107, ht60]; first | done | rfl) | (exfalso; omega))
           refine c_ret1 hE412 rfl rfl ?_
           exact ⟨(by rw [hF]; first | done | (dsimp only; done) | rfl), hS385.ext⟩
          ·
           have hE413 := hE392; (try rw [hb393] at hE413); clear hE392
           have ht414 := bn_f hb393
           refine d_take (fun _ h => h) (fun _ _ h k => h k) (v := .agg #[.int .i64 mp0, .slice mp1A mp1.length mp1C, .slice mp2A mp2.length mp2C]) 8 rfl hE413 (S := fun w' => w'.heap[b5]? = some (.cells #[.int .i64 mp0, .slice mp1A mp1.length mp1C, .slice mp2A mp2.length mp2C] 69 (0, 0)) ∧ w'.cell? (adr b32 (Int.toNat 0)) = some (.slice (hdA ((belowRows apA apC ap).map (·.1)) 0) ((gL (F_below ap) 0).length / 3 : Nat) (hdC ((belowRows apA apC ap).map (·.1)) 0)) ∧ w'.heap[b5]? = some (.cells #[.int .i64 mp0, .slice mp1A mp1.length mp1C, .slice mp2A mp2.length mp2C] 69 (0, 0)) ∧ w'.cell? (adr b32 (Int.toNat 1)) = some (.slice (hdA ((belowRows apA apC ap).map (·.1)) 1) ((gL (F_below ap) 1).length / 3 : Nat) (hdC ((belowRows apA apC ap).map (·.1)) 1)) ∧ True) ⟨(St.row (i := 2) hS385 rfl _ (Ext.refl _)), (RdN.eltD (St.rdNo (i := 1) hS385 rfl) (by decide) (by omega) (by omega) _ (Ext.refl _)), (St.row (i := 2) hS385 rfl _ (Ext.refl _)), (RdN.eltD (St.rdNo (i := 1) hS385 rfl) (by decide) (by omega) (by omega) _ (Ext.refl _)), trivial⟩ (y_loadS Try.underlying69 rfl (by kernel_rfl) rfl (fun _ h => h.2.2.1)) rfl rfl (by kernel_rfl) (by kernel_rfl) (by kernel_rfl) (by kernel_rfl) rfl rfl (fun _ _ _ h => h) ?_; intro a415 hE416; clear hE413
           refine d_pure (fun _ h => h) (v := .slice b32 ((F_below ap).length) c33) 9 rfl hE416 (y_move rfl) rfl (by kernel_rfl) (by kernel_rfl) (by kernel_rfl) rfl rfl (fun _ _ _ h => h) ?_; intro a417 hE418; clear hE416
           refine d_pure (fun _ h => h) (v := .pointer (some (adr b32 (Int.toNat 1)))) 10 rfl hE418 (y_idx (by kernel_rfl) (fun _ => by kernel_rfl) rfl rfl (RdN.isS (m := 1) (St.rdNo (i := 1) hS385 rfl) (by omega) (by omega)) (by omega) (by omega) (Nat.mul_one _).symm) rfl (by kernel_rfl) (by kernel_rfl) (by kernel_rfl) rfl rfl (fun _ _ _ h => h) ?_; intro a419 hE420; clear hE418
           have hv421 : (0 : Int) ≤ 1 ∧ 1 < ((F_below ap).length : Int) := ⟨(by omega), (by omega)⟩
           refine d_take (fun _ h => h) (fun _ _ h k => h k) (v := .slice (hdA ((belowRows apA apC ap).map (·.1)) 1) ((gL (F_below ap) 1).length / 3 : Nat) (hdC ((belowRows apA apC ap).map (·.1)) 1)) 11 rfl hE420 (S := fun w' => w'.heap[b5]? = some (.cells #[.int .i64 mp0, .slice mp1A mp1.length mp1C, .slice mp2A mp2.length mp2C] 69 (0, 0)) ∧ w'.cell? (adr b32 (Int.toNat 0)) = some (.slice (hdA ((belowRows apA apC ap).map (·.1)) 0) ((gL (F_below ap) 0).length / 3 : Nat) (hdC ((belowRows apA apC ap).map (·.1)) 0)) ∧ w'.heap[b5]? = some (.cells #[.int .i64 mp0, .slice mp1A mp1.length mp1C, .slice mp2A mp2.length mp2C] 69 (0, 0)) ∧ w'.cell? (adr b32 (Int.toNat 1)) = some (.slice (hdA ((belowRows apA apC ap).map (·.1)) 1) ((gL (F_below ap) 1).length / 3 : Nat) (hdC ((belowRows apA apC ap).map (·.1)) 1)) ∧ True) ⟨(St.row (i := 2) hS385 rfl _ (Ext.refl _)), (RdN.eltD (St.rdNo (i := 1) hS385 rfl) (by decide) (by omega) (by omega) _ (Ext.refl _)), (St.row (i := 2) hS385 rfl _ (Ext.refl _)), (RdN.eltD (St.rdNo (i := 1) hS385 rfl) (by decide) (by omega) (by omega) _ (Ext.refl _)), trivial⟩ (y_load (fun _ => by kernel_rfl) rfl (fun _ h => h.2.2.2.1)) rfl rfl (by kernel_rfl) (by kernel_rfl) (by kernel_rfl) (by kernel_rfl) rfl rfl (fun _ _ _ h => h) ?_; intro a423 hE424; clear hE420
           refine d_pure (fun _ h => h) (v := .slice worldsA worlds.length worldsC) 12 rfl hE424 (y_move rfl) rfl (by kernel_rfl) (by kernel_rfl) (by kernel_rfl) rfl rfl (fun _ _ _ h => h) ?_; intro a425 hE426; clear hE424
           have hr433 := (RdN.rowD (St.rdNo (i := 1) hS385 rfl) (by decide) hv421.1 hv421.2)
           have hc434 := ih mp0 mp1A mp1.length mp1C mp1 mp2A mp2.length mp2C mp2 (hdA ((belowRows apA apC ap).map (·.1)) 1) ((gL (F_below ap) 1).length / 3 : Nat) (hdC ((belowRows apA apC ap).map (·.1)) 1) (gL (F_below ap) 1) worldsA worlds.length worldsC worlds w382 (St.rdR (i := 6) hS385 rfl) (St.rdR (i := 5) hS385 rfl) hr433 (St.rdR (i := 3) hS385 rfl) (by omega) (by omega) (by omega) (Nat.le_trans (below_le _ _) hl) (hpt.2 _ (by omega) (by omega)).1 (by first | assumption | (rw [sI_len]; assumption)) (by first | (have h9 := pm_frB hf (by omega) hfw (m := 0) (by omega) (by omega); with_reducible exact h9) | (have h9 := pm_frB hf (by omega) hfw (m := 1) (by omega) (by omega); with_reducible exact h9) | exact pm_frunI hf (by omega) hfw (by omega) (by omega) (by omega) hag) (by first | (have h := (hpt.2 0 (by omega) (by omega)).2; omega) | (have h := (hpt.2 1 (by omega) (by omega)).2; omega))
           refine d_only 13 (by kernel_rfl) rfl hE426 rfl (l_call (f := 110) (argv := [.agg #[.int .i64 mp0, .slice mp1A mp1.length mp1C, .slice mp2A mp2.length mp2C], .slice (hdA ((belowRows apA apC ap).map (·.1)) 1) ((gL (F_below ap) 1).length / 3 : Nat) (hdC ((belowRows apA apC ap).map (·.1)) 1), .slice worldsA worlds.length worldsC]) hE426 (fun _ => cf_Model_holds _ _) rfl rfl (by exact hc434) ?_)
           rintro _ w428 ⟨rfl, he432⟩ a429 hE430; clear hE426
           have hS431 := St.go hS385 he432; clear hS385
           refine ⟨fun h => Bool.noConfusion (h.symm.trans (show exm _ _ _ = true by kernel_rfl)), ?_⟩
           refine d_pure (fun _ h => h) (v := .bool (self mp0 mp1 mp2 (gL (F_below ap) 1) worlds)) 14 rfl hE430 (y_pick (b := false) rfl rfl) rfl (by kernel_rfl) (by kernel_rfl) (by kernel_rfl) rfl rfl (fun _ _ _ h => h) ?_; intro a435 hE436; clear hE430
           refine d_pure (fun _ h => h) (v := .bool (self mp0 mp1 mp2 (gL (F_below ap) 1) worlds)) 15 rfl hE436 (y_assign rfl) rfl (by kernel_rfl) (by kernel_rfl) (by kernel_rfl) rfl rfl (fun _ _ _ h => h) ?_; intro a437 hE438; clear hE436
           refine d_done (by kernel_rfl) ?_
           have hE439 := hE438.sub (L' := [(6, .bool (self mp0 mp1 mp2 (gL (F_below ap) 1) worlds))]) ⟨rfl, trivial⟩; clear hE438
           refine p_tn ?_
           refine wp_ret ?_
           refine p_br ?_
           refine p_tr ?_
           have hF : F_Model_holds_b self mp0 mp1 mp2 ap worlds = self mp0 mp1 mp2 (gL (F_below ap) 1) worlds := by unfold F_Model_holds_b; (first | (rw [hb393, ht363, ht283, ht203, ht190, ht145, ht107, ht60]; first | done | rfl) | (rw [← holds_L12 mp0 mp1 mp2 ap self, hb393, ht363, ht283, ht203, ht190, ht145, ht107, ht60]; first | done | rfl) | (exfalso; omega))
           refine c_ret1 hE439 rfl rfl ?_
           exact ⟨(by rw [hF]; first | done | (dsimp only; done) | rfl), hS431.ext⟩
         ·
          have hp440 := of_decide_eq_false ht363
          have hE441 := hE362; rw [ht363] at hE441; clear hE362
          refine wp_skip ?_
          refine p_bn ?_
          refine p_tn ?_
          refine c_seq ?_
          refine c_reg ?_
          refine q_step (v := .slice worldsA worlds.length worldsC) hE441 (y_move rfl) rfl rfl rfl ?_; intro a442 hE443; clear hE441
          have hc450 := c_z_Clone worldsA worlds.length worldsC worlds w42 (St.rdR (i := 3) hS45 rfl) (by omega)
          refine l_step hE443 rfl (l_call (f := 178) (argv := [.slice worldsA worlds.length worldsC]) hE443 (fun _ => cf_z_CloneS _ _) rfl rfl (by exact hc450) ?_)
          rintro _ w445 ⟨b451, c452, rfl, ho453, he449⟩ a446 hE447; clear hE443
          have hS448 := St.own hS45 he449 ho453; clear hS45
          refine q_step (v := .slice b451 ((worlds).length) c452) hE447 (y_assign rfl) rfl rfl rfl ?_; intro a454 hE455; clear hE447
          refine c_nil ?_
          have hE456 := hE455.sub (L' := [(3, .pointer (some ⟨b5, 0, none⟩)), (7, .pointer (some ⟨b35, 0, none⟩)), (8, .slice b32 ((F_below ap).length) c33), (9, .slice b451 ((worlds).length) c452)]) ⟨rfl, rfl, rfl, rfl, trivial⟩; clear hE455
          refine p_tn ?_
          refine c_seq ?_
          refine c_reg ?_
          refine q_step (v := .pointer (some ⟨b35, 0, none⟩)) hE456 (y_field rfl (fun _ => by kernel_rfl)) rfl rfl rfl ?_; intro a457 hE458; clear hE456
          refine q_step (v := .int .i64 (gS 3 0 ap 0)) hE458 (y_load (fun _ => by kernel_rfl) rfl (St.cell (i := 1) hS448 rfl rfl)) rfl rfl rfl ?_; intro a459 hE460; clear hE458
          refine q_step (v := .bool (decide ((gS 3 0 ap 0) = 8))) hE460 (y_eql rfl rfl) rfl rfl rfl ?_; intro a461 hE462; clear hE460
          refine q_step (v := .bool (decide ((gS 3 0 ap 0) = 8))) hE462 (y_assign rfl) rfl rfl rfl ?_; intro a463 hE464; clear hE462
          refine c_nil ?_
          have hE465 := hE464.sub (L' := [(3, .pointer (some ⟨b5, 0, none⟩)), (7, .pointer (some ⟨b35, 0, none⟩)), (8, .slice b32 ((F_below ap).length) c33), (9, .slice b451 ((worlds).length) c452), (10, .bool (decide ((gS 3 0 ap 0) = 8)))]) ⟨rfl, rfl, rfl, rfl, rfl, trivial⟩; clear hE464
          refine p_tn ?_
          refine c_seq ?_
          refine c_seq ?_
          refine c_reg ?_
          refine q_step (v := .pointer (some ⟨b5, 0, none⟩)) hE465 (y_field rfl (fun _ => by kernel_rfl)) rfl rfl rfl ?_; intro a466 hE467; clear hE465
          refine q_step (v := .pointer (some ⟨b5, 0, none⟩)) hE467 (y_field rfl (fun _ => by kernel_rfl)) rfl rfl rfl ?_; intro a468 hE469; clear hE467
          refine q_step (v := .int .i64 mp0) hE469 (y_load (fun _ => by kernel_rfl) rfl (St.cell (i := 3) hS448 rfl rfl)) rfl rfl rfl ?_; intro a470 hE471; clear hE469
          refine q_step (v := .int .i64 0) hE471 (y_move rfl) rfl rfl rfl ?_; intro a472 hE473; clear hE471
          refine c_nil ?_
          have hE474 := hE473.sub (L' := [(3, .pointer (some ⟨b5, 0, none⟩)), (7, .pointer (some ⟨b35, 0, none⟩)), (8, .slice b32 ((F_below ap).length) c33), (9, .slice b451 ((worlds).length) c452), (10, .bool (decide ((gS 3 0 ap 0) = 8))), (119, .int .i64 mp0), (120, .int .i64 0)]) ⟨rfl, rfl, rfl, rfl, rfl, rfl, rfl, trivial⟩; clear hE473
          refine p_tn ?_
          refine c_cut1 (fun a' w' => isOk (F_Model_holds_L1 mp0 mp1 mp2 ap self (Int.toNat (mp0 - 0) + 1) 0 worlds) = true ∧ (0 ≤ ((okD (F_Model_holds_L1 mp0 mp1 mp2 ap self (Int.toNat (mp0 - 0) + 1) 0 worlds)).1)) ∧ (((okD (F_Model_holds_L1 mp0 mp1 mp2 ap self (Int.toNat (mp0 - 0) + 1) 0 worlds)).2).length = 10) ∧ (∀ x : Nat, ¬ (x : Int) = gS 3 1 ap 0 → gI ((okD (F_Model_holds_L1 mp0 mp1 mp2 ap self (Int.toNat (mp0 - 0) + 1) 0 worlds)).2) (x : Int) = gI worlds (x : Int)) ∧ E a' 140 [(3, .pointer (some ⟨b5, 0, none⟩)), (7, .pointer (some ⟨b35, 0, none⟩)), (8, .slice b32 ((F_below ap).length) c33), (9, .slice b451 ((worlds).length) c452), (10, .bool (decide ((gS 3 0 ap 0) = 8))), (119, .int .i64 mp0), (120, .int .i64 ((okD (F_Model_holds_L1 mp0 mp1 mp2 ap self (Int.toNat (mp0 - 0) + 1) 0 worlds)).1))] ∧ St w w' [.own 2 1 b451 ((worlds).length) c452 ((okD (F_Model_holds_L1 mp0 mp1 mp2 ap self (Int.toNat (mp0 - 0) + 1) 0 worlds)).2), .blk b35 #[.int .i64 (gS 3 0 ap 0), .int .i64 (gS 3 1 ap 0), .int .i64 (gS 3 2 ap 0)] 115, .nest 59 3 none b32 c33 ((belowRows apA apC ap).map (·.1)) (F_below ap), .blk b5 #[.int .i64 mp0, .slice mp1A mp1.length mp1C, .slice mp2A mp2.length mp2C] 69, .rd 1 worldsA worlds.length worldsC worlds, .rd 3 apA ((ap).length / 3 : Nat) apC ap, .rd 1 mp2A mp2.length mp2C mp2, .rd 1 mp1A mp1.length mp1C mp1]) ?_ ?_
          ·
           refine wp_block ?_
           refine c_loop (fun r a' w' => ∃ t120 : Int, ∃ inner9 : List Int, F_Model_holds_L1 mp0 mp1 mp2 ap self r t120 inner9 = F_Model_holds_L1 mp0 mp1 mp2 ap self (Int.toNat (mp0 - 0) + 1) 0 worlds ∧ Int.toNat (mp0 - t120) < r ∧ (0 ≤ t120) ∧ (inner9.length = 10) ∧ (∀ x : Nat, ¬ (x : Int) = gS 3 1 ap 0 → gI inner9 (x : Int) = gI worlds (x : Int)) ∧ E a' 140 [(3, .pointer (some ⟨b5, 0, none⟩)), (7, .pointer (some ⟨b35, 0, none⟩)), (8, .slice b32 ((F_below ap).length) c33), (9, .slice b451 ((worlds).length) c452), (10, .bool (decide ((gS 3 0 ap 0) = 8))), (119, .int .i64 mp0), (120, .int .i64 t120)] ∧ St w w' [.own 2 1 b451 ((worlds).length) c452 inner9, .blk b35 #[.int .i64 (gS 3 0 ap 0), .int .i64 (gS 3 1 ap 0), .int .i64 (gS 3 2 ap 0)] 115, .nest 59 3 none b32 c33 ((belowRows apA apC ap).map (·.1)) (F_below ap), .blk b5 #[.int .i64 mp0, .slice mp1A mp1.length mp1C, .slice mp2A mp2.length mp2C] 69, .rd 1 worldsA worlds.length worldsC worlds, .rd 3 apA ((ap).length / 3 : Nat) apC ap, .rd 1 mp2A mp2.length mp2C mp2, .rd 1 mp1A mp1.length mp1C mp1]) (r := (Int.toNat (mp0 - 0) + 1)) ?_ ?_
           · exact ⟨0, worlds, rfl, Nat.lt_succ_self _, (by first | omega | (simp only [sS_len, sL_len]; omega) | (simp only [List.length_replicate, sI_len]; omega) | (simp only [List.length_append, List.length_cons, List.length_nil, sI_len, cond_true, cond_false]; omega) | (simp only [List.length_append, List.length_cons, List.length_nil, sI_len, cond_eq_ite, apply_ite List.length]; split <;> simp only [List.length_append, List.length_cons, List.length_nil, sI_len] <;> omega) | grind), hw, (fun _ _ => rfl), (hE474.sub (L' := [(3, .pointer (some ⟨b5, 0, none⟩)), (7, .pointer (some ⟨b35, 0, none⟩)), (8, .slice b32 ((F_below ap).length) c33), (9, .slice b451 ((worlds).length) c452), (10, .bool (decide ((gS 3 0 ap 0) = 8))), (119, .int .i64 mp0), (120, .int .i64 0)]) ⟨rfl, rfl, rfl, rfl, rfl, rfl, rfl, trivial⟩), (St.pick (Γ' := [.own 2 1 b451 ((worlds).length) c452 worlds, .blk b35 #[.int .i64 (gS 3 0 ap 0), .int .i64 (gS 3 1 ap 0), .int .i64 (gS 3 2 ap 0)] 115, .nest 59 3 none b32 c33 ((belowRows apA apC ap).map (·.1)) (F_below ap), .blk b5 #[.int .i64 mp0, .slice mp1A mp1.length mp1C, .slice mp2A mp2.length mp2C] 69, .rd 1 worldsA worlds.length worldsC worlds, .rd 3 apA ((ap).length / 3 : Nat) apC ap, .rd 1 mp2A mp2.length mp2C mp2, .rd 1 mp1A mp1.length mp1C mp1]) hS448 [0, 1, 2, 3, 4, 5, 6, 7] (by decide) rfl)⟩
           ·
            clear hE474 hS448
            rintro r485 a476 w477 ⟨t120, inner9, hT480, hr481, hi482, hi483, hi484, hE478, hS479⟩
            obtain ⟨r485, rfl⟩ : ∃ r', r485 = r' + 1 := ⟨r485 - 1, by omega⟩
            refine c_seq ?_
            refine c_reg ?_
            refine q_step (v := .bool (decide (t120 < mp0))) hE478 (y_lss rfl rfl) rfl rfl rfl ?_; intro a486 hE487; clear hE478
            refine c_nil ?_
            have hE488 := hE487.sub (L' := [(3, .pointer (some ⟨b5, 0, none⟩)), (7, .pointer (some ⟨b35, 0, none⟩)), (8, .slice b32 ((F_below ap).length) c33), (9, .slice b451 ((worlds).length) c452), (10, .bool (decide ((gS 3 0 ap 0) = 8))), (119, .int .i64 mp0), (120, .int .i64 t120), (121, .bool (decide (t120 < mp0)))]) ⟨rfl, rfl, rfl, rfl, rfl, rfl, rfl, rfl, trivial⟩; clear hE487
            refine p_tn ?_
            refine c_seq ?_
            refine c_cond hE488 rfl (fun ht489 => ?_) (fun ht489 => ?_)
            ·
             have hp490 := of_decide_eq_true ht489
             have hE491 := hE488; rw [ht489] at hE491; clear hE488
             have hag := (show ∀ x : Nat, ¬ (x : Int) = gS 3 1 ap 0 → gI inner9 (x : Int) = gI worlds (x : Int) by assumption)
             refine wp_skip ?_
             refine p_tn ?_
             refine c_seq ?_
             refine wp_block ?_
             refine c_seq ?_
             refine c_reg ?_
             refine q_step (v := .int .i64 t120) hE491 (y_move rfl) rfl rfl rfl ?_; intro a492 hE493; clear hE491
             refine q_step (v := .int .i64 t120) hE493 (y_assign rfl) rfl rfl rfl ?_; intro a494 hE495; clear hE493
             refine c_nil ?_
             have hE496 := hE495.sub (L' := [(3, .pointer (some ⟨b5, 0, none⟩)), (7, .pointer (some ⟨b35, 0, none⟩)), (8, .slice b32 ((F_below ap).length) c33), (9, .slice b451 ((worlds).length) c452), (10, .bool (decide ((gS 3 0 ap 0) = 8))), (11, .int .i64 t120), (119, .int .i64 mp0), (120, .int .i64 t120)]) ⟨rfl, rfl, rfl, rfl, rfl, rfl, rfl, rfl, trivial⟩; clear hE495
             refine p_tn ?_
             refine c_seq ?_
             refine c_reg ?_
             refine q_step (v := .slice b451 ((worlds).length) c452) hE496 (y_move rfl) rfl rfl rfl ?_; intro a497 hE498; clear hE496
             refine q_step (v := .pointer (some ⟨b35, 1, none⟩)) hE498 (y_field rfl (fun _ => by kernel_rfl)) rfl rfl rfl ?_; intro a499 hE500; clear hE498
             refine q_step (v := .int .i64 (gS 3 1 ap 0)) hE500 (y_load (fun _ => by kernel_rfl) rfl (St.cell (i := 1) hS479 rfl rfl)) rfl rfl rfl ?_; intro a501 hE502; clear hE500
             refine q_step (v := .int .i64 t120) hE502 (y_move rfl) rfl rfl rfl ?_; intro a503 hE504; clear hE502
             refine q_step (v := .pointer (some (adr b451 (Int.toNat (gS 3 1 ap 0))))) hE504 (y_idx (by kernel_rfl) (fun _ => by kernel_rfl) rfl rfl (RdS.isS (m := gS 3 1 ap 0) (St.rdO (i := 0) hS479 rfl) (by omega) (by omega)) (by omega) (by omega) (Nat.mul_one _).symm) rfl rfl rfl ?_; intro a505 hE506; clear hE504
             refine l_step hE506 rfl (l_store (k := 0) hS479 hE506 (fun _ => by kernel_rfl) rfl rfl rfl (by omega) (by omega) ?_)
             intro w508 hS511 a509 hE510; clear hS479 hE506
             refine c_nil ?_
             have hE513 := hE510.sub (L' := [(3, .pointer (some ⟨b5, 0, none⟩)), (7, .pointer (some ⟨b35, 0, none⟩)), (8, .slice b32 ((F_below ap).length) c33), (9, .slice b451 ((worlds).length) c452), (10, .bool (decide ((gS 3 0 ap 0) = 8))), (119, .int .i64 mp0), (120, .int .i64 t120)]) ⟨rfl, rfl, rfl, rfl, rfl, rfl, rfl, trivial⟩; clear hE510
             refine p_tn ?_
             refine c_seq ?_
             refine d_start (fun w w' => (fun w' => w'.heap[b5]? = some (.cells #[.int .i64 mp0, .slice mp1A mp1.length mp1C, .slice mp2A mp2.length mp2C] 69 (0, 0)) ∧ w'.cell? (adr b32 (Int.toNat 0)) = some (.slice (hdA ((belowRows apA apC ap).map (·.1)) 0) ((gL (F_below ap) 0).length / 3 : Nat) (hdC ((belowRows apA apC ap).map (·.1)) 0)) ∧ True) w → (fun w' => w'.heap[b5]? = some (.cells #[.int .i64 mp0, .slice mp1A mp1.length mp1C, .slice mp2A mp2.length mp2C] 69 (0, 0)) ∧ w'.cell? (adr b32 (Int.toNat 0)) = some (.slice (hdA ((belowRows apA apC ap).map (·.1)) 0) ((gL (F_below ap) 0).length / 3 : Nat) (hdC ((belowRows apA apC ap).map (·.1)) 0)) ∧ True) w') [0, 3] 8 (by kernel_rfl) rfl ?_
             intro w514 he515; have hS516 := St.go hS511 he515; clear hS511
             refine d_take (fun _ h => h) (fun _ _ h k => h k) (v := .agg #[.int .i64 mp0, .slice mp1A mp1.length mp1C, .slice mp2A mp2.length mp2C]) 0 rfl hE513 (S := fun w' => w'.heap[b5]? = some (.cells #[.int .i64 mp0, .slice mp1A mp1.length mp1C, .slice mp2A mp2.length mp2C] 69 (0, 0)) ∧ w'.cell? (adr b32 (Int.toNat 0)) = some (.slice (hdA ((belowRows apA apC ap).map (·.1)) 0) ((gL (F_below ap) 0).length / 3 : Nat) (hdC ((belowRows apA apC ap).map (·.1)) 0)) ∧ True) ⟨(St.row (i := 3) hS516 rfl _ (Ext.refl _)), (RdN.eltD (St.rdNo (i := 2) hS516 rfl) (by decide) (by omega) (by omega) _ (Ext.refl _)), trivial⟩ (y_loadS Try.underlying69 rfl (by kernel_rfl) rfl (fun _ h => h.1)) rfl rfl (by kernel_rfl) (by kernel_rfl) (by kernel_rfl) (by kernel_rfl) rfl rfl (fun _ _ _ h => h) ?_; intro a517 hE518; clear hE513
             refine d_pure (fun _ h => h) (v := .slice b32 ((F_below ap).length) c33) 1 rfl hE518 (y_move rfl) rfl (by kernel_rfl) (by kernel_rfl) (by kernel_rfl) rfl rfl (fun _ _ _ h => h) ?_; intro a519 hE520; clear hE518
             refine d_pure (fun _ h => h) (v := .pointer (some (adr b32 (Int.toNat 0)))) 2 rfl hE520 (y_idx (by kernel_rfl) (fun _ => by kernel_rfl) rfl rfl (RdN.isS (m := 0) (St.rdNo (i := 2) hS516 rfl) (by omega) (by omega)) (by omega) (by omega) (Nat.mul_one _).symm) rfl (by kernel_rfl) (by kernel_rfl) (by kernel_rfl) rfl rfl (fun _ _ _ h => h) ?_; intro a521 hE522; clear hE520
             have hv523 : (0 : Int) ≤ 0 ∧ 0 < ((F_below ap).length : Int) := ⟨(by omega), (by omega)⟩
             refine d_take (fun _ h => h) (fun _ _ h k => h k) (v := .slice (hdA ((belowRows apA apC ap).map (·.1)) 0) ((gL (F_below ap) 0).length / 3 : Nat) (hdC ((belowRows apA apC ap).map (·.1)) 0)) 3 rfl hE522 (S := fun w' => w'.heap[b5]? = some (.cells #[.int .i64 mp0, .slice mp1A mp1.length mp1C, .slice mp2A mp2.length mp2C] 69 (0, 0)) ∧ w'.cell? (adr b32 (Int.toNat 0)) = some (.slice (hdA ((belowRows apA apC ap).map (·.1)) 0) ((gL (F_below ap) 0).length / 3 : Nat) (hdC ((belowRows apA apC ap).map (·.1)) 0)) ∧ True) ⟨(St.row (i := 3) hS516 rfl _ (Ext.refl _)), (RdN.eltD (St.rdNo (i := 2) hS516 rfl) (by decide) (by omega) (by omega) _ (Ext.refl _)), trivial⟩ (y_load (fun _ => by kernel_rfl) rfl (fun _ h => h.2.1)) rfl rfl (by kernel_rfl) (by kernel_rfl) (by kernel_rfl) (by kernel_rfl) rfl rfl (fun _ _ _ h => h) ?_; intro a525 hE526; clear hE522
             refine d_pure (fun _ h => h) (v := .slice b451 ((worlds).length) c452) 4 rfl hE526 (y_move rfl) rfl (by kernel_rfl) (by kernel_rfl) (by kernel_rfl) rfl rfl (fun _ _ _ h => h) ?_; intro a527 hE528; clear hE526
             refine d_pure (fun _ h => h) (v := .bool (decide ((gS 3 0 ap 0) = 8))) 6 rfl hE528 (y_move rfl) rfl (by kernel_rfl) (by kernel_rfl) (by kernel_rfl) rfl rfl (fun _ _ _ h => h) ?_; intro a529 hE530; clear hE528
             have hr537 := (RdN.rowD (St.rdNo (i := 2) hS516 rfl) (by decide) hv523.1 hv523.2)
             have hc538 := ih mp0 mp1A mp1.length mp1C mp1 mp2A mp2.length mp2C mp2 (hdA ((belowRows apA apC ap).map (·.1)) 0) ((gL (F_below ap) 0).length / 3 : Nat) (hdC ((belowRows apA apC ap).map (·.1)) 0) (gL (F_below ap) 0) b451 ((worlds).length) c452 (sI inner9 (gS 3 1 ap 0) t120) w514 (St.rdR (i := 7) hS516 rfl) (St.rdR (i := 6) hS516 rfl) hr537 (St.rdO (i := 0) hS516 rfl) (by omega) (by omega) (by omega) (Nat.le_trans (below_le _ _) hl) (hpt.2 _ (by omega) (by omega)).1 (by first | assumption | (rw [sI_len]; assumption)) (by first | (have h9 := pm_frB hf (by omega) hfw (m := 0) (by omega) (by omega); with_reducible exact h9) | (have h9 := pm_frB hf (by omega) hfw (m := 1) (by omega) (by omega); with_reducible exact h9) | exact pm_frunI hf (by omega) hfw (by omega) (by omega) (by omega) hag) (by first | (have h := (hpt.2 0 (by omega) (by omega)).2; omega) | (have h := (hpt.2 1 (by omega) (by omega)).2; omega))
             refine d_only 5 (by kernel_rfl) rfl hE530 rfl (l_call (f := 110) (argv := [.agg #[.int .i64 mp0, .slice mp1A mp1.length mp1C, .slice mp2A mp2.length mp2C], .slice (hdA ((belowRows apA apC ap).map (·.1)) 0) ((gL (F_below ap) 0).length / 3 : Nat) (hdC ((belowRows apA apC ap).map (·.1)) 0), .slice b451 ((worlds).length) c452]) hE530 (fun _ => cf_Model_holds _ _) rfl rfl (by exact hc538) ?_)
             rintro _ w532 ⟨rfl, he536⟩ a533 hE534; clear hE530
             have hS535 := St.go hS516 he536; clear hS516
             refine ⟨fun h => Bool.noConfusion (h.symm.trans (show exm _ _ _ = true by kernel_rfl)), ?_⟩
             refine d_pure (fun _ h => h) (v := .bool ((self mp0 mp1 mp2 (gL (F_below ap) 0) (sI inner9 (gS 3 1 ap 0) t120)) == (decide ((gS 3 0 ap 0) = 8)))) 7 rfl hE534 (y_eqlb (by kernel_rfl) rfl rfl) rfl (by kernel_rfl) (by kernel_rfl) (by kernel_rfl) rfl rfl (fun _ _ _ h => h) ?_; intro a539 hE540; clear hE534
             refine d_done (by kernel_rfl) ?_
             have hE541 := hE540.sub (L' := [(3, .pointer (some ⟨b5, 0, none⟩)), (7, .pointer (some ⟨b35, 0, none⟩)), (8, .slice b32 ((F_below ap).length) c33), (9, .slice b451 ((worlds).length) c452), (10, .bool (decide ((gS 3 0 ap 0) = 8))), (119, .int .i64 mp0), (120, .int .i64 t120), (135, .bool ((self mp0 mp1 mp2 (gL (F_below ap) 0) (sI inner9 (gS 3 1 ap 0) t120)) == (decide ((gS 3 0 ap 0) = 8))))]) ⟨rfl, rfl, rfl, rfl, rfl, rfl, rfl, rfl, trivial⟩; clear hE540
             refine p_tn ?_
             refine c_cond hE541 rfl (fun ht542 => ?_) (fun ht542 => ?_)
             ·
              have hE543 := hE541; rw [ht542] at hE543; clear hE541
              refine c_seq ?_
              refine c_reg ?_
              refine q_step (v := .bool (decide ((gS 3 0 ap 0) = 8))) hE543 (y_move rfl) rfl rfl rfl ?_; intro a544 hE545; clear hE543
              refine q_step (v := .bool (decide ((gS 3 0 ap 0) = 8))) hE545 (y_assign rfl) rfl rfl rfl ?_; intro a546 hE547; clear hE545
              refine c_nil ?_
              have hE548 := hE547.sub (L' := [(6, .bool (decide ((gS 3 0 ap 0) = 8)))]) ⟨rfl, trivial⟩; clear hE547
              refine p_tn ?_
              refine wp_ret ?_
              refine p_br ?_
              refine p_tr ?_
              have hX549 : F_Model_holds_L1 mp0 mp1 mp2 ap self (Int.toNat (mp0 - 0) + 1) 0 worlds = .error (decide ((gS 3 0 ap 0) = 8)) := hT480.symm.trans (show F_Model_holds_L1b mp0 mp1 mp2 ap self (F_Model_holds_L1 mp0 mp1 mp2 ap self r485) t120 inner9 = .error (decide ((gS 3 0 ap 0) = 8)) by unfold F_Model_holds_L1b; rw [ht542, ht489]; first | done | rfl)
              refine p_tr (p_br (p_tr ?_))
              refine p_tr ?_
              have hF : F_Model_holds_b self mp0 mp1 mp2 ap worlds = decide ((gS 3 0 ap 0) = 8) := by unfold F_Model_holds_b; (first | (rw [hX549, ht363, ht283, ht203, ht190, ht145, ht107, ht60]; first | done | rfl) | (rw [← holds_L12 mp0 mp1 mp2 ap self, hX549, ht363, ht283, ht203, ht190, ht145, ht107, ht60]; first | done | rfl) | (exfalso; omega))
              refine c_ret1 hE548 rfl rfl ?_
              exact ⟨(by rw [hF]; first | done | (dsimp only; done) | rfl), hS535.ext⟩
             ·
              have hE550 := hE541; rw [ht542] at hE550; clear hE541
              refine wp_skip ?_
              refine p_bn ?_
              refine p_tn ?_
              refine c_reg ?_
              refine q_step (v := .int .i64 (t120 + 1)) hE550 (y_add rfl rfl ⟨(by omega), (by omega)⟩) rfl rfl rfl ?_; intro a551 hE552; clear hE550
              refine q_step (v := .int .i64 (t120 + 1)) hE552 (y_move rfl) rfl rfl rfl ?_; intro a553 hE554; clear hE552
              refine c_nil ?_
              have hE555 := hE554.sub (L' := [(3, .pointer (some ⟨b5, 0, none⟩)), (7, .pointer (some ⟨b35, 0, none⟩)), (8, .slice b32 ((F_below ap).length) c33), (9, .slice b451 ((worlds).length) c452), (10, .bool (decide ((gS 3 0 ap 0) = 8))), (119, .int .i64 mp0), (120, .int .i64 (t120 + 1))]) ⟨rfl, rfl, rfl, rfl, rfl, rfl, rfl, trivial⟩; clear hE554
              refine p_tn ⟨r485, Nat.lt_succ_self _, t120 + 1, sI inner9 (gS 3 1 ap 0) t120, (hT480.symm.trans (show F_Model_holds_L1b mp0 mp1 mp2 ap self (F_Model_holds_L1 mp0 mp1 mp2 ap self r485) t120 inner9 = F_Model_holds_L1 mp0 mp1 mp2 ap self r485 (t120 + 1) (sI inner9 (gS 3 1 ap 0) t120) by unfold F_Model_holds_L1b; rw [ht542, ht489]; first | done | rfl)).symm, (by omega), (by first | omega | (simp only [sS_len, sL_len]; omega) | (simp only [List.length_replicate, sI_len]; omega) | (simp only [List.length_append, List.length_cons, List.length_nil, sI_len, cond_true, cond_false]; omega) | (simp only [List.length_append, List.length_cons, List.length_nil, sI_len, cond_eq_ite, apply_ite List.length]; split <;> simp only [List.length_append, List.length_cons, List.length_nil, sI_len] <;> omega) | grind), (by rw [sI_len]; assumption), (agree_sI (by omega) (by omega) hag), (hE555.sub (L' := [(3, .pointer (some ⟨b5, 0, none⟩)), (7, .pointer (some ⟨b35, 0, none⟩)), (8, .slice b32 ((F_below ap).length) c33), (9, .slice b451 ((worlds).length) c452), (10, .bool (decide ((gS 3 0 ap 0) = 8))), (119, .int .i64 mp0), (120, .int .i64 (t120 + 1))]) ⟨rfl, rfl, rfl, rfl, rfl, rfl, rfl, trivial⟩), (St.pick (Γ' := [.own 2 1 b451 ((worlds).length) c452 (sI inner9 (gS 3 1 ap 0) t120), .blk b35 #[.int .i64 (gS 3 0 ap 0), .int .i64 (gS 3 1 ap 0), .int .i64 (gS 3 2 ap 0)] 115, .nest 59 3 none b32 c33 ((belowRows apA apC ap).map (·.1)) (F_below ap), .blk b5 #[.int .i64 mp0, .slice mp1A mp1.length mp1C, .slice mp2A mp2.length mp2C] 69, .rd 1 worldsA worlds.length worldsC worlds, .rd 3 apA ((ap).length / 3 : Nat) apC ap, .rd 1 mp2A mp2.length mp2C mp2, .rd 1 mp1A mp1.length mp1C mp1]) hS535 [0, 1, 2, 3, 4, 5, 6, 7] (by decide) rfl)⟩
            ·
             have hp556 := of_decide_eq_false ht489
             have hE557 := hE488; rw [ht489] at hE557; clear hE488
             refine wp_exit ?_
             refine p_te ?_
             have hX558 : F_Model_holds_L1 mp0 mp1 mp2 ap self (Int.toNat (mp0 - 0) + 1) 0 worlds = .ok (t120, inner9) := hT480.symm.trans (show F_Model_holds_L1b mp0 mp1 mp2 ap self (F_Model_holds_L1 mp0 mp1 mp2 ap self r485) t120 inner9 = .ok (t120, inner9) by unfold F_Model_holds_L1b; rw [ht489]; first | done | rfl)
             refine p_te (p_be (p_tn ?_))
             exact ⟨(by rw [hX558]; rfl), (by rw [hX558]; exact (show 0 ≤ t120 from (by first | omega | (simp only [sS_len, sL_len]; omega) | (simp only [List.length_replicate, sI_len]; omega) | (simp only [List.length_append, List.length_cons, List.length_nil, sI_len, cond_true, cond_false]; omega) | (simp only [List.length_append, List.length_cons, List.length_nil, sI_len, cond_eq_ite, apply_ite List.length]; split <;> simp only [List.length_append, List.length_cons, List.length_nil, sI_len] <;> omega) | grind))), (by rw [hX558]; exact (show inner9.length = 10 from (by first | omega | (simp only [sS_len, sL_len]; omega) | (simp only [List.length_replicate, sI_len]; omega) | (simp only [List.length_append, List.length_cons, List.length_nil, sI_len, cond_true, cond_false]; omega) | (simp only [List.length_append, List.length_cons, List.length_nil, sI_len, cond_eq_ite, apply_ite List.length]; split <;> simp only [List.length_append, List.length_cons, List.length_nil, sI_len] <;> omega) | grind))), (by rw [hX558]; exact (show ∀ x : Nat, ¬ (x : Int) = gS 3 1 ap 0 → gI inner9 (x : Int) = gI worlds (x : Int) from (by first | omega | (simp only [sS_len, sL_len]; omega) | (simp only [List.length_replicate, sI_len]; omega) | (simp only [List.length_append, List.length_cons, List.length_nil, sI_len, cond_true, cond_false]; omega) | (simp only [List.length_append, List.length_cons, List.length_nil, sI_len, cond_eq_ite, apply_ite List.length]; split <;> simp only [List.length_append, List.length_cons, List.length_nil, sI_len] <;> omega) | grind))), (by rw [hX558]; exact (hE557.sub (L' := [(3, .pointer (some ⟨b5, 0, none⟩)), (7, .pointer (some ⟨b35, 0, none⟩)), (8, .slice b32 ((F_below ap).length) c33), (9, .slice b451 ((worlds).length) c452), (10, .bool (decide ((gS 3 0 ap 0) = 8))), (119, .int .i64 mp0), (120, .int .i64 t120)]) ⟨rfl, rfl, rfl, rfl, rfl, rfl, rfl, trivial⟩)), (by rw [hX558]; exact (St.pick (Γ' := [.own 2 1 b451 ((worlds).length) c452 inner9, .blk b35 #[.int .i64 (gS 3 0 ap 0), .int .i64 (gS 3 1 ap 0), .int .i64 (gS 3 2 ap 0)] 115, .nest 59 3 none b32 c33 ((belowRows apA apC ap).map (·.1)) (F_below ap), .blk b5 #[.int .i64 mp0, .slice mp1A mp1.length mp1C, .slice mp2A mp2.length mp2C] 69, .rd 1 worldsA worlds.length worldsC worlds, .rd 3 apA ((ap).length / 3 : Nat) apC ap, .rd 1 mp2A mp2.length mp2C mp2, .rd 1 mp1A mp1.length mp1C mp1]) hS479 [0, 1, 2, 3, 4, 5, 6, 7] (by decide) rfl))⟩
          ·
           rintro a559 w560 ⟨hO563, hi564, hi565, hi566, hE561, hS562⟩; clear hE474 hS448
           refine p_tn ?_
           refine c_seq ?_
           refine c_reg ?_
           refine q_step (v := .bool (decide ((gS 3 0 ap 0) = 8))) hE561 (y_move rfl) rfl rfl rfl ?_; intro a567 hE568; clear hE561
           refine q_step (v := .bool (!(decide ((gS 3 0 ap 0) = 8)))) hE568 (y_not rfl) rfl rfl rfl ?_; intro a569 hE570; clear hE568
           refine q_step (v := .bool (!(decide ((gS 3 0 ap 0) = 8)))) hE570 (y_assign rfl) rfl rfl rfl ?_; intro a571 hE572; clear hE570
           refine c_nil ?_
           have hE573 := hE572.sub (L' := [(6, .bool (!(decide ((gS 3 0 ap 0) = 8))))]) ⟨rfl, trivial⟩; clear hE572
           refine p_tn ?_
           refine wp_ret ?_
           have hF : F_Model_holds_b self mp0 mp1 mp2 ap worlds = (!(decide ((gS 3 0 ap 0) = 8))) := by unfold F_Model_holds_b; (first | (rw [hO563, ht363, ht283, ht203, ht190, ht145, ht107, ht60]; first | done | rfl) | (rw [← holds_L12 mp0 mp1 mp2 ap self, hO563, ht363, ht283, ht203, ht190, ht145, ht107, ht60]; first | done | rfl) | (exfalso; omega))
           refine c_ret1 hE573 rfl rfl ?_
           exact ⟨(by rw [hF]; first | done | (dsimp only; done) | rfl), hS562.ext⟩
  ·
   refine l_alloc (z := .agg #[.int .i64 0, .int .i64 0, .int .i64 0]) (cs := #[.int .i64 0, .int .i64 0, .int .i64 0]) hS16 hE24 (fun _ => by kernel_rfl) rfl rfl ?_
   intro b574 w575 hS578 he579 a576 hE577; clear hS16 hE24
   refine ⟨fun _ _ => ⟨(RdS.rng3 (St.rdR (i := 3) hS578 rfl) (by omega) (by omega) _ (Ext.refl _)), trivial⟩, ?_⟩
   have hc586 := c_below apA ((ap).length / 3 : Nat) apC ap w575 (St.rdR (i := 3) hS578 rfl) (by omega) (hf.mono (by omega))
   refine d_only 4 (by kernel_rfl) rfl hE577 rfl (l_call (f := 172) (argv := [.slice apA ((ap).length / 3 : Nat) apC]) hE577 (fun _ => cf_below _ _) rfl rfl (by exact hc586) ?_)
   rintro _ w581 ⟨b587, c588, rfl, ho589, he585⟩ a582 hE583; clear hE577
   have hS584 := St.ownRows (rows := belowRows apA apC ap) hS578 he585 ho589 rfl (belowRows_xs _ _ _) (belowRows_ok (St.rdR (i := 3) hS578 rfl) (St.robR (i := 3) hS578 rfl) hf); clear hS578
   refine ⟨fun _ _ => ⟨(RdS.rng3 (St.rdR (i := 4) hS584 rfl) (by omega) (by omega) _ (Ext.refl _)), trivial⟩, ?_⟩
   refine d_only 6 (by kernel_rfl) rfl hE583 rfl (l_storeS (k := 1) (cs' := #[.int .i64 (gS 3 0 ap 0), .int .i64 (gS 3 1 ap 0), .int .i64 (gS 3 2 ap 0)]) hS584 hE583 (by kernel_rfl) rfl rfl (by kernel_rfl) rfl rfl ?_)
   intro w591 hS594 a592 hE593; clear hS584 hE583
   refine ⟨fun h => Bool.noConfusion (h.symm.trans (show exm _ _ _ = true by kernel_rfl)), ?_⟩
   refine d_pure (fun _ h => h) (v := .slice b587 ((F_below ap).length) c588) 7 rfl hE593 (y_assign rfl) rfl (by kernel_rfl) (by kernel_rfl) (by kernel_rfl) rfl rfl (fun _ _ _ h => h) ?_; intro a596 hE597; clear hE593
   refine d_done (by kernel_rfl) ?_
   have hE598 := hE597.sub (L' := [(2, .slice worldsA worlds.length worldsC), (3, .pointer (some ⟨b5, 0, none⟩)), (7, .pointer (some ⟨b574, 0, none⟩)), (8, .slice b587 ((F_below ap).length) c588)]) ⟨rfl, rfl, rfl, rfl, trivial⟩; clear hE597
   refine p_tn ?_
   refine c_seq ?_
   refine c_seq ?_
   refine c_reg ?_
   refine q_step (v := .pointer (some ⟨b574, 0, none⟩)) hE598 (y_field rfl (fun _ => by kernel_rfl)) rfl rfl rfl ?_; intro a599 hE600; clear hE598
   refine q_step (v := .int .i64 (gS 3 0 ap 0)) hE600 (y_load (fun _ => by kernel_rfl) rfl (St.cell (i := 1) hS594 rfl rfl)) rfl rfl rfl ?_; intro a601 hE602; clear hE600
   refine c_nil ?_
   have hE603 := hE602.sub (L' := [(2, .slice worldsA worlds.length worldsC), (3, .pointer (some ⟨b5, 0, none⟩)), (7, .pointer (some ⟨b574, 0, none⟩)), (8, .slice b587 ((F_below ap).length) c588), (18, .int .i64 (gS 3 0 ap 0))]) ⟨rfl, rfl, rfl, rfl, rfl, trivial⟩; clear hE602
   refine p_tn ?_
   refine wp_block ?_
   refine c_seq ?_
   refine c_reg ?_
   refine q_step (v := .bool (decide ((gS 3 0 ap 0) = 0))) hE603 (y_eql rfl rfl) rfl rfl rfl ?_; intro a604 hE605; clear hE603
   refine q_step (v := .bool (decide ((gS 3 0 ap 0) = 0))) hE605 (y_assign rfl) rfl rfl rfl ?_; intro a606 hE607; clear hE605
   refine c_nil ?_
   have hE608 := hE607.sub (L' := [(2, .slice worldsA worlds.length worldsC), (3, .pointer (some ⟨b5, 0, none⟩)), (7, .pointer (some ⟨b574, 0, none⟩)), (8, .slice b587 ((F_below ap).length) c588), (18, .int .i64 (gS 3 0 ap 0)), (19, .bool (decide ((gS 3 0 ap 0) = 0)))]) ⟨rfl, rfl, rfl, rfl, rfl, rfl, trivial⟩; clear hE607
   refine p_tn ?_
   refine c_cond hE608 rfl (fun ht609 => ?_) (fun ht609 => ?_)
   ·
    have hp610 := of_decide_eq_true ht609
    have hE611 := hE608; rw [ht609] at hE611; clear hE608
    refine c_seq ?_
    refine d_start (fun w w' => (fun w' => w'.heap[b5]? = some (.cells #[.int .i64 mp0, .slice mp1A mp1.length mp1C, .slice mp2A mp2.length mp2C] 69 (0, 0)) ∧ w'.cell? ⟨b574, 1, none⟩ = some (.int .i64 (gS 3 1 ap 0)) ∧ w'.cell? (adr worldsA (Int.toNat (gS 3 1 ap 0))) = some (.int .i64 (gI worlds (gS 3 1 ap 0))) ∧ w'.cell? ⟨b574, 2, none⟩ = some (.int .i64 (gS 3 2 ap 0)) ∧ w'.cell? (adr worldsA (Int.toNat (gS 3 2 ap 0))) = some (.int .i64 (gI worlds (gS 3 2 ap 0))) ∧ True) w → (fun w' => w'.heap[b5]? = some (.cells #[.int .i64 mp0, .slice mp1A mp1.length mp1C, .slice mp2A mp2.length mp2C] 69 (0, 0)) ∧ w'.cell? ⟨b574, 1, none⟩ = some (.int .i64 (gS 3 1 ap 0)) ∧ w'.cell? (adr worldsA (Int.toNat (gS 3 1 ap 0))) = some (.int .i64 (gI worlds (gS 3 1 ap 0))) ∧ w'.cell? ⟨b574, 2, none⟩ = some (.int .i64 (gS 3 2 ap 0)) ∧ w'.cell? (adr worldsA (Int.toNat (gS 3 2 ap 0))) = some (.int .i64 (gI worlds (gS 3 2 ap 0))) ∧ True) w') [1, 4, 6, 9, 11] 14 (by kernel_rfl) rfl ?_
    intro w612 he613; have hS614 := St.go hS594 he613; clear hS594
    refine d_pure (fun _ h => h) (v := .pointer (some ⟨b5, 0, none⟩)) 0 rfl hE611 (y_field rfl (fun _ => by kernel_rfl)) rfl (by kernel_rfl) (by kernel_rfl) (by kernel_rfl) rfl rfl (fun _ _ _ h => h) ?_; intro a615 hE616; clear hE611
    refine d_take (fun _ h => h) (fun _ _ h k => h k) (v := .agg #[.int .i64 mp0, .slice mp1A mp1.length mp1C]) 1 rfl hE616 (S := fun w' => w'.heap[b5]? = some (.cells #[.int .i64 mp0, .slice mp1A mp1.length mp1C, .slice mp2A mp2.length mp2C] 69 (0, 0)) ∧ w'.cell? ⟨b574, 1, none⟩ = some (.int .i64 (gS 3 1 ap 0)) ∧ w'.cell? (adr worldsA (Int.toNat (gS 3 1 ap 0))) = some (.int .i64 (gI worlds (gS 3 1 ap 0))) ∧ w'.cell? ⟨b574, 2, none⟩ = some (.int .i64 (gS 3 2 ap 0)) ∧ w'.cell? (adr worldsA (Int.toNat (gS 3 2 ap 0))) = some (.int .i64 (gI worlds (gS 3 2 ap 0))) ∧ True) ⟨(St.row (i := 2) hS614 rfl _ (Ext.refl _)), (St.cell (i := 1) hS614 rfl rfl _ (Ext.refl _)), (RdS.elt (St.rdR (i := 3) hS614 rfl) (by omega) (by omega) _ (Ext.refl _)), (St.cell (i := 1) hS614 rfl rfl _ (Ext.refl _)), (RdS.elt (St.rdR (i := 3) hS614 rfl) (by omega) (by omega) _ (Ext.refl _)), trivial⟩ (y_loadP Try.underlying57 rfl (by kernel_rfl) rfl rfl (fun _ h => h.1)) rfl rfl (by kernel_rfl) (by kernel_rfl) (by kernel_rfl) (by kernel_rfl) rfl rfl (fun _ _ _ h => h) ?_; intro a617 hE618; clear hE616
    refine d_pure (fun _ h => h) (v := .slice worldsA worlds.length worldsC) 2 rfl hE618 (y_move rfl) rfl (by kernel_rfl) (by kernel_rfl) (by kernel_rfl) rfl rfl (fun _ _ _ h => h) ?_; intro a619 hE620; clear hE618
    refine d_pure (fun _ h => h) (v := .pointer (some ⟨b574, 1, none⟩)) 3 rfl hE620 (y_field rfl (fun _ => by kernel_rfl)) rfl (by kernel_rfl) (by kernel_rfl) (by kernel_rfl) rfl rfl (fun _ _ _ h => h) ?_; intro a621 hE622; clear hE620
    refine d_take (fun _ h => h) (fun _ _ h k => h k) (v := .int .i64 (gS 3 1 ap 0)) 4 rfl hE622 (S := fun w' => w'.heap[b5]? = some (.cells #[.int .i64 mp0, .slice mp1A mp1.length mp1C, .slice mp2A mp2.length mp2C] 69 (0, 0)) ∧ w'.cell? ⟨b574, 1, none⟩ = some (.int .i64 (gS 3 1 ap 0)) ∧ w'.cell? (adr worldsA (Int.toNat (gS 3 1 ap 0))) = some (.int .i64 (gI worlds (gS 3 1 ap 0))) ∧ w'.cell? ⟨b574, 2, none⟩ = some (.int .i64 (gS 3 2 ap 0)) ∧ w'.cell? (adr worldsA (Int.toNat (gS 3 2 ap 0))) = some (.int .i64 (gI worlds (gS 3 2 ap 0))) ∧ True) ⟨(St.row (i := 2) hS614 rfl _ (Ext.refl _)), (St.cell (i := 1) hS614 rfl rfl _ (Ext.refl _)), (RdS.elt (St.rdR (i := 3) hS614 rfl) (by omega) (by omega) _ (Ext.refl _)), (St.cell (i := 1) hS614 rfl rfl _ (Ext.refl _)), (RdS.elt (St.rdR (i := 3) hS614 rfl) (by omega) (by omega) _ (Ext.refl _)), trivial⟩ (y_load (fun _ => by kernel_rfl) rfl (fun _ h => h.2.1)) rfl rfl (by kernel_rfl) (by kernel_rfl) (by kernel_rfl) (by kernel_rfl) rfl rfl (fun _ _ _ h => h) ?_; intro a623 hE624; clear hE622
    refine d_pure (fun _ h => h) (v := .pointer (some (adr worldsA (Int.toNat (gS 3 1 ap 0))))) 5 rfl hE624 (y_idx (by kernel_rfl) (fun _ => by kernel_rfl) rfl rfl (RdS.isS (m := gS 3 1 ap 0) (St.rdR (i := 3) hS614 rfl) (by omega) (by omega)) (by omega) (by omega) (Nat.mul_one _).symm) rfl (by kernel_rfl) (by kernel_rfl) (by kernel_rfl) rfl rfl (fun _ _ _ h => h) ?_; intro a625 hE626; clear hE624
    refine d_take (fun _ h => h) (fun _ _ h k => h k) (v := .int .i64 (gI worlds (gS 3 1 ap 0))) 6 rfl hE626 (S := fun w' => w'.heap[b5]? = some (.cells #[.int .i64 mp0, .slice mp1A mp1.length mp1C, .slice mp2A mp2.length mp2C] 69 (0, 0)) ∧ w'.cell? ⟨b574, 1, none⟩ = some (.int .i64 (gS 3 1 ap 0)) ∧ w'.cell? (adr worldsA (Int.toNat (gS 3 1 ap 0))) = some (.int .i64 (gI worlds (gS 3 1 ap 0))) ∧ w'.cell? ⟨b574, 2, none⟩ = some (.int .i64 (gS 3 2 ap 0)) ∧ w'.cell? (adr worldsA (Int.toNat (gS 3 2 ap 0))) = some (.int .i64 (gI worlds (gS 3 2 ap 0))) ∧ True) ⟨(St.row (i := 2) hS614 rfl _ (Ext.refl _)), (St.cell (i := 1) hS614 rfl rfl _ (Ext.refl _)), (RdS.elt (St.rdR (i := 3) hS614 rfl) (by omega) (by omega) _ (Ext.refl _)), (St.cell (i := 1) hS614 rfl rfl _ (Ext.refl _)), (RdS.elt (St.rdR (i := 3) hS614 rfl) (by omega) (by omega) _ (Ext.refl _)), trivial⟩ (y_load (fun _ => by kernel_rfl) rfl (fun _ h => h.2.2.1)) rfl rfl (by kernel_rfl) (by kernel_rfl) (by kernel_rfl) (by kernel_rfl) rfl rfl (fun _ _ _ h => h) ?_; intro a627 hE628; clear hE626
    refine d_pure (fun _ h => h) (v := .slice worldsA worlds.length worldsC) 7 rfl hE628 (y_move rfl) rfl (by kernel_rfl) (by kernel_rfl) (by kernel_rfl) rfl rfl (fun _ _ _ h => h) ?_; intro a629 hE630; clear hE628
    refine d_pure (fun _ h => h) (v := .pointer (some ⟨b574, 2, none⟩)) 8 rfl hE630 (y_field rfl (fun _ => by kernel_rfl)) rfl (by kernel_rfl) (by kernel_rfl) (by kernel_rfl) rfl rfl (fun _ _ _ h => h) ?_; intro a631 hE632; clear hE630
    refine d_take (fun _ h => h) (fun _ _ h k => h k) (v := .int .i64 (gS 3 2 ap 0)) 9 rfl hE632 (S := fun w' => w'.heap[b5]? = some (.cells #[.int .i64 mp0, .slice mp1A mp1.length mp1C, .slice mp2A mp2.length mp2C] 69 (0, 0)) ∧ w'.cell? ⟨b574, 1, none⟩ = some (.int .i64 (gS 3 1 ap 0)) ∧ w'.cell? (adr worldsA (Int.toNat (gS 3 1 ap 0))) = some (.int .i64 (gI worlds (gS 3 1 ap 0))) ∧ w'.cell? ⟨b574, 2, none⟩ = some (.int .i64 (gS 3 2 ap 0)) ∧ w'.cell? (adr worldsA (Int.toNat (gS 3 2 ap 0))) = some (.int .i64 (gI worlds (gS 3 2 ap 0))) ∧ True) ⟨(St.row (i := 2) hS614 rfl _ (Ext.refl _)), (St.cell (i := 1) hS614 rfl rfl _ (Ext.refl _)), (RdS.elt (St.rdR (i := 3) hS614 rfl) (by omega) (by omega) _ (Ext.refl _)), (St.cell (i := 1) hS614 rfl rfl _ (Ext.refl _)), (RdS.elt (St.rdR (i := 3) hS614 rfl) (by omega) (by omega) _ (Ext.refl _)), trivial⟩ (y_load (fun _ => by kernel_rfl) rfl (fun _ h => h.2.2.2.1)) rfl rfl (by kernel_rfl) (by kernel_rfl) (by kernel_rfl) (by kernel_rfl) rfl rfl (fun _ _ _ h => h) ?_; intro a633 hE634; clear hE632
    refine d_pure (fun _ h => h) (v := .pointer (some (adr worldsA (Int.toNat (gS 3 2 ap 0))))) 10 rfl hE634 (y_idx (by kernel_rfl) (fun _ => by kernel_rfl) rfl rfl (RdS.isS (m := gS 3 2 ap 0) (St.rdR (i := 3) hS614 rfl) (by omega) (by omega)) (by omega) (by omega) (Nat.mul_one _).symm) rfl (by kernel_rfl) (by kernel_rfl) (by kernel_rfl) rfl rfl (fun _ _ _ h => h) ?_; intro a635 hE636; clear hE634
    refine d_take (fun _ h => h) (fun _ _ h k => h k) (v := .int .i64 (gI worlds (gS 3 2 ap 0))) 11 rfl hE636 (S := fun w' => w'.heap[b5]? = some (.cells #[.int .i64 mp0, .slice mp1A mp1.length mp1C, .slice mp2A mp2.length mp2C] 69 (0, 0)) ∧ w'.cell? ⟨b574, 1, none⟩ = some (.int .i64 (gS 3 1 ap 0)) ∧ w'.cell? (adr worldsA (Int.toNat (gS 3 1 ap 0))) = some (.int .i64 (gI worlds (gS 3 1 ap 0))) ∧ w'.cell? ⟨b574, 2, none⟩ = some (.int .i64 (gS 3 2 ap 0)) ∧ w'.cell? (adr worldsA (Int.toNat (gS 3 2 ap 0))) = some (.int .i64 (gI worlds (gS 3 2 ap 0))) ∧ True) ⟨(St.row (i := 2) hS614 rfl _ (Ext.refl _)), (St.cell (i := 1) hS614 rfl rfl _ (Ext.refl _)), (RdS.elt (St.rdR (i := 3) hS614 rfl) (by omega) (by omega) _ (Ext.refl _)), (St.cell (i := 1) hS614 rfl rfl _ (Ext.refl _)), (RdS.elt (St.rdR (i := 3) hS614 rfl) (by omega) (by omega) _ (Ext.refl _)), trivial⟩ (y_load (fun _ => by kernel_rfl) rfl (fun _ h => h.2.2.2.2.1)) rfl rfl (by kernel_rfl) (by kernel_rfl) (by kernel_rfl) (by kernel_rfl) rfl rfl (fun _ _ _ h => h) ?_; intro a637 hE638; clear hE636
    have hc645 := c_Frame_sees mp0 mp1A mp1.length mp1C mp1 (gI worlds (gS 3 1 ap 0)) (gI worlds (gS 3 2 ap 0)) w612 (St.rdR (i := 6) hS614 rfl) (by omega) (by omega)
    refine d_only 12 (by kernel_rfl) rfl hE638 rfl (l_call (f := 176) (argv := [.agg #[.int .i64 mp0, .slice mp1A mp1.length mp1C], .int .i64 (gI worlds (gS 3 1 ap 0)), .int .i64 (gI worlds (gS 3 2 ap 0))]) hE638 (fun _ => cf_Frame_sees _ _) rfl rfl (by exact hc645) ?_)
    rintro _ w640 ⟨rfl, he644⟩ a641 hE642; clear hE638
    have hS643 := St.go hS614 he644; clear hS614
    refine ⟨fun h => Bool.noConfusion (h.symm.trans (show exm _ _ _ = true by kernel_rfl)), ?_⟩
    refine d_pure (fun _ h => h) (v := .bool (F_Frame_sees mp0 mp1 (gI worlds (gS 3 1 ap 0)) (gI worlds (gS 3 2 ap 0)))) 13 rfl hE642 (y_assign rfl) rfl (by kernel_rfl) (by kernel_rfl) (by kernel_rfl) rfl rfl (fun _ _ _ h => h) ?_; intro a646 hE647; clear hE642
    refine d_done (by kernel_rfl) ?_
    have hE648 := hE647.sub (L' := [(6, .bool (F_Frame_sees mp0 mp1 (gI worlds (gS 3 1 ap 0)) (gI worlds (gS 3 2 ap 0))))]) ⟨rfl, trivial⟩; clear hE647
    refine p_tn ?_
    refine wp_ret ?_
    refine p_br ?_
    refine p_tr ?_
    have hF : F_Model_holds_b self mp0 mp1 mp2 ap worlds = F_Frame_sees mp0 mp1 (gI worlds (gS 3 1 ap 0)) (gI worlds (gS 3 2 ap 0)) := by unfold F_Model_holds_b; (first | (rw [ht609]; first | done | rfl) | (rw [← holds_L12 mp0 mp1 mp2 ap self, ht609]; first | done | rfl) | (exfalso; omega))
    refine c_ret1 hE648 rfl rfl ?_
    exact ⟨(by rw [hF]; first | done | (dsimp only; done) | rfl), hS643.ext⟩
   ·
    have hp649 := of_decide_eq_false ht609
    have hE650 := hE608; rw [ht609] at hE650; clear hE608
    refine c_seq ?_
    refine c_reg ?_
    refine q_step (v := .bool (decide ((gS 3 0 ap 0) = 1))) hE650 (y_eql rfl rfl) rfl rfl rfl ?_; intro a651 hE652; clear hE650
    refine q_step (v := .bool (decide ((gS 3 0 ap 0) = 1))) hE652 (y_assign rfl) rfl rfl rfl ?_; intro a653 hE654; clear hE652
    refine c_nil ?_
    have hE655 := hE654.sub (L' := [(2, .slice worldsA worlds.length worldsC), (3, .pointer (some ⟨b5, 0, none⟩)), (7, .pointer (some ⟨b574, 0, none⟩)), (8, .slice b587 ((F_below ap).length) c588), (18, .int .i64 (gS 3 0 ap 0)), (34, .bool (decide ((gS 3 0 ap 0) = 1)))]) ⟨rfl, rfl, rfl, rfl, rfl, rfl, trivial⟩; clear hE654
    refine p_tn ?_
    refine c_cond hE655 rfl (fun ht656 => ?_) (fun ht656 => ?_)
    ·
     have hp657 := of_decide_eq_true ht656
     have hE658 := hE655; rw [ht656] at hE658; clear hE655
     refine c_seq ?_
     refine d_start (fun w w' => (fun w' => w'.cell? ⟨b574, 1, none⟩ = some (.int .i64 (gS 3 1 ap 0)) ∧ w'.cell? (adr worldsA (Int.toNat (gS 3 1 ap 0))) = some (.int .i64 (gI worlds (gS 3 1 ap 0))) ∧ w'.cell? ⟨b574, 2, none⟩ = some (.int .i64 (gS 3 2 ap 0)) ∧ w'.cell? (adr worldsA (Int.toNat (gS 3 2 ap 0))) = some (.int .i64 (gI worlds (gS 3 2 ap 0))) ∧ True) w → (fun w' => w'.cell? ⟨b574, 1, none⟩ = some (.int .i64 (gS 3 1 ap 0)) ∧ w'.cell? (adr worldsA (Int.toNat (gS 3 1 ap 0))) = some (.int .i64 (gI worlds (gS 3 1 ap 0))) ∧ w'.cell? ⟨b574, 2, none⟩ = some (.int .i64 (gS 3 2 ap 0)) ∧ w'.cell? (adr worldsA (Int.toNat (gS 3 2 ap 0))) = some (.int .i64 (gI worlds (gS 3 2 ap 0))) ∧ True) w') [2, 4, 7, 9] 12 (by kernel_rfl) rfl ?_
     intro w659 he660; have hS661 := St.go hS594 he660; clear hS594
     refine d_pure (fun _ h => h) (v := .slice worldsA worlds.length worldsC) 0 rfl hE658 (y_move rfl) rfl (by kernel_rfl) (by kernel_rfl) (by kernel_rfl) rfl rfl (fun _ _ _ h => h) ?_; intro a662 hE663; clear hE658
     refine d_pure (fun _ h => h) (v := .pointer (some ⟨b574, 1, none⟩)) 1 rfl hE663 (y_field rfl (fun _ => by kernel_rfl)) rfl (by kernel_rfl) (by kernel_rfl) (by kernel_rfl) rfl rfl (fun _ _ _ h => h) ?_; intro a664 hE665; clear hE663
     refine d_take (fun _ h => h) (fun _ _ h k => h k) (v := .int .i64 (gS 3 1 ap 0)) 2 rfl hE665 (S := fun w' => w'.cell? ⟨b574, 1, none⟩ = some (.int .i64 (gS 3 1 ap 0)) ∧ w'.cell? (adr worldsA (Int.toNat (gS 3 1 ap 0))) = some (.int .i64 (gI worlds (gS 3 1 ap 0))) ∧ w'.cell? ⟨b574, 2, none⟩ = some (.int .i64 (gS 3 2 ap 0)) ∧ w'.cell? (adr worldsA (Int.toNat (gS 3 2 ap 0))) = some (.int .i64 (gI worlds (gS 3 2 ap 0))) ∧ True) ⟨(St.cell (i := 1) hS661 rfl rfl _ (Ext.refl _)), (RdS.elt (St.rdR (i := 3) hS661 rfl) (by omega) (by omega) _ (Ext.refl _)), (St.cell (i := 1) hS661 rfl rfl _ (Ext.refl _)), (RdS.elt (St.rdR (i := 3) hS661 rfl) (by omega) (by omega) _ (Ext.refl _)), trivial⟩ (y_load (fun _ => by kernel_rfl) rfl (fun _ h => h.1)) rfl rfl (by kernel_rfl) (by kernel_rfl) (by kernel_rfl) (by kernel_rfl) rfl rfl (fun _ _ _ h => h) ?_; intro a666 hE667; clear hE665
     refine d_pure (fun _ h => h) (v := .pointer (some (adr worldsA (Int.toNat (gS 3 1 ap 0))))) 3 rfl hE667 (y_idx (by kernel_rfl) (fun _ => by kernel_rfl) rfl rfl (RdS.isS (m := gS 3 1 ap 0) (St.rdR (i := 3) hS661 rfl) (by omega) (by omega)) (by omega) (by omega) (Nat.mul_one _).symm) rfl (by kernel_rfl) (by kernel_rfl) (by kernel_rfl) rfl rfl (fun _ _ _ h => h) ?_; intro a668 hE669; clear hE667
     refine d_take (fun _ h => h) (fun _ _ h k => h k) (v := .int .i64 (gI worlds (gS 3 1 ap 0))) 4 rfl hE669 (S := fun w' => w'.cell? ⟨b574, 1, none⟩ = some (.int .i64 (gS 3 1 ap 0)) ∧ w'.cell? (adr worldsA (Int.toNat (gS 3 1 ap 0))) = some (.int .i64 (gI worlds (gS 3 1 ap 0))) ∧ w'.cell? ⟨b574, 2, none⟩ = some (.int .i64 (gS 3 2 ap 0)) ∧ w'.cell? (adr worldsA (Int.toNat (gS 3 2 ap 0))) = some (.int .i64 (gI worlds (gS 3 2 ap 0))) ∧ True) ⟨(St.cell (i := 1) hS661 rfl rfl _ (Ext.refl _)), (RdS.elt (St.rdR (i := 3) hS661 rfl) (by omega) (by omega) _ (Ext.refl _)), (St.cell (i := 1) hS661 rfl rfl _ (Ext.refl _)), (RdS.elt (St.rdR (i := 3) hS661 rfl) (by omega) (by omega) _ (Ext.refl _)), trivial⟩ (y_load (fun _ => by kernel_rfl) rfl (fun _ h => h.2.1)) rfl rfl (by kernel_rfl) (by kernel_rfl) (by kernel_rfl) (by kernel_rfl) rfl rfl (fun _ _ _ h => h) ?_; intro a670 hE671; clear hE669
     refine d_pure (fun _ h => h) (v := .slice worldsA worlds.length worldsC) 5 rfl hE671 (y_move rfl) rfl (by kernel_rfl) (by kernel_rfl) (by kernel_rfl) rfl rfl (fun _ _ _ h => h) ?_; intro a672 hE673; clear hE671
     refine d_pure (fun _ h => h) (v := .pointer (some ⟨b574, 2, none⟩)) 6 rfl hE673 (y_field rfl (fun _ => by kernel_rfl)) rfl (by kernel_rfl) (by kernel_rfl) (by kernel_rfl) rfl rfl (fun _ _ _ h => h) ?_; intro a674 hE675; clear hE673
     refine d_take (fun _ h => h) (fun _ _ h k => h k) (v := .int .i64 (gS 3 2 ap 0)) 7 rfl hE675 (S := fun w' => w'.cell? ⟨b574, 1, none⟩ = some (.int .i64 (gS 3 1 ap 0)) ∧ w'.cell? (adr worldsA (Int.toNat (gS 3 1 ap 0))) = some (.int .i64 (gI worlds (gS 3 1 ap 0))) ∧ w'.cell? ⟨b574, 2, none⟩ = some (.int .i64 (gS 3 2 ap 0)) ∧ w'.cell? (adr worldsA (Int.toNat (gS 3 2 ap 0))) = some (.int .i64 (gI worlds (gS 3 2 ap 0))) ∧ True) ⟨(St.cell (i := 1) hS661 rfl rfl _ (Ext.refl _)), (RdS.elt (St.rdR (i := 3) hS661 rfl) (by omega) (by omega) _ (Ext.refl _)), (St.cell (i := 1) hS661 rfl rfl _ (Ext.refl _)), (RdS.elt (St.rdR (i := 3) hS661 rfl) (by omega) (by omega) _ (Ext.refl _)), trivial⟩ (y_load (fun _ => by kernel_rfl) rfl (fun _ h => h.2.2.1)) rfl rfl (by kernel_rfl) (by kernel_rfl) (by kernel_rfl) (by kernel_rfl) rfl rfl (fun _ _ _ h => h) ?_; intro a676 hE677; clear hE675
     refine d_pure (fun _ h => h) (v := .pointer (some (adr worldsA (Int.toNat (gS 3 2 ap 0))))) 8 rfl hE677 (y_idx (by kernel_rfl) (fun _ => by kernel_rfl) rfl rfl (RdS.isS (m := gS 3 2 ap 0) (St.rdR (i := 3) hS661 rfl) (by omega) (by omega)) (by omega) (by omega) (Nat.mul_one _).symm) rfl (by kernel_rfl) (by kernel_rfl) (by kernel_rfl) rfl rfl (fun _ _ _ h => h) ?_; intro a678 hE679; clear hE677
     refine d_take (fun _ h => h) (fun _ _ h k => h k) (v := .int .i64 (gI worlds (gS 3 2 ap 0))) 9 rfl hE679 (S := fun w' => w'.cell? ⟨b574, 1, none⟩ = some (.int .i64 (gS 3 1 ap 0)) ∧ w'.cell? (adr worldsA (Int.toNat (gS 3 1 ap 0))) = some (.int .i64 (gI worlds (gS 3 1 ap 0))) ∧ w'.cell? ⟨b574, 2, none⟩ = some (.int .i64 (gS 3 2 ap 0)) ∧ w'.cell? (adr worldsA (Int.toNat (gS 3 2 ap 0))) = some (.int .i64 (gI worlds (gS 3 2 ap 0))) ∧ True) ⟨(St.cell (i := 1) hS661 rfl rfl _ (Ext.refl _)), (RdS.elt (St.rdR (i := 3) hS661 rfl) (by omega) (by omega) _ (Ext.refl _)), (St.cell (i := 1) hS661 rfl rfl _ (Ext.refl _)), (RdS.elt (St.rdR (i := 3) hS661 rfl) (by omega) (by omega) _ (Ext.refl _)), trivial⟩ (y_load (fun _ => by kernel_rfl) rfl (fun _ h => h.2.2.2.1)) rfl rfl (by kernel_rfl) (by kernel_rfl) (by kernel_rfl) (by kernel_rfl) rfl rfl (fun _ _ _ h => h) ?_; intro a680 hE681; clear hE679
     refine d_pure (fun _ h => h) (v := .bool (decide ((gI worlds (gS 3 1 ap 0)) = (gI worlds (gS 3 2 ap 0))))) 10 rfl hE681 (y_eql rfl rfl) rfl (by kernel_rfl) (by kernel_rfl) (by kernel_rfl) rfl rfl (fun _ _ _ h => h) ?_; intro a682 hE683; clear hE681
     refine d_pure (fun _ h => h) (v := .bool (decide ((gI worlds (gS 3 1 ap 0)) = (gI worlds (gS 3 2 ap 0))))) 11 rfl hE683 (y_assign rfl) rfl (by kernel_rfl) (by kernel_rfl) (by kernel_rfl) rfl rfl (fun _ _ _ h => h) ?_; intro a684 hE685; clear hE683
     refine d_done (by kernel_rfl) ?_
     have hE686 := hE685.sub (L' := [(6, .bool (decide ((gI worlds (gS 3 1 ap 0)) = (gI worlds (gS 3 2 ap 0)))))]) ⟨rfl, trivial⟩; clear hE685
     refine p_tn ?_
     refine wp_ret ?_
     refine p_br ?_
     refine p_tr ?_
     have hF : F_Model_holds_b self mp0 mp1 mp2 ap worlds = decide ((gI worlds (gS 3 1 ap 0)) = (gI worlds (gS 3 2 ap 0))) := by unfold F_Model_holds_b; (first | (rw [ht656, ht609]; first | done | rfl) | (rw [← holds_L12 mp0 mp1 mp2 ap self, ht656, ht609]; first | done | rfl) | (exfalso; omega))
     refine c_ret1 hE686 rfl rfl ?_
     exact ⟨(by rw [hF]; first | done | (dsimp only; done) | rfl), hS661.ext⟩
    ·
     have hp687 := of_decide_eq_false ht656
     have hE688 := hE655; rw [ht656] at hE688; clear hE655
     refine c_seq ?_
     refine c_reg ?_
     refine q_step (v := .bool (decide ((gS 3 0 ap 0) = 2))) hE688 (y_eql rfl rfl) rfl rfl rfl ?_; intro a689 hE690; clear hE688
     refine q_step (v := .bool (decide ((gS 3 0 ap 0) = 2))) hE690 (y_assign rfl) rfl rfl rfl ?_; intro a691 hE692; clear hE690
     refine c_nil ?_
     have hE693 := hE692.sub (L' := [(2, .slice worldsA worlds.length worldsC), (3, .pointer (some ⟨b5, 0, none⟩)), (7, .pointer (some ⟨b574, 0, none⟩)), (8, .slice b587 ((F_below ap).length) c588), (18, .int .i64 (gS 3 0 ap 0)), (47, .bool (decide ((gS 3 0 ap 0) = 2)))]) ⟨rfl, rfl, rfl, rfl, rfl, rfl, trivial⟩; clear hE692
     refine p_tn ?_
     refine c_cond hE693 rfl (fun ht694 => ?_) (fun ht694 => ?_)
     ·
      have hp695 := of_decide_eq_true ht694
      have hE696 := hE693; rw [ht694] at hE696; clear hE693
      refine c_seq ?_
      refine d_start (fun w w' => (fun w' => w'.cell? ⟨b5, 2, none⟩ = some (.slice mp2A mp2.length mp2C) ∧ w'.cell? ⟨b574, 1, none⟩ = some (.int .i64 (gS 3 1 ap 0)) ∧ w'.cell? (adr mp2A (Int.toNat (gS 3 1 ap 0))) = some (.int .i64 (gI mp2 (gS 3 1 ap 0))) ∧ w'.cell? ⟨b574, 2, none⟩ = some (.int .i64 (gS 3 2 ap 0)) ∧ w'.cell? (adr worldsA (Int.toNat (gS 3 2 ap 0))) = some (.int .i64 (gI worlds (gS 3 2 ap 0))) ∧ True) w → (fun w' => w'.cell? ⟨b5, 2, none⟩ = some (.slice mp2A mp2.length mp2C) ∧ w'.cell? ⟨b574, 1, none⟩ = some (.int .i64 (gS 3 1 ap 0)) ∧ w'.cell? (adr mp2A (Int.toNat (gS 3 1 ap 0))) = some (.int .i64 (gI mp2 (gS 3 1 ap 0))) ∧ w'.cell? ⟨b574, 2, none⟩ = some (.int .i64 (gS 3 2 ap 0)) ∧ w'.cell? (adr worldsA (Int.toNat (gS 3 2 ap 0))) = some (.int .i64 (gI worlds (gS 3 2 ap 0))) ∧ True) w') [1, 3, 5, 8, 10] 13 (by kernel_rfl) rfl ?_
      intro w697 he698; have hS699 := St.go hS594 he698; clear hS594
      refine d_pure (fun _ h => h) (v := .pointer (some ⟨b5, 2, none⟩)) 0 rfl hE696 (y_field rfl (fun _ => by kernel_rfl)) rfl (by kernel_rfl) (by kernel_rfl) (by kernel_rfl) rfl rfl (fun _ _ _ h => h) ?_; intro a700 hE701; clear hE696
      refine d_take (fun _ h => h) (fun _ _ h k => h k) (v := .slice mp2A mp2.length mp2C) 1 rfl hE701 (S := fun w' => w'.cell? ⟨b5, 2, none⟩ = some (.slice mp2A mp2.length mp2C) ∧ w'.cell? ⟨b574, 1, none⟩ = some (.int .i64 (gS 3 1 ap 0)) ∧ w'.cell? (adr mp2A (Int.toNat (gS 3 1 ap 0))) = some (.int .i64 (gI mp2 (gS 3 1 ap 0))) ∧ w'.cell? ⟨b574, 2, none⟩ = some (.int .i64 (gS 3 2 ap 0)) ∧ w'.cell? (adr worldsA (Int.toNat (gS 3 2 ap 0))) = some (.int .i64 (gI worlds (gS 3 2 ap 0))) ∧ True) ⟨(St.cell (i := 2) hS699 rfl rfl _ (Ext.refl _)), (St.cell (i := 1) hS699 rfl rfl _ (Ext.refl _)), (RdS.elt (St.rdR (i := 5) hS699 rfl) (by omega) (by omega) _ (Ext.refl _)), (St.cell (i := 1) hS699 rfl rfl _ (Ext.refl _)), (RdS.elt (St.rdR (i := 3) hS699 rfl) (by omega) (by omega) _ (Ext.refl _)), trivial⟩ (y_load (fun _ => by kernel_rfl) rfl (fun _ h => h.1)) rfl rfl (by kernel_rfl) (by kernel_rfl) (by kernel_rfl) (by kernel_rfl) rfl rfl (fun _ _ _ h => h) ?_; intro a702 hE703; clear hE701
      refine d_pure (fun _ h => h) (v := .pointer (some ⟨b574, 1, none⟩)) 2 rfl hE703 (y_field rfl (fun _ => by kernel_rfl)) rfl (by kernel_rfl) (by kernel_rfl) (by kernel_rfl) rfl rfl (fun _ _ _ h => h) ?_; intro a704 hE705; clear hE703
      refine d_take (fun _ h => h) (fun _ _ h k => h k) (v := .int .i64 (gS 3 1 ap 0)) 3 rfl hE705 (S := fun w' => w'.cell? ⟨b5, 2, none⟩ = some (.slice mp2A mp2.length mp2C) ∧ w'.cell? ⟨b574, 1, none⟩ = some (.int .i64 (gS 3 1 ap 0)) ∧ w'.cell? (adr mp2A (Int.toNat (gS 3 1 ap 0))) = some (.int .i64 (gI mp2 (gS 3 1 ap 0))) ∧ w'.cell? ⟨b574, 2, none⟩ = some (.int .i64 (gS 3 2 ap 0)) ∧ w'.cell? (adr worldsA (Int.toNat (gS 3 2 ap 0))) = some (.int .i64 (gI worlds (gS 3 2 ap 0))) ∧ True) ⟨(St.cell (i := 2) hS699 rfl rfl _ (Ext.refl _)), (St.cell (i := 1) hS699 rfl rfl _ (Ext.refl _)), (RdS.elt (St.rdR (i := 5) hS699 rfl) (by omega) (by omega) _ (Ext.refl _)), (St.cell (i := 1) hS699 rfl rfl _ (Ext.refl _)), (RdS.elt (St.rdR (i := 3) hS699 rfl) (by omega) (by omega) _ (Ext.refl _)), trivial⟩ (y_load (fun _ => by kernel_rfl) rfl (fun _ h => h.2.1)) rfl rfl (by kernel_rfl) (by kernel_rfl) (by kernel_rfl) (by kernel_rfl) rfl rfl (fun _ _ _ h => h) ?_; intro a706 hE707; clear hE705
      refine d_pure (fun _ h => h) (v := .pointer (some (adr mp2A (Int.toNat (gS 3 1 ap 0))))) 4 rfl hE707 (y_idx (by kernel_rfl) (fun _ => by kernel_rfl) rfl rfl (RdS.isS (m := gS 3 1 ap 0) (St.rdR (i := 5) hS699 rfl) (by omega) (by omega)) (by omega) (by omega) (Nat.mul_one _).symm) rfl (by kernel_rfl) (by kernel_rfl) (by kernel_rfl) rfl rfl (fun _ _ _ h => h) ?_; intro a708 hE709; clear hE707
      refine d_take (fun _ h => h) (fun _ _ h k => h k) (v := .int .i64 (gI mp2 (gS 3 1 ap 0))) 5 rfl hE709 (S := fun w' => w'.cell? ⟨b5, 2, none⟩ = some (.slice mp2A mp2.length mp2C) ∧ w'.cell? ⟨b574, 1, none⟩ = some (.int .i64 (gS 3 1 ap 0)) ∧ w'.cell? (adr mp2A (Int.toNat (gS 3 1 ap 0))) = some (.int .i64 (gI mp2 (gS 3 1 ap 0))) ∧ w'.cell? ⟨b574, 2, none⟩ = some (.int .i64 (gS 3 2 ap 0)) ∧ w'.cell? (adr worldsA (Int.toNat (gS 3 2 ap 0))) = some (.int .i64 (gI worlds (gS 3 2 ap 0))) ∧ True) ⟨(St.cell (i := 2) hS699 rfl rfl _ (Ext.refl _)), (St.cell (i := 1) hS699 rfl rfl _ (Ext.refl _)), (RdS.elt (St.rdR (i := 5) hS699 rfl) (by omega) (by omega) _ (Ext.refl _)), (St.cell (i := 1) hS699 rfl rfl _ (Ext.refl _)), (RdS.elt (St.rdR (i := 3) hS699 rfl) (by omega) (by omega) _ (Ext.refl _)), trivial⟩ (y_load (fun _ => by kernel_rfl) rfl (fun _ h => h.2.2.1)) rfl rfl (by kernel_rfl) (by kernel_rfl) (by kernel_rfl) (by kernel_rfl) rfl rfl (fun _ _ _ h => h) ?_; intro a710 hE711; clear hE709
      refine d_pure (fun _ h => h) (v := .slice worldsA worlds.length worldsC) 6 rfl hE711 (y_move rfl) rfl (by kernel_rfl) (by kernel_rfl) (by kernel_rfl) rfl rfl (fun _ _ _ h => h) ?_; intro a712 hE713; clear hE711
      refine d_pure (fun _ h => h) (v := .pointer (some ⟨b574, 2, none⟩)) 7 rfl hE713 (y_field rfl (fun _ => by kernel_rfl)) rfl (by kernel_rfl) (by kernel_rfl) (by kernel_rfl) rfl rfl (fun _ _ _ h => h) ?_; intro a714 hE715; clear hE713
      refine d_take (fun _ h => h) (fun _ _ h k => h k) (v := .int .i64 (gS 3 2 ap 0)) 8 rfl hE715 (S := fun w' => w'.cell? ⟨b5, 2, none⟩ = some (.slice mp2A mp2.length mp2C) ∧ w'.cell? ⟨b574, 1, none⟩ = some (.int .i64 (gS 3 1 ap 0)) ∧ w'.cell? (adr mp2A (Int.toNat (gS 3 1 ap 0))) = some (.int .i64 (gI mp2 (gS 3 1 ap 0))) ∧ w'.cell? ⟨b574, 2, none⟩ = some (.int .i64 (gS 3 2 ap 0)) ∧ w'.cell? (adr worldsA (Int.toNat (gS 3 2 ap 0))) = some (.int .i64 (gI worlds (gS 3 2 ap 0))) ∧ True) ⟨(St.cell (i := 2) hS699 rfl rfl _ (Ext.refl _)), (St.cell (i := 1) hS699 rfl rfl _ (Ext.refl _)), (RdS.elt (St.rdR (i := 5) hS699 rfl) (by omega) (by omega) _ (Ext.refl _)), (St.cell (i := 1) hS699 rfl rfl _ (Ext.refl _)), (RdS.elt (St.rdR (i := 3) hS699 rfl) (by omega) (by omega) _ (Ext.refl _)), trivial⟩ (y_load (fun _ => by kernel_rfl) rfl (fun _ h => h.2.2.2.1)) rfl rfl (by kernel_rfl) (by kernel_rfl) (by kernel_rfl) (by kernel_rfl) rfl rfl (fun _ _ _ h => h) ?_; intro a716 hE717; clear hE715
      refine d_pure (fun _ h => h) (v := .pointer (some (adr worldsA (Int.toNat (gS 3 2 ap 0))))) 9 rfl hE717 (y_idx (by kernel_rfl) (fun _ => by kernel_rfl) rfl rfl (RdS.isS (m := gS 3 2 ap 0) (St.rdR (i := 3) hS699 rfl) (by omega) (by omega)) (by omega) (by omega) (Nat.mul_one _).symm) rfl (by kernel_rfl) (by kernel_rfl) (by kernel_rfl) rfl rfl (fun _ _ _ h => h) ?_; intro a718 hE719; clear hE717
      refine d_take (fun _ h => h) (fun _ _ h k => h k) (v := .int .i64 (gI worlds (gS 3 2 ap 0))) 10 rfl hE719 (S := fun w' => w'.cell? ⟨b5, 2, none⟩ = some (.slice mp2A mp2.length mp2C) ∧ w'.cell? ⟨b574, 1, none⟩ = some (.int .i64 (gS 3 1 ap 0)) ∧ w'.cell? (adr mp2A (Int.toNat (gS 3 1 ap 0))) = some (.int .i64 (gI mp2 (gS 3 1 ap 0))) ∧ w'.cell? ⟨b574, 2, none⟩ = some (.int .i64 (gS 3 2 ap 0)) ∧ w'.cell? (adr worldsA (Int.toNat (gS 3 2 ap 0))) = some (.int .i64 (gI worlds (gS 3 2 ap 0))) ∧ True) ⟨(St.cell (i := 2) hS699 rfl rfl _ (Ext.refl _)), (St.cell (i := 1) hS699 rfl rfl _ (Ext.refl _)), (RdS.elt (St.rdR (i := 5) hS699 rfl) (by omega) (by omega) _ (Ext.refl _)), (St.cell (i := 1) hS699 rfl rfl _ (Ext.refl _)), (RdS.elt (St.rdR (i := 3) hS699 rfl) (by omega) (by omega) _ (Ext.refl _)), trivial⟩ (y_load (fun _ => by kernel_rfl) rfl (fun _ h => h.2.2.2.2.1)) rfl rfl (by kernel_rfl) (by kernel_rfl) (by kernel_rfl) (by kernel_rfl) rfl rfl (fun _ _ _ h => h) ?_; intro a720 hE721; clear hE719
      have hc728 := c_has (gI mp2 (gS 3 1 ap 0)) (gI worlds (gS 3 2 ap 0)) w697 (by omega)
      refine d_only 11 (by kernel_rfl) rfl hE721 rfl (l_call (f := 177) (argv := [.int .i64 (gI mp2 (gS 3 1 ap 0)), .int .i64 (gI worlds (gS 3 2 ap 0))]) hE721 (fun _ => cf_has _ _) rfl rfl (by exact hc728) ?_)
      rintro _ _ ⟨rfl, rfl⟩ a724 hE725; clear hE721
      refine ⟨fun h => Bool.noConfusion (h.symm.trans (show exm _ _ _ = true by kernel_rfl)), ?_⟩
      refine d_pure (fun _ h => h) (v := .bool (F_has (gI mp2 (gS 3 1 ap 0)) (gI worlds (gS 3 2 ap 0)))) 12 rfl hE725 (y_assign rfl) rfl (by kernel_rfl) (by kernel_rfl) (by kernel_rfl) rfl rfl (fun _ _ _ h => h) ?_; intro a729 hE730; clear hE725
      refine d_done (by kernel_rfl) ?_
      have hE731 := hE730.sub (L' := [(6, .bool (F_has (gI mp2 (gS 3 1 ap 0)) (gI worlds (gS 3 2 ap 0))))]) ⟨rfl, trivial⟩; clear hE730
      refine p_tn ?_
      refine wp_ret ?_
      refine p_br ?_
      refine p_tr ?_
      have hF : F_Model_holds_b self mp0 mp1 mp2 ap worlds = F_has (gI mp2 (gS 3 1 ap 0)) (gI worlds (gS 3 2 ap 0)) := by unfold F_Model_holds_b; (first | (rw [ht694, ht656, ht609]; first | done | rfl) | (rw [← holds_L12 mp0 mp1 mp2 ap self, ht694, ht656, ht609]; first | done | rfl) | (exfalso; omega))
      refine c_ret1 hE731 rfl rfl ?_
      exact ⟨(by rw [hF]; first | done | (dsimp only; done) | rfl), hS699.ext⟩
     ·
      have hp732 := of_decide_eq_false ht694
      have hE733 := hE693; rw [ht694] at hE733; clear hE693
      refine c_seq ?_
      refine c_reg ?_
      refine q_step (v := .bool (decide ((gS 3 0 ap 0) = 3))) hE733 (y_eql rfl rfl) rfl rfl rfl ?_; intro a734 hE735; clear hE733
      refine q_step (v := .bool (decide ((gS 3 0 ap 0) = 3))) hE735 (y_assign rfl) rfl rfl rfl ?_; intro a736 hE737; clear hE735
      refine c_nil ?_
      have hE738 := hE737.sub (L' := [(2, .slice worldsA worlds.length worldsC), (3, .pointer (some ⟨b5, 0, none⟩)), (7, .pointer (some ⟨b574, 0, none⟩)), (8, .slice b587 ((F_below ap).length) c588), (18, .int .i64 (gS 3 0 ap 0)), (61, .bool (decide ((gS 3 0 ap 0) = 3)))]) ⟨rfl, rfl, rfl, rfl, rfl, rfl, trivial⟩; clear hE737
      refine p_tn ?_
      refine c_cond hE738 rfl (fun ht739 => ?_) (fun ht739 => ?_)
      ·
       have hp740 := of_decide_eq_true ht739
       have hE741 := hE738; rw [ht739] at hE741; clear hE738
       refine c_seq ?_
       refine c_reg ?_
       refine q_step (v := .bool false) hE741 (y_assign rfl) rfl rfl rfl ?_; intro a742 hE743; clear hE741
       refine c_nil ?_
       have hE744 := hE743.sub (L' := [(6, .bool false)]) ⟨rfl, trivial⟩; clear hE743
       refine p_tn ?_
       refine wp_ret ?_
       refine p_br ?_
       refine p_tr ?_
       have hF : F_Model_holds_b self mp0 mp1 mp2 ap worlds = false := by unfold F_Model_holds_b; (first | (rw [ht739, ht694, ht656, ht609]; first | done | rfl) | (rw [← holds_L12 mp0 mp1 mp2 ap self, ht739, ht694, ht656, ht609]; first | done | rfl) | (exfalso; omega))
       refine c_ret1 hE744 rfl rfl ?_
       exact ⟨(by rw [hF]; first | done | (dsimp only; done) | rfl), hS594.ext⟩
      ·
       have hp745 := of_decide_eq_false ht739
       have hE746 := hE738; rw [ht739] at hE746; clear hE738
       refine c_seq ?_
       refine c_reg ?_
       refine q_step (v := .bool (decide ((gS 3 0 ap 0) = 4))) hE746 (y_eql rfl rfl) rfl rfl rfl ?_; intro a747 hE748; clear hE746
       refine q_step (v := .bool (decide ((gS 3 0 ap 0) = 4))) hE748 (y_assign rfl) rfl rfl rfl ?_; intro a749 hE750; clear hE748
       refine c_nil ?_
       have hE751 := hE750.sub (L' := [(2, .slice worldsA worlds.length worldsC), (3, .pointer (some ⟨b5, 0, none⟩)), (7, .pointer (some ⟨b574, 0, none⟩)), (8, .slice b587 ((F_below ap).length) c588), (18, .int .i64 (gS 3 0 ap 0)), (63, .bool (decide ((gS 3 0 ap 0) = 4)))]) ⟨rfl, rfl, rfl, rfl, rfl, rfl, trivial⟩; clear hE750
       refine p_tn ?_
       refine c_cond hE751 rfl (fun ht752 => ?_) (fun ht752 => ?_)
       ·
        have hp753 := of_decide_eq_true ht752
        have hE754 := hE751; rw [ht752] at hE754; clear hE751
        refine c_seq ?_
        refine d_start (fun w w' => (fun w' => w'.heap[b5]? = some (.cells #[.int .i64 mp0, .slice mp1A mp1.length mp1C, .slice mp2A mp2.length mp2C] 69 (0, 0)) ∧ w'.cell? (adr b587 (Int.toNat 0)) = some (.slice (hdA ((belowRows apA apC ap).map (·.1)) 0) ((gL (F_below ap) 0).length / 3 : Nat) (hdC ((belowRows apA apC ap).map (·.1)) 0)) ∧ w'.heap[b5]? = some (.cells #[.int .i64 mp0, .slice mp1A mp1.length mp1C, .slice mp2A mp2.length mp2C] 69 (0, 0)) ∧ w'.cell? (adr b587 (Int.toNat 1)) = some (.slice (hdA ((belowRows apA apC ap).map (·.1)) 1) ((gL (F_below ap) 1).length / 3 : Nat) (hdC ((belowRows apA apC ap).map (·.1)) 1)) ∧ True) w → (fun w' => w'.heap[b5]? = some (.cells #[.int .i64 mp0, .slice mp1A mp1.length mp1C, .slice mp2A mp2.length mp2C] 69 (0, 0)) ∧ w'.cell? (adr b587 (Int.toNat 0)) = some (.slice (hdA ((belowRows apA apC ap).map (·.1)) 0) ((gL (F_below ap) 0).length / 3 : Nat) (hdC ((belowRows apA apC ap).map (·.1)) 0)) ∧ w'.heap[b5]? = some (.cells #[.int .i64 mp0, .slice mp1A mp1.length mp1C, .slice mp2A mp2.length mp2C] 69 (0, 0)) ∧ w'.cell? (adr b587 (Int.toNat 1)) = some (.slice (hdA ((belowRows apA apC ap).map (·.1)) 1) ((gL (F_below ap) 1).length / 3 : Nat) (hdC ((belowRows apA apC ap).map (·.1)) 1)) ∧ True) w') [0, 3, 7, 10] 15 (by kernel_rfl) rfl ?_
        intro w755 he756; have hS757 := St.go hS594 he756; clear hS594
        refine d_take (fun _ h => h) (fun _ _ h k => h k) (v := .agg #[.int .i64 mp0, .slice mp1A mp1.length mp1C, .slice mp2A mp2.length mp2C]) 0 rfl hE754 (S := fun w' => w'.heap[b5]? = some (.cells #[.int .i64 mp0, .slice mp1A mp1.length mp1C, .slice mp2A mp2.length mp2C] 69 (0, 0)) ∧ w'.cell? (adr b587 (Int.toNat 0)) = some (.slice (hdA ((belowRows apA apC ap).map (·.1)) 0) ((gL (F_below ap) 0).length / 3 : Nat) (hdC ((belowRows apA apC ap).map (·.1)) 0)) ∧ w'.heap[b5]? = some (.cells #[.int .i64 mp0, .slice mp1A mp1.length mp1C, .slice mp2A mp2.length mp2C] 69 (0, 0)) ∧ w'.cell? (adr b587 (Int.toNat 1)) = some (.slice (hdA ((belowRows apA apC ap).map (·.1)) 1) ((gL (F_below ap) 1).length / 3 : Nat) (hdC ((belowRows apA apC ap).map (·.1)) 1)) ∧ True) ⟨(St.row (i := 2) hS757 rfl _ (Ext.refl _)), (RdN.eltD (St.rdNo (i := 0) hS757 rfl) (by decide) (by omega) (by omega) _ (Ext.refl _)), (St.row (i := 2) hS757 rfl _ (Ext.refl _)), (RdN.eltD (St.rdNo (i := 0) hS757 rfl) (by decide) (by omega) (by omega) _ (Ext.refl _)), trivial⟩ (y_loadS Try.underlying69 rfl (by kernel_rfl) rfl (fun _ h => h.1)) rfl rfl (by kernel_rfl) (by kernel_rfl) (by kernel_rfl) (by kernel_rfl) rfl rfl (fun _ _ _ h => h) ?_; intro a758 hE759; clear hE754
        refine d_pure (fun _ h => h) (v := .slice b587 ((F_below ap).length) c588) 1 rfl hE759 (y_move rfl) rfl (by kernel_rfl) (by kernel_rfl) (by kernel_rfl) rfl rfl (fun _ _ _ h => h) ?_; intro a760 hE761; clear hE759
        refine d_pure (fun _ h => h) (v := .pointer (some (adr b587 (Int.toNat 0)))) 2 rfl hE761 (y_idx (by kernel_rfl) (fun _ => by kernel_rfl) rfl rfl (RdN.isS (m := 0) (St.rdNo (i := 0) hS757 rfl) (by omega) (by omega)) (by omega) (by omega) (Nat.mul_one _).symm) rfl (by kernel_rfl) (by kernel_rfl) (by kernel_rfl) rfl rfl (fun _ _ _ h => h) ?_; intro a762 hE763; clear hE761
        have hv764 : (0 : Int) ≤ 0 ∧ 0 < ((F_below ap).length : Int) := ⟨(by omega), (by omega)⟩
        refine d_take (fun _ h => h) (fun _ _ h k => h k) (v := .slice (hdA ((belowRows apA apC ap).map (·.1)) 0) ((gL (F_below ap) 0).length / 3 : Nat) (hdC ((belowRows apA apC ap).map (·.1)) 0)) 3 rfl hE763 (S := fun w' => w'.heap[b5]? = some (.cells #[.int .i64 mp0, .slice mp1A mp1.length mp1C, .slice mp2A mp2.length mp2C] 69 (0, 0)) ∧ w'.cell? (adr b587 (Int.toNat 0)) = some (.slice (hdA ((belowRows apA apC ap).map (·.1)) 0) ((gL (F_below ap) 0).length / 3 : Nat) (hdC ((belowRows apA apC ap).map (·.1)) 0)) ∧ w'.heap[b5]? = some (.cells #[.int .i64 mp0, .slice mp1A mp1.length mp1C, .slice mp2A mp2.length mp2C] 69 (0, 0)) ∧ w'.cell? (adr b587 (Int.toNat 1)) = some (.slice (hdA ((belowRows apA apC ap).map (·.1)) 1) ((gL (F_below ap) 1).length / 3 : Nat) (hdC ((belowRows apA apC ap).map (·.1)) 1)) ∧ True) ⟨(St.row (i := 2) hS757 rfl _ (Ext.refl _)), (RdN.eltD (St.rdNo (i := 0) hS757 rfl) (by decide) (by omega) (by omega) _ (Ext.refl _)), (St.row (i := 2) hS757 rfl _ (Ext.refl _)), (RdN.eltD (St.rdNo (i := 0) hS757 rfl) (by decide) (by omega) (by omega) _ (Ext.refl _)), trivial⟩ (y_load (fun _ => by kernel_rfl) rfl (fun _ h => h.2.1)) rfl rfl (by kernel_rfl) (by kernel_rfl) (by kernel_rfl) (by kernel_rfl) rfl rfl (fun _ _ _ h => h) ?_; intro a766 hE767; clear hE763
        refine d_pure (fun _ h => h) (v := .slice worldsA worlds.length worldsC) 4 rfl hE767 (y_move rfl) rfl (by kernel_rfl) (by kernel_rfl) (by kernel_rfl) rfl rfl (fun _ _ _ h => h) ?_; intro a768 hE769; clear hE767
        have hr776 := (RdN.rowD (St.rdNo (i := 0) hS757 rfl) (by decide) hv764.1 hv764.2)
        have hc777 := ih mp0 mp1A mp1.length mp1C mp1 mp2A mp2.length mp2C mp2 (hdA ((belowRows apA apC ap).map (·.1)) 0) ((gL (F_below ap) 0).length / 3 : Nat) (hdC ((belowRows apA apC ap).map (·.1)) 0) (gL (F_below ap) 0) worldsA worlds.length worldsC worlds w755 (St.rdR (i := 6) hS757 rfl) (St.rdR (i := 5) hS757 rfl) hr776 (St.rdR (i := 3) hS757 rfl) (by omega) (by omega) (by omega) (Nat.le_trans (below_le _ _) hl) (hpt.2 _ (by omega) (by omega)).1 (by first | assumption | (rw [sI_len]; assumption)) (by first | (have h9 := pm_frB hf (by omega) hfw (m := 0) (by omega) (by omega); with_reducible exact h9) | (have h9 := pm_frB hf (by omega) hfw (m := 1) (by omega) (by omega); with_reducible exact h9) | exact pm_frunI hf (by omega) hfw (by omega) (by omega) (by omega) hag) (by first | (have h := (hpt.2 0 (by omega) (by omega)).2; omega) | (have h := (hpt.2 1 (by omega) (by omega)).2; omega))
        refine d_only 5 (by kernel_rfl) rfl hE769 rfl (l_call (f := 110) (argv := [.agg #[.int .i64 mp0, .slice mp1A mp1.length mp1C, .slice mp2A mp2.length mp2C], .slice (hdA ((belowRows apA apC ap).map (·.1)) 0) ((gL (F_below ap) 0).length / 3 : Nat) (hdC ((belowRows apA apC ap).map (·.1)) 0), .slice worldsA worlds.length worldsC]) hE769 (fun _ => cf_Model_holds _ _) rfl rfl (by exact hc777) ?_)
        rintro _ w771 ⟨rfl, he775⟩ a772 hE773; clear hE769
        have hS774 := St.go hS757 he775; clear hS757
        refine ⟨fun _ _ => ⟨(St.row (i := 2) hS774 rfl _ (Ext.refl _)), (RdN.eltD (St.rdNo (i := 0) hS774 rfl) (by decide) (by omega) (by omega) _ (Ext.refl _)), (St.row (i := 2) hS774 rfl _ (Ext.refl _)), (RdN.eltD (St.rdNo (i := 0) hS774 rfl) (by decide) (by omega) (by omega) _ (Ext.refl _)), trivial⟩, ?_⟩
        refine d_pure (fun _ h => h) (v := .bool (self mp0 mp1 mp2 (gL (F_below ap) 0) worlds)) 6 rfl hE773 (y_move rfl) rfl (by kernel_rfl) (by kernel_rfl) (by kernel_rfl) rfl rfl (fun _ _ _ h => h) ?_; intro a778 hE779; clear hE773
        rcases Bool.eq_false_or_eq_true (self mp0 mp1 mp2 (gL (F_below ap) 0) worlds) with hb780 | hb780
        ·
         have hE781 := hE779; (try rw [hb780] at hE781); clear hE779
         refine d_take (fun _ h => h) (fun _ _ h k => h k) (v := .agg #[.int .i64 mp0, .slice mp1A mp1.length mp1C, .slice mp2A mp2.length mp2C]) 7 rfl hE781 (S := fun w' => w'.heap[b5]? = some (.cells #[.int .i64 mp0, .slice mp1A mp1.length mp1C, .slice mp2A mp2.length mp2C] 69 (0, 0)) ∧ w'.cell? (adr b587 (Int.toNat 0)) = some (.slice (hdA ((belowRows apA apC ap).map (·.1)) 0) ((gL (F_below ap) 0).length / 3 : Nat) (hdC ((belowRows apA apC ap).map (·.1)) 0)) ∧ w'.heap[b5]? = some (.cells #[.int .i64 mp0, .slice mp1A mp1.length mp1C, .slice mp2A mp2.length mp2C] 69 (0, 0)) ∧ w'.cell? (adr b587 (Int.toNat 1)) = some (.slice (hdA ((belowRows apA apC ap).map (·.1)) 1) ((gL (F_below ap) 1).length / 3 : Nat) (hdC ((belowRows apA apC ap).map (·.1)) 1)) ∧ True) ⟨(St.row (i := 2) hS774 rfl _ (Ext.refl _)), (RdN.eltD (St.rdNo (i := 0) hS774 rfl) (by decide) (by omega) (by omega) _ (Ext.refl _)), (St.row (i := 2) hS774 rfl _ (Ext.refl _)), (RdN.eltD (St.rdNo (i := 0) hS774 rfl) (by decide) (by omega) (by omega) _ (Ext.refl _)), trivial⟩ (y_loadS Try.underlying69 rfl (by kernel_rfl) rfl (fun _ h => h.2.2.1)) rfl rfl (by kernel_rfl) (by kernel_rfl) (by kernel_rfl) (by kernel_rfl) rfl rfl (fun _ _ _ h => h) ?_; intro a782 hE783; clear hE781
         refine d_pure (fun _ h => h) (v := .slice b587 ((F_below ap).length) c588) 8 rfl hE783 (y_move rfl) rfl (by kernel_rfl) (by kernel_rfl) (by kernel_rfl) rfl rfl (fun _ _ _ h => h) ?_; intro a784 hE785; clear hE783
         refine d_pure (fun _ h => h) (v := .pointer (some (adr b587 (Int.toNat 1)))) 9 rfl hE785 (y_idx (by kernel_rfl) (fun _ => by kernel_rfl) rfl rfl (RdN.isS (m := 1) (St.rdNo (i := 0) hS774 rfl) (by omega) (by omega)) (by omega) (by omega) (Nat.mul_one _).symm) rfl (by kernel_rfl) (by kernel_rfl) (by kernel_rfl) rfl rfl (fun _ _ _ h => h) ?_; intro a786 hE787; clear hE785
         have hv788 : (0 : Int) ≤ 1 ∧ 1 < ((F_below ap).length : Int) := ⟨(by omega), (by omega)⟩
         refine d_take (fun _ h => h) (fun _ _ h k => h k) (v := .slice (hdA ((belowRows apA apC ap).map (·.1)) 1) ((gL (F_below ap) 1).length / 3 : Nat) (hdC ((belowRows apA apC ap).map (·.1)) 1)) 10 rfl hE787 (S := fun w' => w'.heap[b5]? = some (.cells #[.int .i64 mp0, .slice mp1A mp1.length mp1C, .slice mp2A mp2.length mp2C] 69 (0, 0)) ∧ w'.cell? (adr b587 (Int.toNat 0)) = some (.slice (hdA ((belowRows apA apC ap).map (·.1)) 0) ((gL (F_below ap) 0).length / 3 : Nat) (hdC ((belowRows apA apC ap).map (·.1)) 0)) ∧ w'.heap[b5]? = some (.cells #[.int .i64 mp0, .slice mp1A mp1.length mp1C, .slice mp2A mp2.length mp2C] 69 (0, 0)) ∧ w'.cell? (adr b587 (Int.toNat 1)) = some (.slice (hdA ((belowRows apA apC ap).map (·.1)) 1) ((gL (F_below ap) 1).length / 3 : Nat) (hdC ((belowRows apA apC ap).map (·.1)) 1)) ∧ True) ⟨(St.row (i := 2) hS774 rfl _ (Ext.refl _)), (RdN.eltD (St.rdNo (i := 0) hS774 rfl) (by decide) (by omega) (by omega) _ (Ext.refl _)), (St.row (i := 2) hS774 rfl _ (Ext.refl _)), (RdN.eltD (St.rdNo (i := 0) hS774 rfl) (by decide) (by omega) (by omega) _ (Ext.refl _)), trivial⟩ (y_load (fun _ => by kernel_rfl) rfl (fun _ h => h.2.2.2.1)) rfl rfl (by kernel_rfl) (by kernel_rfl) (by kernel_rfl) (by kernel_rfl) rfl rfl (fun _ _ _ h => h) ?_; intro a790 hE791; clear hE787
         refine d_pure (fun _ h => h) (v := .slice worldsA worlds.length worldsC) 11 rfl hE791 (y_move rfl) rfl (by kernel_rfl) (by kernel_rfl) (by kernel_rfl) rfl rfl (fun _ _ _ h => h) ?_; intro a792 hE793; clear hE791
         have hr800 := (RdN.rowD (St.rdNo (i := 0) hS774 rfl) (by decide) hv788.1 hv788.2)
         have hc801 := ih mp0 mp1A mp1.length mp1C mp1 mp2A mp2.length mp2C mp2 (hdA ((belowRows apA apC ap).map (·.1)) 1) ((gL (F_below ap) 1).length / 3 : Nat) (hdC ((belowRows apA apC ap).map (·.1)) 1) (gL (F_below ap) 1) worldsA worlds.length worldsC worlds w771 (St.rdR (i := 6) hS774 rfl) (St.rdR (i := 5) hS774 rfl) hr800 (St.rdR (i := 3) hS774 rfl) (by omega) (by omega) (by omega) (Nat.le_trans (below_le _ _) hl) (hpt.2 _ (by omega) (by omega)).1 (by first | assumption | (rw [sI_len]; assumption)) (by first | (have h9 := pm_frB hf (by omega) hfw (m := 0) (by omega) (by omega); with_reducible exact h9) | (have h9 := pm_frB hf (by omega) hfw (m := 1) (by omega) (by omega); with_reducible exact h9) | exact pm_frunI hf (by omega) hfw (by omega) (by omega) (by omega) hag) (by first | (have h := (hpt.2 0 (by omega) (by omega)).2; omega) | (have h := (hpt.2 1 (by omega) (by omega)).2; omega))
         refine d_only 12 (by kernel_rfl) rfl hE793 rfl (l_call (f := 110) (argv := [.agg #[.int .i64 mp0, .slice mp1A mp1.length mp1C, .slice mp2A mp2.length mp2C], .slice (hdA ((belowRows apA apC ap).map (·.1)) 1) ((gL (F_below ap) 1).length / 3 : Nat) (hdC ((belowRows apA apC ap).map (·.1)) 1), .slice worldsA worlds.length worldsC]) hE793 (fun _ => cf_Model_holds _ _) rfl rfl (by exact hc801) ?_)
         rintro _ w795 ⟨rfl, he799⟩ a796 hE797; clear hE793
         have hS798 := St.go hS774 he799; clear hS774
         refine ⟨fun h => Bool.noConfusion (h.symm.trans (show exm _ _ _ = true by kernel_rfl)), ?_⟩
         refine d_pure (fun _ h => h) (v := .bool (self mp0 mp1 mp2 (gL (F_below ap) 1) worlds)) 13 rfl hE797 (y_pick (b := true) rfl rfl) rfl (by kernel_rfl) (by kernel_rfl) (by kernel_rfl) rfl rfl (fun _ _ _ h => h) ?_; intro a802 hE803; clear hE797
         refine d_pure (fun _ h => h) (v := .bool (self mp0 mp1 mp2 (gL (F_below ap) 1) worlds)) 14 rfl hE803 (y_assign rfl) rfl (by kernel_rfl) (by kernel_rfl) (by kernel_rfl) rfl rfl (fun _ _ _ h => h) ?_; intro a804 hE805; clear hE803
         refine d_done (by kernel_rfl) ?_
         have hE806 := hE805.sub (L' := [(6, .bool (self mp0 mp1 mp2 (gL (F_below ap) 1) worlds))]) ⟨rfl, trivial⟩; clear hE805
         refine p_tn ?_
         refine wp_ret ?_
         refine p_br ?_
         refine p_tr ?_
         have hF : F_Model_holds_b self mp0 mp1 mp2 ap worlds = self mp0 mp1 mp2 (gL (F_below ap) 1) worlds := by unfold F_Model_holds_b; (first | (rw [hb780, ht752, ht739, ht694, ht656, ht609]; first | done | rfl) | (rw [← holds_L12 mp0 mp1 mp2 ap self, hb780, ht752, ht739, ht694, ht656, ht609]; first | done | rfl) | (exfalso; omega))
         refine c_ret1 hE806 rfl rfl ?_
         exact ⟨(by rw [hF]; first | done | (dsimp only; done) | rfl), hS798.ext⟩
        ·
         have hE807 := hE779; (try rw [hb780] at hE807); clear hE779
         refine d_skip (fun _ h => h) 7 rfl hE807 rfl (by kernel_rfl) (by kernel_rfl) (by kernel_rfl) rfl rfl (fun _ _ _ h => h) ?_; intro a808 hE809; clear hE807
         refine d_skip (fun _ h => h) 8 rfl hE809 rfl (by kernel_rfl) (by kernel_rfl) (by kernel_rfl) rfl rfl (fun _ _ _ h => h) ?_; intro a810 hE811; clear hE809
         refine d_skip (fun _ h => h) 9 rfl hE811 rfl (by kernel_rfl) (by kernel_rfl) (by kernel_rfl) rfl rfl (fun _ _ _ h => h) ?_; intro a812 hE813; clear hE811
         refine d_skip (fun _ h => h) 10 rfl hE813 rfl (by kernel_rfl) (by kernel_rfl) (by kernel_rfl) rfl rfl (fun _ _ _ h => h) ?_; intro a814 hE815; clear hE813
         refine d_skip (fun _ h => h) 11 rfl hE815 rfl (by kernel_rfl) (by kernel_rfl) (by kernel_rfl) rfl rfl (fun _ _ _ h => h) ?_; intro a816 hE817; clear hE815
         refine d_skip (fun _ h => h) 12 rfl hE817 rfl (by kernel_rfl) (by kernel_rfl) (by kernel_rfl) rfl rfl (fun _ _ _ h => h) ?_; intro a818 hE819; clear hE817
         refine d_pure (fun _ h => h) (v := .bool false) 13 rfl hE819 (y_pick (b := false) rfl rfl) rfl (by kernel_rfl) (by kernel_rfl) (by kernel_rfl) rfl rfl (fun _ _ _ h => h) ?_; intro a820 hE821; clear hE819
         refine d_pure (fun _ h => h) (v := .bool false) 14 rfl hE821 (y_assign rfl) rfl (by kernel_rfl) (by kernel_rfl) (by kernel_rfl) rfl rfl (fun _ _ _ h => h) ?_; intro a822 hE823; clear hE821
         refine d_done (by kernel_rfl) ?_
         have hE824 := hE823.sub (L' := [(6, .bool false)]) ⟨rfl, trivial⟩; clear hE823
         refine p_tn ?_
         refine wp_ret ?_
         refine p_br ?_
         refine p_tr ?_
         have hF : F_Model_holds_b self mp0 mp1 mp2 ap worlds = false := by unfold F_Model_holds_b; (first | (rw [hb780, ht752, ht739, ht694, ht656, ht609]; first | done | rfl) | (rw [← holds_L12 mp0 mp1 mp2 ap self, hb780, ht752, ht739, ht694, ht656, ht609]; first | done | rfl) | (exfalso; omega))
         refine c_ret1 hE824 rfl rfl ?_
         exact ⟨(by rw [hF]; first | done | (dsimp only; done) | rfl), hS774.ext⟩
       ·
        have hp825 := of_decide_eq_false ht752
        have hE826 := hE751; rw [ht752] at hE826; clear hE751
        refine c_seq ?_
        refine c_reg ?_
        refine q_step (v := .bool (decide ((gS 3 0 ap 0) = 5))) hE826 (y_eql rfl rfl) rfl rfl rfl ?_; intro a827 hE828; clear hE826
        refine q_step (v := .bool (decide ((gS 3 0 ap 0) = 5))) hE828 (y_assign rfl) rfl rfl rfl ?_; intro a829 hE830; clear hE828
        refine c_nil ?_
        have hE831 := hE830.sub (L' := [(2, .slice worldsA worlds.length worldsC), (3, .pointer (some ⟨b5, 0, none⟩)), (7, .pointer (some ⟨b574, 0, none⟩)), (8, .slice b587 ((F_below ap).length) c588), (18, .int .i64 (gS 3 0 ap 0)), (79, .bool (decide ((gS 3 0 ap 0) = 5)))]) ⟨rfl, rfl, rfl, rfl, rfl, rfl, trivial⟩; clear hE830
        refine p_tn ?_
        refine c_cond hE831 rfl (fun ht832 => ?_) (fun ht832 => ?_)
        ·
         have hp833 := of_decide_eq_true ht832
         have hE834 := hE831; rw [ht832] at hE834; clear hE831
         refine c_seq ?_
         refine d_start (fun w w' => (fun w' => w'.heap[b5]? = some (.cells #[.int .i64 mp0, .slice mp1A mp1.length mp1C, .slice mp2A mp2.length mp2C] 69 (0, 0)) ∧ w'.cell? (adr b587 (Int.toNat 0)) = some (.slice (hdA ((belowRows apA apC ap).map (·.1)) 0) ((gL (F_below ap) 0).length / 3 : Nat) (hdC ((belowRows apA apC ap).map (·.1)) 0)) ∧ w'.heap[b5]? = some (.cells #[.int .i64 mp0, .slice mp1A mp1.length mp1C, .slice mp2A mp2.length mp2C] 69 (0, 0)) ∧ w'.cell? (adr b587 (Int.toNat 1)) = some (.slice (hdA ((belowRows apA apC ap).map (·.1)) 1) ((gL (F_below ap) 1).length / 3 : Nat) (hdC ((belowRows apA apC ap).map (·.1)) 1)) ∧ True) w → (fun w' => w'.heap[b5]? = some (.cells #[.int .i64 mp0, .slice mp1A mp1.length mp1C, .slice mp2A mp2.length mp2C] 69 (0, 0)) ∧ w'.cell? (adr b587 (Int.toNat 0)) = some (.slice (hdA ((belowRows apA apC ap).map (·.1)) 0) ((gL (F_below ap) 0).length / 3 : Nat) (hdC ((belowRows apA apC ap).map (·.1)) 0)) ∧ w'.heap[b5]? = some (.cells #[.int .i64 mp0, .slice mp1A mp1.length mp1C, .slice mp2A mp2.length mp2C] 69 (0, 0)) ∧ w'.cell? (adr b587 (Int.toNat 1)) = some (.slice (hdA ((belowRows apA apC ap).map (·.1)) 1) ((gL (F_below ap) 1).length / 3 : Nat) (hdC ((belowRows apA apC ap).map (·.1)) 1)) ∧ True) w') [0, 3, 7, 10] 15 (by kernel_rfl) rfl ?_
         intro w835 he836; have hS837 := St.go hS594 he836; clear hS594
         refine d_take (fun _ h => h) (fun _ _ h k => h k) (v := .agg #[.int .i64 mp0, .slice mp1A mp1.length mp1C, .slice mp2A mp2.length mp2C]) 0 rfl hE834 (S := fun w' => w'.heap[b5]? = some (.cells #[.int .i64 mp0, .slice mp1A mp1.length mp1C, .slice mp2A mp2.length mp2C] 69 (0, 0)) ∧ w'.cell? (adr b587 (Int.toNat 0)) = some (.slice (hdA ((belowRows apA apC ap).map (·.1)) 0) ((gL (F_below ap) 0).length / 3 : Nat) (hdC ((belowRows apA apC ap).map (·.1)) 0)) ∧ w'.heap[b5]? = some (.cells #[.int .i64 mp0, .slice mp1A mp1.length mp1C, .slice mp2A mp2.length mp2C] 69 (0, 0)) ∧ w'.cell? (adr b587 (Int.toNat 1)) = some (.slice (hdA ((belowRows apA apC ap).map (·.1)) 1) ((gL (F_below ap) 1).length / 3 : Nat) (hdC ((belowRows apA apC ap).map (·.1)) 1)) ∧ True) ⟨(St.row (i := 2) hS837 rfl _ (Ext.refl _)), (RdN.eltD (St.rdNo (i := 0) hS837 rfl) (by decide) (by omega) (by omega) _ (Ext.refl _)), (St.row (i := 2) hS837 rfl _ (Ext.refl _)), (RdN.eltD (St.rdNo (i := 0) hS837 rfl) (by decide) (by omega) (by omega) _ (Ext.refl _)), trivial⟩ (y_loadS Try.underlying69 rfl (by kernel_rfl) rfl (fun _ h => h.1)) rfl rfl (by kernel_rfl) (by kernel_rfl) (by kernel_rfl) (by kernel_rfl) rfl rfl (fun _ _ _ h => h) ?_; intro a838 hE839; clear hE834
         refine d_pure (fun _ h => h) (v := .slice b587 ((F_below ap).length) c588) 1 rfl hE839 (y_move rfl) rfl (by kernel_rfl) (by kernel_rfl) (by kernel_rfl) rfl rfl (fun _ _ _ h => h) ?_; intro a840 hE841; clear hE839
         refine d_pure (fun _ h => h) (v := .pointer (some (adr b587 (Int.toNat 0)))) 2 rfl hE841 (y_idx (by kernel_rfl) (fun _ => by kernel_rfl) rfl rfl (RdN.isS (m := 0) (St.rdNo (i := 0) hS837 rfl) (by omega) (by omega)) (by omega) (by omega) (Nat.mul_one _).symm) rfl (by kernel_rfl) (by kernel_rfl) (by kernel_rfl) rfl rfl (fun _ _ _ h => h) ?_; intro a842 hE843; clear hE841
         have hv844 : (0 : Int) ≤ 0 ∧ 0 < ((F_below ap).length : Int) := ⟨(by omega), (by omega)⟩
         refine d_take (fun _ h => h) (fun _ _ h k => h k) (v := .slice (hdA ((belowRows apA apC ap).map (·.1)) 0) ((gL (F_below ap) 0).length / 3 : Nat) (hdC ((belowRows apA apC ap).map (·.1)) 0)) 3 rfl hE843 (S := fun w' => w'.heap[b5]? = some (.cells #[.int .i64 mp0, .slice mp1A mp1.length mp1C, .slice mp2A mp2.length mp2C] 69 (0, 0)) ∧ w'.cell? (adr b587 (Int.toNat 0)) = some (.slice (hdA ((belowRows apA apC ap).map (·.1)) 0) ((gL (F_below ap) 0).length / 3 : Nat) (hdC ((belowRows apA apC ap).map (·.1)) 0)) ∧ w'.heap[b5]? = some (.cells #[.int .i64 mp0, .slice mp1A mp1.length mp1C, .slice mp2A mp2.length mp2C] 69 (0, 0)) ∧ w'.cell? (adr b587 (Int.toNat 1)) = some (.slice (hdA ((belowRows apA apC ap).map (·.1)) 1) ((gL (F_below ap) 1).length / 3 : Nat) (hdC ((belowRows apA apC ap).map (·.1)) 1)) ∧ True) ⟨(St.row (i := 2) hS837 rfl _ (Ext.refl _)), (RdN.eltD (St.rdNo (i := 0) hS837 rfl) (by decide) (by omega) (by omega) _ (Ext.refl _)), (St.row (i := 2) hS837 rfl _ (Ext.refl _)), (RdN.eltD (St.rdNo (i := 0) hS837 rfl) (by decide) (by omega) (by omega) _ (Ext.refl _)), trivial⟩ (y_load (fun _ => by kernel_rfl) rfl (fun _ h => h.2.1)) rfl rfl (by kernel_rfl) (by kernel_rfl) (by kernel_rfl) (by kernel_rfl) rfl rfl (fun _ _ _ h => h) ?_; intro a846 hE847; clear hE843
         refine d_pure (fun _ h => h) (v := .slice worldsA worlds.length worldsC) 4 rfl hE847 (y_move rfl) rfl (by kernel_rfl) (by kernel_rfl) (by kernel_rfl) rfl rfl (fun _ _ _ h => h) ?_; intro a848 hE849; clear hE847
         have hr856 := (RdN.rowD (St.rdNo (i := 0) hS837 rfl) (by decide) hv844.1 hv844.2)
         have hc857 := ih mp0 mp1A mp1.length mp1C mp1 mp2A mp2.length mp2C mp2 (hdA ((belowRows apA apC ap).map (·.1)) 0) ((gL (F_below ap) 0).length / 3 : Nat) (hdC ((belowRows apA apC ap).map (·.1)) 0) (gL (F_below ap) 0) worldsA worlds.length worldsC worlds w835 (St.rdR (i := 6) hS837 rfl) (St.rdR (i := 5) hS837 rfl) hr856 (St.rdR (i := 3) hS837 rfl) (by omega) (by omega) (by omega) (Nat.le_trans (below_le _ _) hl) (hpt.2 _ (by omega) (by omega)).1 (by first | assumption | (rw [sI_len]; assumption)) (by first | (have h9 := pm_frB hf (by omega) hfw (m := 0) (by omega) (by omega); with_reducible exact h9) | (have h9 := pm_frB hf (by omega) hfw (m := 1) (by omega) (by omega); with_reducible exact h9) | exact pm_frunI hf (by omega) hfw (by omega) (by omega) (by omega) hag) (by first | (have h := (hpt.2 0 (by omega) (by omega)).2; omega) | (have h := (hpt.2 1 (by omega) (by omega)).2; omega))
         refine d_only 5 (by kernel_rfl) rfl hE849 rfl (l_call (f := 110) (argv := [.agg #[.int .i64 mp0, .slice mp1A mp1.length mp1C, .slice mp2A mp2.length mp2C], .slice (hdA ((belowRows apA apC ap).map (·.1)) 0) ((gL (F_below ap) 0).length / 3 : Nat) (hdC ((belowRows apA apC ap).map (·.1)) 0), .slice worldsA worlds.length worldsC]) hE849 (fun _ => cf_Model_holds _ _) rfl rfl (by exact hc857) ?_)
         rintro _ w851 ⟨rfl, he855⟩ a852 hE853; clear hE849
         have hS854 := St.go hS837 he855; clear hS837
         refine ⟨fun _ _ => ⟨(St.row (i := 2) hS854 rfl _ (Ext.refl _)), (RdN.eltD (St.rdNo (i := 0) hS854 rfl) (by decide) (by omega) (by omega) _ (Ext.refl _)), (St.row (i := 2) hS854 rfl _ (Ext.refl _)), (RdN.eltD (St.rdNo (i := 0) hS854 rfl) (by decide) (by omega) (by omega) _ (Ext.refl _)), trivial⟩, ?_⟩
         refine d_pure (fun _ h => h) (v := .bool (self mp0 mp1 mp2 (gL (F_below ap) 0) worlds)) 6 rfl hE853 (y_move rfl) rfl (by kernel_rfl) (by kernel_rfl) (by kernel_rfl) rfl rfl (fun _ _ _ h => h) ?_; intro a858 hE859; clear hE853
         rcases Bool.eq_false_or_eq_true (self mp0 mp1 mp2 (gL (F_below ap) 0) worlds) with hb860 | hb860
         ·
          have hE861 := hE859; (try rw [hb860] at hE861); clear hE859
          refine d_skip (fun _ h => h) 7 rfl hE861 rfl (by kernel_rfl) (by kernel_rfl) (by kernel_rfl) rfl rfl (fun _ _ _ h => h) ?_; intro a862 hE863; clear hE861
          refine d_skip (fun _ h => h) 8 rfl hE863 rfl (by kernel_rfl) (by kernel_rfl) (by kernel_rfl) rfl rfl (fun _ _ _ h => h) ?_; intro a864 hE865; clear hE863
          refine d_skip (fun _ h => h) 9 rfl hE865 rfl (by kernel_rfl) (by kernel_rfl) (by kernel_rfl) rfl rfl (fun _ _ _ h => h) ?_; intro a866 hE867; clear hE865
          refine d_skip (fun _ h => h) 10 rfl hE867 rfl (by kernel_rfl) (by kernel_rfl) (by kernel_rfl) rfl rfl (fun _ _ _ h => h) ?_; intro a868 hE869; clear hE867
          refine d_skip (fun _ h => h) 11 rfl hE869 rfl (by kernel_rfl) (by kernel_rfl) (by kernel_rfl) rfl rfl (fun _ _ _ h => h) ?_; intro a870 hE871; clear hE869
          refine d_skip (fun _ h => h) 12 rfl hE871 rfl (by kernel_rfl) (by kernel_rfl) (by kernel_rfl) rfl rfl (fun _ _ _ h => h) ?_; intro a872 hE873; clear hE871
          refine d_pure (fun _ h => h) (v := .bool true) 13 rfl hE873 (y_pick (b := true) rfl rfl) rfl (by kernel_rfl) (by kernel_rfl) (by kernel_rfl) rfl rfl (fun _ _ _ h => h) ?_; intro a874 hE875; clear hE873
          refine d_pure (fun _ h => h) (v := .bool true) 14 rfl hE875 (y_assign rfl) rfl (by kernel_rfl) (by kernel_rfl) (by kernel_rfl) rfl rfl (fun _ _ _ h => h) ?_; intro a876 hE877; clear hE875
          refine d_done (by kernel_rfl) ?_
          have hE878 := hE877.sub (L' := [(6, .bool true)]) ⟨rfl, trivial⟩; clear hE877
          refine p_tn ?_
          refine wp_ret ?_
          refine p_br ?_
          refine p_tr ?_
          have hF : F_Model_holds_b self mp0 mp1 mp2 ap worlds = true := by unfold F_Model_holds_b; (first | (rw [hb860, ht832, ht752, ht739, ht694, ht656, ht609]; first | done | rfl) | (rw [← holds_L12 mp0 mp1 mp2 ap self, hb860, ht832, ht752, ht739, ht694, ht656, ht609]; first | done | rfl) | (exfalso; omega))
          refine c_ret1 hE878 rfl rfl ?_
          exact ⟨(by rw [hF]; first | done | (dsimp only; done) | rfl), hS854.ext⟩
         ·
          have hE879 := hE859; (try rw [hb860] at hE879); clear hE859
          refine d_take (fun _ h => h) (fun _ _ h k => h k) (v := .agg #[.int .i64 mp0, .slice mp1A mp1.length mp1C, .slice mp2A mp2.length mp2C]) 7 rfl hE879 (S := fun w' => w'.heap[b5]? = some (.cells #[.int .i64 mp0, .slice mp1A mp1.length mp1C, .slice mp2A mp2.length mp2C] 69 (0, 0)) ∧ w'.cell? (adr b587 (Int.toNat 0)) = some (.slice (hdA ((belowRows apA apC ap).map (·.1)) 0) ((gL (F_below ap) 0).length / 3 : Nat) (hdC ((belowRows apA apC ap).map (·.1)) 0)) ∧ w'.heap[b5]? = some (.cells #[.int .i64 mp0, .slice mp1A mp1.length mp1C, .slice mp2A mp2.length mp2C] 69 (0, 0)) ∧ w'.cell? (adr b587 (Int.toNat 1)) = some (.slice (hdA ((belowRows apA apC ap).map (·.1)) 1) ((gL (F_below ap) 1).length / 3 : Nat) (hdC ((belowRows apA apC ap).map (·.1)) 1)) ∧ True) ⟨(St.row (i := 2) hS854 rfl _ (Ext.refl _)), (RdN.eltD (St.rdNo (i := 0) hS854 rfl) (by decide) (by omega) (by omega) _ (Ext.refl _)), (St.row (i := 2) hS854 rfl _ (Ext.refl _)), (RdN.eltD (St.rdNo (i := 0) hS854 rfl) (by decide) (by omega) (by omega) _ (Ext.refl _)), trivial⟩ (y_loadS Try.underlying69 rfl (by kernel_rfl) rfl (fun _ h => h.2.2.1)) rfl rfl (by kernel_rfl) (by kernel_rfl) (by kernel_rfl) (by kernel_rfl) rfl rfl (fun _ _ _ h => h) ?_; intro a880 hE881; clear hE879
          refine d_pure (fun _ h => h) (v := .slice b587 ((F_below ap).length) c588) 8 rfl hE881 (y_move rfl) rfl (by kernel_rfl) (by kernel_rfl) (by kernel_rfl) rfl rfl (fun _ _ _ h => h) ?_; intro a882 hE883; clear hE881
          refine d_pure (fun _ h => h) (v := .pointer (some (adr b587 (Int.toNat 1)))) 9 rfl hE883 (y_idx (by kernel_rfl) (fun _ => by kernel_rfl) rfl rfl (RdN.isS (m := 1) (St.rdNo (i := 0) hS854 rfl) (by omega) (by omega)) (by omega) (by omega) (Nat.mul_one _).symm) rfl (by kernel_rfl) (by kernel_rfl) (by kernel_rfl) rfl rfl (fun _ _ _ h => h) ?_; intro a884 hE885; clear hE883
          have hv886 : (0 : Int) ≤ 1 ∧ 1 < ((F_below ap).length : Int) := ⟨(by omega), (by omega)⟩
          refine d_take (fun _ h => h) (fun _ _ h k => h k) (v := .slice (hdA ((belowRows apA apC ap).map (·.1)) 1) ((gL (F_below ap) 1).length / 3 : Nat) (hdC ((belowRows apA apC ap).map (·.1)) 1)) 10 rfl hE885 (S := fun w' => w'.heap[b5]? = some (.cells #[.int .i64 mp0, .slice mp1A mp1.length mp1C, .slice mp2A mp2.length mp2C] 69 (0, 0)) ∧ w'.cell? (adr b587 (Int.toNat 0)) = some (.slice (hdA ((belowRows apA apC ap).map (·.1)) 0) ((gL (F_below ap) 0).length / 3 : Nat) (hdC ((belowRows apA apC ap).map (·.1)) 0)) ∧ w'.heap[b5]? = some (.cells #[.int .i64 mp0, .slice mp1A mp1.length mp1C, .slice mp2A mp2.length mp2C] 69 (0, 0)) ∧ w'.cell? (adr b587 (Int.toNat 1)) = some (.slice (hdA ((belowRows apA apC ap).map (·.1)) 1) ((gL (F_below ap) 1).length / 3 : Nat) (hdC ((belowRows apA apC ap).map (·.1)) 1)) ∧ True) ⟨(St.row (i := 2) hS854 rfl _ (Ext.refl _)), (RdN.eltD (St.rdNo (i := 0) hS854 rfl) (by decide) (by omega) (by omega) _ (Ext.refl _)), (St.row (i := 2) hS854 rfl _ (Ext.refl _)), (RdN.eltD (St.rdNo (i := 0) hS854 rfl) (by decide) (by omega) (by omega) _ (Ext.refl _)), trivial⟩ (y_load (fun _ => by kernel_rfl) rfl (fun _ h => h.2.2.2.1)) rfl rfl (by kernel_rfl) (by kernel_rfl) (by kernel_rfl) (by kernel_rfl) rfl rfl (fun _ _ _ h => h) ?_; intro a888 hE889; clear hE885
          refine d_pure (fun _ h => h) (v := .slice worldsA worlds.length worldsC) 11 rfl hE889 (y_move rfl) rfl (by kernel_rfl) (by kernel_rfl) (by kernel_rfl) rfl rfl (fun _ _ _ h => h) ?_; intro a890 hE891; clear hE889
          have hr898 := (RdN.rowD (St.rdNo (i := 0) hS854 rfl) (by decide) hv886.1 hv886.2)
          have hc899 := ih mp0 mp1A mp1.length mp1C mp1 mp2A mp2.length mp2C mp2 (hdA ((belowRows apA apC ap).map (·.1)) 1) ((gL (F_below ap) 1).length / 3 : Nat) (hdC ((belowRows apA apC ap).map (·.1)) 1) (gL (F_below ap) 1) worldsA worlds.length worldsC worlds w851 (St.rdR (i := 6) hS854 rfl) (St.rdR (i := 5) hS854 rfl) hr898 (St.rdR (i := 3) hS854 rfl) (by omega) (by omega) (by omega) (Nat.le_trans (below_le _ _) hl) (hpt.2 _ (by omega) (by omega)).1 (by first | assumption | (rw [sI_len]; assumption)) (by first | (have h9 := pm_frB hf (by omega) hfw (m := 0) (by omega) (by omega); with_reducible exact h9) | (have h9 := pm_frB hf (by omega) hfw (m := 1) (by omega) (by omega); with_reducible exact h9) | exact pm_frunI hf (by omega) hfw (by omega) (by omega) (by omega) hag) (by first | (have h := (hpt.2 0 (by omega) (by omega)).2; omega) | (have h := (hpt.2 1 (by omega) (by omega)).2; omega))
          refine d_only 12 (by kernel_rfl) rfl hE891 rfl (l_call (f := 110) (argv := [.agg #[.int .i64 mp0, .slice mp1A mp1.length mp1C, .slice mp2A mp2.length mp2C], .slice (hdA ((belowRows apA apC ap).map (·.1)) 1) ((gL (F_below ap) 1).length / 3 : Nat) (hdC ((belowRows apA apC ap).map (·.1)) 1), .slice worldsA worlds.length worldsC]) hE891 (fun _ => cf_Model_holds _ _) rfl rfl (by exact hc899) ?_)
          rintro _ w893 ⟨rfl, he897⟩ a894 hE895; clear hE891
          have hS896 := St.go hS854 he897; clear hS854
          refine ⟨fun h => Bool.noConfusion (h.symm.trans (show exm _ _ _ = true by kernel_rfl)), ?_⟩
          refine d_pure (fun _ h => h) (v := .bool (self mp0 mp1 mp2 (gL (F_below ap) 1) worlds)) 13 rfl hE895 (y_pick (b := false) rfl rfl) rfl (by kernel_rfl) (by kernel_rfl) (by kernel_rfl) rfl rfl (fun _ _ _ h => h) ?_; intro a900 hE901; clear hE895
          refine d_pure (fun _ h => h) (v := .bool (self mp0 mp1 mp2 (gL (F_below ap) 1) worlds)) 14 rfl hE901 (y_assign rfl) rfl (by kernel_rfl) (by kernel_rfl) (by kernel_rfl) rfl rfl (fun _ _ _ h => h) ?_; intro a902 hE903; clear hE901
          refine d_done (by kernel_rfl) ?_
          have hE904 := hE903.sub (L' := [(6, .bool (self mp0 mp1 mp2 (gL (F_below ap) 1) worlds))]) ⟨rfl, trivial⟩; clear hE903
          refine p_tn ?_
          refine wp_ret ?_
          refine p_br ?_
          refine p_tr ?_
          have hF : F_Model_holds_b self mp0 mp1 mp2 ap worlds = self mp0 mp1 mp2 (gL (F_below ap) 1) worlds := by unfold F_Model_holds_b; (first | (rw [hb860, ht832, ht752, ht739, ht694, ht656, ht609]; first | done | rfl) | (rw [← holds_L12 mp0 mp1 mp2 ap self, hb860, ht832, ht752, ht739, ht694, ht656, ht609]; first | done | rfl) | (exfalso; omega))
          refine c_ret1 hE904 rfl rfl ?_
          exact ⟨(by rw [hF]; first | done | (dsimp only; done) | rfl), hS896.ext⟩
        ·
         have hp905 := of_decide_eq_false ht832
         have hE906 := hE831; rw [ht832] at hE906; clear hE831
         refine c_seq ?_
         refine c_reg ?_
         refine q_step (v := .bool (decide ((gS 3 0 ap 0) = 6))) hE906 (y_eql rfl rfl) rfl rfl rfl ?_; intro a907 hE908; clear hE906
         refine q_step (v := .bool (decide ((gS 3 0 ap 0) = 6))) hE908 (y_assign rfl) rfl rfl rfl ?_; intro a909 hE910; clear hE908
         refine c_nil ?_
         have hE911 := hE910.sub (L' := [(2, .slice worldsA worlds.length worldsC), (3, .pointer (some ⟨b5, 0, none⟩)), (7, .pointer (some ⟨b574, 0, none⟩)), (8, .slice b587 ((F_below ap).length) c588), (95, .bool (decide ((gS 3 0 ap 0) = 6)))]) ⟨rfl, rfl, rfl, rfl, rfl, trivial⟩; clear hE910
         refine p_tn ?_
         refine c_cond hE911 rfl (fun ht912 => ?_) (fun ht912 => ?_)
         ·
          have hp913 := of_decide_eq_true ht912
          have hE914 := hE911; rw [ht912] at hE914; clear hE911
          refine c_seq ?_
          refine d_start (fun w w' => (fun w' => w'.heap[b5]? = some (.cells #[.int .i64 mp0, .slice mp1A mp1.length mp1C, .slice mp2A mp2.length mp2C] 69 (0, 0)) ∧ w'.cell? (adr b587 (Int.toNat 0)) = some (.slice (hdA ((belowRows apA apC ap).map (·.1)) 0) ((gL (F_below ap) 0).length / 3 : Nat) (hdC ((belowRows apA apC ap).map (·.1)) 0)) ∧ w'.heap[b5]? = some (.cells #[.int .i64 mp0, .slice mp1A mp1.length mp1C, .slice mp2A mp2.length mp2C] 69 (0, 0)) ∧ w'.cell? (adr b587 (Int.toNat 1)) = some (.slice (hdA ((belowRows apA apC ap).map (·.1)) 1) ((gL (F_below ap) 1).length / 3 : Nat) (hdC ((belowRows apA apC ap).map (·.1)) 1)) ∧ True) w → (fun w' => w'.heap[b5]? = some (.cells #[.int .i64 mp0, .slice mp1A mp1.length mp1C, .slice mp2A mp2.length mp2C] 69 (0, 0)) ∧ w'.cell? (adr b587 (Int.toNat 0)) = some (.slice (hdA ((belowRows apA apC ap).map (·.1)) 0) ((gL (F_below ap) 0).length / 3 : Nat) (hdC ((belowRows apA apC ap).map (·.1)) 0)) ∧ w'.heap[b5]? = some (.cells #[.int .i64 mp0, .slice mp1A mp1.length mp1C, .slice mp2A mp2.length mp2C] 69 (0, 0)) ∧ w'.cell? (adr b587 (Int.toNat 1)) = some (.slice (hdA ((belowRows apA apC ap).map (·.1)) 1) ((gL (F_below ap) 1).length / 3 : Nat) (hdC ((belowRows apA apC ap).map (·.1)) 1)) ∧ True) w') [0, 3, 8, 11] 16 (by kernel_rfl) rfl ?_
          intro w915 he916; have hS917 := St.go hS594 he916; clear hS594
          refine d_take (fun _ h => h) (fun _ _ h k => h k) (v := .agg #[.int .i64 mp0, .slice mp1A mp1.length mp1C, .slice mp2A mp2.length mp2C]) 0 rfl hE914 (S := fun w' => w'.heap[b5]? = some (.cells #[.int .i64 mp0, .slice mp1A mp1.length mp1C, .slice mp2A mp2.length mp2C] 69 (0, 0)) ∧ w'.cell? (adr b587 (Int.toNat 0)) = some (.slice (hdA ((belowRows apA apC ap).map (·.1)) 0) ((gL (F_below ap) 0).length / 3 : Nat) (hdC ((belowRows apA apC ap).map (·.1)) 0)) ∧ w'.heap[b5]? = some (.cells #[.int .i64 mp0, .slice mp1A mp1.length mp1C, .slice mp2A mp2.length mp2C] 69 (0, 0)) ∧ w'.cell? (adr b587 (Int.toNat 1)) = some (.slice (hdA ((belowRows apA apC ap).map (·.1)) 1) ((gL (F_below ap) 1).length / 3 : Nat) (hdC ((belowRows apA apC ap).map (·.1)) 1)) ∧ True) ⟨(St.row (i := 2) hS917 rfl _ (Ext.refl _)), (RdN.eltD (St.rdNo (i := 0) hS917 rfl) (by decide) (by omega) (by omega) _ (Ext.refl _)), (St.row (i := 2) hS917 rfl _ (Ext.refl _)), (RdN.eltD (St.rdNo (i := 0) hS917 rfl) (by decide) (by omega) (by omega) _ (Ext.refl _)), trivial⟩ (y_loadS Try.underlying69 rfl (by kernel_rfl) rfl (fun _ h => h.1)) rfl rfl (by kernel_rfl) (by kernel_rfl) (by kernel_rfl) (by kernel_rfl) rfl rfl (fun _ _ _ h => h) ?_; intro a918 hE919; clear hE914
          refine d_pure (fun _ h => h) (v := .slice b587 ((F_below ap).length) c588) 1 rfl hE919 (y_move rfl) rfl (by kernel_rfl) (by kernel_rfl) (by kernel_rfl) rfl rfl (fun _ _ _ h => h) ?_; intro a920 hE921; clear hE919
          refine d_pure (fun _ h => h) (v := .pointer (some (adr b587 (Int.toNat 0)))) 2 rfl hE921 (y_idx (by kernel_rfl) (fun _ => by kernel_rfl) rfl rfl (RdN.isS (m := 0) (St.rdNo (i := 0) hS917 rfl) (by omega) (by omega)) (by omega) (by omega) (Nat.mul_one _).symm) rfl (by kernel_rfl) (by kernel_rfl) (by kernel_rfl) rfl rfl (fun _ _ _ h => h) ?_; intro a922 hE923; clear hE921
          have hv924 : (0 : Int) ≤ 0 ∧ 0 < ((F_below ap).length : Int) := ⟨(by omega), (by omega)⟩
          refine d_take (fun _ h => h) (fun _ _ h k => h k) (v := .slice (hdA ((belowRows apA apC ap).map (·.1)) 0) ((gL (F_below ap) 0).length / 3 : Nat) (hdC ((belowRows apA apC ap).map (·.1)) 0)) 3 rfl hE923 (S := fun w' => w'.heap[b5]? = some (.cells #[.int .i64 mp0, .slice mp1A mp1.length mp1C, .slice mp2A mp2.length mp2C] 69 (0, 0)) ∧ w'.cell? (adr b587 (Int.toNat 0)) = some (.slice (hdA ((belowRows apA apC ap).map (·.1)) 0) ((gL (F_below ap) 0).length / 3 : Nat) (hdC ((belowRows apA apC ap).map (·.1)) 0)) ∧ w'.heap[b5]? = some (.cells #[.int .i64 mp0, .slice mp1A mp1.length mp1C, .slice mp2A mp2.length mp2C] 69 (0, 0)) ∧ w'.cell? (adr b587 (Int.toNat 1)) = some (.slice (hdA ((belowRows apA apC ap).map (·.1)) 1) ((gL (F_below ap) 1).length / 3 : Nat) (hdC ((belowRows apA apC ap).map (·.1)) 1)) ∧ True) ⟨(St.row (i := 2) hS917 rfl _ (Ext.refl _)), (RdN.eltD (St.rdNo (i := 0) hS917 rfl) (by decide) (by omega) (by omega) _ (Ext.refl _)), (St.row (i := 2) hS917 rfl _ (Ext.refl _)), (RdN.eltD (St.rdNo (i := 0) hS917 rfl) (by decide) (by omega) (by omega) _ (Ext.refl _)), trivial⟩ (y_load (fun _ => by kernel_rfl) rfl (fun _ h => h.2.1)) rfl rfl (by kernel_rfl) (by kernel_rfl) (by kernel_rfl) (by kernel_rfl) rfl rfl (fun _ _ _ h => h) ?_; intro a926 hE927; clear hE923
          refine d_pure (fun _ h => h) (v := .slice worldsA worlds.length worldsC) 4 rfl hE927 (y_move rfl) rfl (by kernel_rfl) (by kernel_rfl) (by kernel_rfl) rfl rfl (fun _ _ _ h => h) ?_; intro a928 hE929; clear hE927
          have hr936 := (RdN.rowD (St.rdNo (i := 0) hS917 rfl) (by decide) hv924.1 hv924.2)
          have hc937 := ih mp0 mp1A mp1.length mp1C mp1 mp2A mp2.length mp2C mp2 (hdA ((belowRows apA apC ap).map (·.1)) 0) ((gL (F_below ap) 0).length / 3 : Nat) (hdC ((belowRows apA apC ap).map (·.1)) 0) (gL (F_below ap) 0) worldsA worlds.length worldsC worlds w915 (St.rdR (i := 6) hS917 rfl) (St.rdR (i := 5) hS917 rfl) hr936 (St.rdR (i := 3) hS917 rfl) (by omega) (by omega) (by omega) (Nat.le_trans (below_le _ _) hl) (hpt.2 _ (by omega) (by omega)).1 (by first | assumption | (rw [sI_len]; assumption)) (by first | (have h9 := pm_frB hf (by omega) hfw (m := 0) (by omega) (by omega); with_reducible exact h9) | (have h9 := pm_frB hf (by omega) hfw (m := 1) (by omega) (by omega); with_reducible exact h9) | exact pm_frunI hf (by omega) hfw (by omega) (by omega) (by omega) hag) (by first | (have h := (hpt.2 0 (by omega) (by omega)).2; omega) | (have h := (hpt.2 1 (by omega) (by omega)).2; omega))
          refine d_only 5 (by kernel_rfl) rfl hE929 rfl (l_call (f := 110) (argv := [.agg #[.int .i64 mp0, .slice mp1A mp1.length mp1C, .slice mp2A mp2.length mp2C], .slice (hdA ((belowRows apA apC ap).map (·.1)) 0) ((gL (F_below ap) 0).length / 3 : Nat) (hdC ((belowRows apA apC ap).map (·.1)) 0), .slice worldsA worlds.length worldsC]) hE929 (fun _ => cf_Model_holds _ _) rfl rfl (by exact hc937) ?_)
          rintro _ w931 ⟨rfl, he935⟩ a932 hE933; clear hE929
          have hS934 := St.go hS917 he935; clear hS917
          refine ⟨fun _ _ => ⟨(St.row (i := 2) hS934 rfl _ (Ext.refl _)), (RdN.eltD (St.rdNo (i := 0) hS934 rfl) (by decide) (by omega) (by omega) _ (Ext.refl _)), (St.row (i := 2) hS934 rfl _ (Ext.refl _)), (RdN.eltD (St.rdNo (i := 0) hS934 rfl) (by decide) (by omega) (by omega) _ (Ext.refl _)), trivial⟩, ?_⟩
          refine d_pure (fun _ h => h) (v := .bool (!(self mp0 mp1 mp2 (gL (F_below ap) 0) worlds))) 6 rfl hE933 (y_not rfl) rfl (by kernel_rfl) (by kernel_rfl) (by kernel_rfl) rfl rfl (fun _ _ _ h => h) ?_; intro a938 hE939; clear hE933
          refine d_pure (fun _ h => h) (v := .bool (!(self mp0 mp1 mp2 (gL (F_below ap) 0) worlds))) 7 rfl hE939 (y_move rfl) rfl (by kernel_rfl) (by kernel_rfl) (by kernel_rfl) rfl rfl (fun _ _ _ h => h) ?_; intro a940 hE941; clear hE939
          rcases Bool.eq_false_or_eq_true (!(self mp0 mp1 mp2 (gL (F_below ap) 0) worlds)) with hb942 | hb942
          ·
           have hE943 := hE941; (try rw [hb942] at hE943); clear hE941
           have ht944 := bn_t hb942
           refine d_skip (fun _ h => h) 8 rfl hE943 rfl (by kernel_rfl) (by kernel_rfl) (by kernel_rfl) rfl rfl (fun _ _ _ h => h) ?_; intro a945 hE946; clear hE943
           refine d_skip (fun _ h => h) 9 rfl hE946 rfl (by kernel_rfl) (by kernel_rfl) (by kernel_rfl) rfl rfl (fun _ _ _ h => h) ?_; intro a947 hE948; clear hE946
           refine d_skip (fun _ h => h) 10 rfl hE948 rfl (by kernel_rfl) (by kernel_rfl) (by kernel_rfl) rfl rfl (fun _ _ _ h => h) ?_; intro a949 hE950; clear hE948
           refine d_skip (fun _ h => h) 11 rfl hE950 rfl (by kernel_rfl) (by kernel_rfl) (by kernel_rfl) rfl rfl (fun _ _ _ h => h) ?_; intro a951 hE952; clear hE950
           refine d_skip (fun _ h => h) 12 rfl hE952 rfl (by kernel_rfl) (by kernel_rfl) (by kernel_rfl) rfl rfl (fun _ _ _ h => h) ?_; intro a953 hE954; clear hE952
           refine d_skip (fun _ h => h) 13 rfl hE954 rfl (by kernel_rfl) (by kernel_rfl) (by kernel_rfl) rfl rfl (fun _ _ _ h => h) ?_; intro a955 hE956; clear hE954
           refine d_pure (fun _ h => h) (v := .bool true) 14 rfl hE956 (y_pick (b := true) rfl rfl) rfl (by kernel_rfl) (by kernel_rfl) (by kernel_rfl) rfl rfl (fun _ _ _ h => h) ?_; intro a957 hE958; clear hE956
           refine d_pure (fun _ h => h) (v := .bool true) 15 rfl hE958 (y_assign rfl) rfl (by kernel_rfl) (by kernel_rfl) (by kernel_rfl) rfl rfl (fun _ _ _ h => h) ?_; intro a959 hE960; clear hE958
           refine d_done (by kernel_rfl) ?_
           have hE961 := hE960.sub (L' := [(6, .bool true)]) ⟨rfl, trivial⟩; clear hE960
           refine p_tn ?_
           refine wp_ret ?_
           refine p_br ?_
           refine p_tr ?_
           have hF : F_Model_holds_b self mp0 mp1 mp2 ap worlds = true := by unfold F_Model_holds_b; (first | (rw [hb942, ht912, ht832, ht752, ht739, ht694, ht656, ht609]; first | done | rfl) | (rw [← holds_L12 mp0 mp1 mp2 ap self, hb942, ht912, ht832, ht752, ht739, ht694, ht656, ht609]; first | done | rfl) | (exfalso; omega))
           refine c_ret1 hE961 rfl rfl ?_
           exact ⟨(by rw [hF]; first | done | (dsimp only; done) | rfl), hS934.ext⟩
          ·
           have hE962 := hE941; (try rw [hb942] at hE962); clear hE941
           have ht963 := bn_f hb942
           refine d_take (fun _ h => h) (fun _ _ h k => h k) (v := .agg #[.int .i64 mp0, .slice mp1A mp1.length mp1C, .slice mp2A mp2.length mp2C]) 8 rfl hE962 (S := fun w' => w'.heap[b5]? = some (.cells #[.int .i64 mp0, .slice mp1A mp1.length mp1C, .slice mp2A mp2.length mp2C] 69 (0, 0)) ∧ w'.cell? (adr b587 (Int.toNat 0)) = some (.slice (hdA ((belowRows apA apC ap).map (·.1)) 0) ((gL (F_below ap) 0).length / 3 : Nat) (hdC ((belowRows apA apC ap).map (·.1)) 0)) ∧ w'.heap[b5]? = some (.cells #[.int .i64 mp0, .slice mp1A mp1.length mp1C, .slice mp2A mp2.length mp2C] 69 (0, 0)) ∧ w'.cell? (adr b587 (Int.toNat 1)) = some (.slice (hdA ((belowRows apA apC ap).map (·.1)) 1) ((gL (F_below ap) 1).length / 3 : Nat) (hdC ((belowRows apA apC ap).map (·.1)) 1)) ∧ True) ⟨(St.row (i := 2) hS934 rfl _ (Ext.refl _)), (RdN.eltD (St.rdNo (i := 0) hS934 rfl) (by decide) (by omega) (by omega) _ (Ext.refl _)), (St.row (i := 2) hS934 rfl _ (Ext.refl _)), (RdN.eltD (St.rdNo (i := 0) hS934 rfl) (by decide) (by omega) (by omega) _ (Ext.refl _)), trivial⟩ (y_loadS Try.underlying69 rfl (by kernel_rfl) rfl (fun _ h => h.2.2.1)) rfl rfl (by kernel_rfl) (by kernel_rfl) (by kernel_rfl) (by kernel_rfl) rfl rfl (fun _ _ _ h => h) ?_; intro a964 hE965; clear hE962
           refine d_pure (fun _ h => h) (v := .slice b587 ((F_below ap).length) c588) 9 rfl hE965 (y_move rfl) rfl (by kernel_rfl) (by kernel_rfl) (by kernel_rfl) rfl rfl (fun _ _ _ h => h) ?_; intro a966 hE967; clear hE965
           refine d_pure (fun _ h => h) (v := .pointer (some (adr b587 (Int.toNat 1)))) 10 rfl hE967 (y_idx (by kernel_rfl) (fun _ => by kernel_rfl) rfl rfl (RdN.isS (m := 1) (St.rdNo (i := 0) hS934 rfl) (by omega) (by omega)) (by omega) (by omega) (Nat.mul_one _).symm) rfl (by kernel_rfl) (by kernel_rfl) (by kernel_rfl) rfl rfl (fun _ _ _ h => h) ?_; intro a968 hE969; clear hE967
           have hv970 : (0 : Int) ≤ 1 ∧ 1 < ((F_below ap).length : Int) := ⟨(by omega), (by omega)⟩
           refine d_take (fun _ h => h) (fun _ _ h k => h k) (v := .slice (hdA ((belowRows apA apC ap).map (·.1)) 1) ((gL (F_below ap) 1).length / 3 : Nat) (hdC ((belowRows apA apC ap).map (·.1)) 1)) 11 rfl hE969 (S := fun w' => w'.heap[b5]? = some (.cells #[.int .i64 mp0, .slice mp1A mp1.length mp1C, .slice mp2A mp2.length mp2C] 69 (0, 0)) ∧ w'.cell? (adr b587 (Int.toNat 0)) = some (.slice (hdA ((belowRows apA apC ap).map (·.1)) 0) ((gL (F_below ap) 0).length / 3 : Nat) (hdC ((belowRows apA apC ap).map (·.1)) 0)) ∧ w'.heap[b5]? = some (.cells #[.int .i64 mp0, .slice mp1A mp1.length mp1C, .slice mp2A mp2.length mp2C] 69 (0, 0)) ∧ w'.cell? (adr b587 (Int.toNat 1)) = some (.slice (hdA ((belowRows apA apC ap).map (·.1)) 1) ((gL (F_below ap) 1).length / 3 : Nat) (hdC ((belowRows apA apC ap).map (·.1)) 1)) ∧ True) ⟨(St.row (i := 2) hS934 rfl _ (Ext.refl _)), (RdN.eltD (St.rdNo (i := 0) hS934 rfl) (by decide) (by omega) (by omega) _ (Ext.refl _)), (St.row (i := 2) hS934 rfl _ (Ext.refl _)), (RdN.eltD (St.rdNo (i := 0) hS934 rfl) (by decide) (by omega) (by omega) _ (Ext.refl _)), trivial⟩ (y_load (fun _ => by kernel_rfl) rfl (fun _ h => h.2.2.2.1)) rfl rfl (by kernel_rfl) (by kernel_rfl) (by kernel_rfl) (by kernel_rfl) rfl rfl (fun _ _ _ h => h) ?_; intro a972 hE973; clear hE969
           refine d_pure (fun _ h => h) (v := .slice worldsA worlds.length worldsC) 12 rfl hE973 (y_move rfl) rfl (by kernel_rfl) (by kernel_rfl) (by kernel_rfl) rfl rfl (fun _ _ _ h => h) ?_; intro a974 hE975; clear hE973
           have hr982 := (RdN.rowD (St.rdNo (i := 0) hS934 rfl) (by decide) hv970.1 hv970.2)
           have hc983 := ih mp0 mp1A mp1.length mp1C mp1 mp2A mp2.length mp2C mp2 (hdA ((belowRows apA apC ap).map (·.1)) 1) ((gL (F_below ap) 1).length / 3 : Nat) (hdC ((belowRows apA apC ap).map (·.1)) 1) (gL (F_below ap) 1) worldsA worlds.length worldsC worlds w931 (St.rdR (i := 6) hS934 rfl) (St.rdR (i := 5) hS934 rfl) hr982 (St.rdR (i := 3) hS934 rfl) (by omega) (by omega) (by omega) (Nat.le_trans (below_le _ _) hl) (hpt.2 _ (by omega) (by omega)).1 (by first | assumption | (rw [sI_len]; assumption)) (by first | (have h9 := pm_frB hf (by omega) hfw (m := 0) (by omega) (by omega); with_reducible exact h9) | (have h9 := pm_frB hf (by omega) hfw (m := 1) (by omega) (by omega); with_reducible exact h9) | exact pm_frunI hf (by omega) hfw (by omega) (by omega) (by omega) hag) (by first | (have h := (hpt.2 0 (by omega) (by omega)).2; omega) | (have h := (hpt.2 1 (by omega) (by omega)).2; omega))
           refine d_only 13 (by kernel_rfl) rfl hE975 rfl (l_call (f := 110) (argv := [.agg #[.int .i64 mp0, .slice mp1A mp1.length mp1C, .slice mp2A mp2.length mp2C], .slice (hdA ((belowRows apA apC ap).map (·.1)) 1) ((gL (F_below ap) 1).length / 3 : Nat) (hdC ((belowRows apA apC ap).map (·.1)) 1), .slice worldsA worlds.length worldsC]) hE975 (fun _ => cf_Model_holds _ _) rfl rfl (by exact hc983) ?_)
           rintro _ w977 ⟨rfl, he981⟩ a978 hE979; clear hE975
           have hS980 := St.go hS934 he981; clear hS934
           refine ⟨fun h => Bool.noConfusion (h.symm.trans (show exm _ _ _ = true by kernel_rfl)), ?_⟩
           refine d_pure (fun _ h => h) (v := .bool (self mp0 mp1 mp2 (gL (F_below ap) 1) worlds)) 14 rfl hE979 (y_pick (b := false) rfl rfl) rfl (by kernel_rfl) (by kernel_rfl) (by kernel_rfl) rfl rfl (fun _ _ _ h => h) ?_; intro a984 hE985; clear hE979
           refine d_pure (fun _ h => h) (v := .bool (self mp0 mp1 mp2 (gL (F_below ap) 1) worlds)) 15 rfl hE985 (y_assign rfl) rfl (by kernel_rfl) (by kernel_rfl) (by kernel_rfl) rfl rfl (fun _ _ _ h => h) ?_; intro a986 hE987; clear hE985
           refine d_done (by kernel_rfl) ?_
           have hE988 := hE987.sub (L' := [(6, .bool (self mp0 mp1 mp2 (gL (F_below ap) 1) worlds))]) ⟨rfl, trivial⟩; clear hE987
           refine p_tn ?_
           refine wp_ret ?_
           refine p_br ?_
           refine p_tr ?_
           have hF : F_Model_holds_b self mp0 mp1 mp2 ap worlds = self mp0 mp1 mp2 (gL (F_below ap) 1) worlds := by unfold F_Model_holds_b; (first | (rw [hb942, ht912, ht832, ht752, ht739, ht694, ht656, ht609]; first | done | rfl) | (rw [← holds_L12 mp0 mp1 mp2 ap self, hb942, ht912, ht832, ht752, ht739, ht694, ht656, ht609]; first | done | rfl) | (exfalso; omega))
           refine c_ret1 hE988 rfl rfl ?_
           exact ⟨(by rw [hF]; first | done | (dsimp only; done) | rfl), hS980.ext⟩
         ·
          have hp989 := of_decide_eq_false ht912
          have hE990 := hE911; rw [ht912] at hE990; clear hE911
          refine wp_skip ?_
          refine p_bn ?_
          refine p_tn ?_
          refine c_seq ?_
          refine c_reg ?_
          refine q_step (v := .slice worldsA worlds.length worldsC) hE990 (y_move rfl) rfl rfl rfl ?_; intro a991 hE992; clear hE990
          have hc999 := c_z_Clone worldsA worlds.length worldsC worlds w591 (St.rdR (i := 3) hS594 rfl) (by omega)
          refine l_step hE992 rfl (l_call (f := 178) (argv := [.slice worldsA worlds.length worldsC]) hE992 (fun _ => cf_z_CloneS _ _) rfl rfl (by exact hc999) ?_)
          rintro _ w994 ⟨b1000, c1001, rfl, ho1002, he998⟩ a995 hE996; clear hE992
          have hS997 := St.own hS594 he998 ho1002; clear hS594
          refine q_step (v := .slice b1000 ((worlds).length) c1001) hE996 (y_assign rfl) rfl rfl rfl ?_; intro a1003 hE1004; clear hE996
          refine c_nil ?_
          have hE1005 := hE1004.sub (L' := [(3, .pointer (some ⟨b5, 0, none⟩)), (7, .pointer (some ⟨b574, 0, none⟩)), (8, .slice b587 ((F_below ap).length) c588), (9, .slice b1000 ((worlds).length) c1001)]) ⟨rfl, rfl, rfl, rfl, trivial⟩; clear hE1004
          refine p_tn ?_
          refine c_seq ?_
          refine c_reg ?_
          refine q_step (v := .pointer (some ⟨b574, 0, none⟩)) hE1005 (y_field rfl (fun _ => by kernel_rfl)) rfl rfl rfl ?_; intro a1006 hE1007; clear hE1005
          refine q_step (v := .int .i64 (gS 3 0 ap 0)) hE1007 (y_load (fun _ => by kernel_rfl) rfl (St.cell (i := 2) hS997 rfl rfl)) rfl rfl rfl ?_; intro a1008 hE1009; clear hE1007
          refine q_step (v := .bool (decide ((gS 3 0 ap 0) = 8))) hE1009 (y_eql rfl rfl) rfl rfl rfl ?_; intro a1010 hE1011; clear hE1009
          refine q_step (v := .bool (decide ((gS 3 0 ap 0) = 8))) hE1011 (y_assign rfl) rfl rfl rfl ?_; intro a1012 hE1013; clear hE1011
          refine c_nil ?_
          have hE1014 := hE1013.sub (L' := [(3, .pointer (some ⟨b5, 0, none⟩)), (7, .pointer (some ⟨b574, 0, none⟩)), (8, .slice b587 ((F_below ap).length) c588), (9, .slice b1000 ((worlds).length) c1001), (10, .bool (decide ((gS 3 0 ap 0) = 8)))]) ⟨rfl, rfl, rfl, rfl, rfl, trivial⟩; clear hE1013
          refine p_tn ?_
          refine c_seq ?_
          refine c_seq ?_
          refine c_reg ?_
          refine q_step (v := .pointer (some ⟨b5, 0, none⟩)) hE1014 (y_field rfl (fun _ => by kernel_rfl)) rfl rfl rfl ?_; intro a1015 hE1016; clear hE1014
          refine q_step (v := .pointer (some ⟨b5, 0, none⟩)) hE1016 (y_field rfl (fun _ => by kernel_rfl)) rfl rfl rfl ?_; intro a1017 hE1018; clear hE1016
          refine q_step (v := .int .i64 mp0) hE1018 (y_load (fun _ => by kernel_rfl) rfl (St.cell (i := 3) hS997 rfl rfl)) rfl rfl rfl ?_; intro a1019 hE1020; clear hE1018
          refine q_step (v := .int .i64 0) hE1020 (y_move rfl) rfl rfl rfl ?_; intro a1021 hE1022; clear hE1020
          refine c_nil ?_
          have hE1023 := hE1022.sub (L' := [(3, .pointer (some ⟨b5, 0, none⟩)), (7, .pointer (some ⟨b574, 0, none⟩)), (8, .slice b587 ((F_below ap).length) c588), (9, .slice b1000 ((worlds).length) c1001), (10, .bool (decide ((gS 3 0 ap 0) = 8))), (119, .int .i64 mp0), (120, .int .i64 0)]) ⟨rfl, rfl, rfl, rfl, rfl, rfl, rfl, trivial⟩; clear hE1022
          refine p_tn ?_
          refine c_cut1 (fun a' w' => isOk (F_Model_holds_L2 mp0 mp1 mp2 ap self (Int.toNat (mp0 - 0) + 1) 0 worlds) = true ∧ (0 ≤ ((okD (F_Model_holds_L2 mp0 mp1 mp2 ap self (Int.toNat (mp0 - 0) + 1) 0 worlds)).1)) ∧ (((okD (F_Model_holds_L2 mp0 mp1 mp2 ap self (Int.toNat (mp0 - 0) + 1) 0 worlds)).2).length = 10) ∧ (∀ x : Nat, ¬ (x : Int) = gS 3 1 ap 0 → gI ((okD (F_Model_holds_L2 mp0 mp1 mp2 ap self (Int.toNat (mp0 - 0) + 1) 0 worlds)).2) (x : Int) = gI worlds (x : Int)) ∧ E a' 140 [(3, .pointer (some ⟨b5, 0, none⟩)), (7, .pointer (some ⟨b574, 0, none⟩)), (8, .slice b587 ((F_below ap).length) c588), (9, .slice b1000 ((worlds).length) c1001), (10, .bool (decide ((gS 3 0 ap 0) = 8))), (119, .int .i64 mp0), (120, .int .i64 ((okD (F_Model_holds_L2 mp0 mp1 mp2 ap self (Int.toNat (mp0 - 0) + 1) 0 worlds)).1))] ∧ St w w' [.own 2 1 b1000 ((worlds).length) c1001 ((okD (F_Model_holds_L2 mp0 mp1 mp2 ap self (Int.toNat (mp0 - 0) + 1) 0 worlds)).2), .nest 59 3 none b587 c588 ((belowRows apA apC ap).map (·.1)) (F_below ap), .blk b574 #[.int .i64 (gS 3 0 ap 0), .int .i64 (gS 3 1 ap 0), .int .i64 (gS 3 2 ap 0)] 115, .blk b5 #[.int .i64 mp0, .slice mp1A mp1.length mp1C, .slice mp2A mp2.length mp2C] 69, .rd 1 worldsA worlds.length worldsC worlds, .rd 3 apA ((ap).length / 3 : Nat) apC ap, .rd 1 mp2A mp2.length mp2C mp2, .rd 1 mp1A mp1.length mp1C mp1]) ?_ ?_
          ·
           refine wp_block ?_
           refine c_loop (fun r a' w' => ∃ t120L2 : Int, ∃ inner9L2 : List Int, F_Model_holds_L2 mp0 mp1 mp2 ap self r t120L2 inner9L2 = F_Model_holds_L2 mp0 mp1 mp2 ap self (Int.toNat (mp0 - 0) + 1) 0 worlds ∧ Int.toNat (mp0 - t120L2) < r ∧ (0 ≤ t120L2) ∧ (inner9L2.length = 10) ∧ (∀ x : Nat, ¬ (x : Int) = gS 3 1 ap 0 → gI inner9L2 (x : Int) = gI worlds (x : Int)) ∧ E a' 140 [(3, .pointer (some ⟨b5, 0, none⟩)), (7, .pointer (some ⟨b574, 0, none⟩)), (8, .slice b587 ((F_below ap).length) c588), (9, .slice b1000 ((worlds).length) c1001), (10, .bool (decide ((gS 3 0 ap 0) = 8))), (119, .int .i64 mp0), (120, .int .i64 t120L2)] ∧ St w w' [.own 2 1 b1000 ((worlds).length) c1001 inner9L2, .nest 59 3 none b587 c588 ((belowRows apA apC ap).map (·.1)) (F_below ap), .blk b574 #[.int .i64 (gS 3 0 ap 0), .int .i64 (gS 3 1 ap 0), .int .i64 (gS 3 2 ap 0)] 115, .blk b5 #[.int .i64 mp0, .slice mp1A mp1.length mp1C, .slice mp2A mp2.length mp2C] 69, .rd 1 worldsA worlds.length worldsC worlds, .rd 3 apA ((ap).length / 3 : Nat) apC ap, .rd 1 mp2A mp2.length mp2C mp2, .rd 1 mp1A mp1.length mp1C mp1]) (r := (Int.toNat (mp0 - 0) + 1)) ?_ ?_
           · exact ⟨0, worlds, rfl, Nat.lt_succ_self _, (by first | omega | (simp only [sS_len, sL_len]; omega) | (simp only [List.length_replicate, sI_len]; omega) | (simp only [List.length_append, List.length_cons, List.length_nil, sI_len, cond_true, cond_false]; omega) | (simp only [List.length_append, List.length_cons, List.length_nil, sI_len, cond_eq_ite, apply_ite List.length]; split <;> simp only [List.length_append, List.length_cons, List.length_nil, sI_len] <;> omega) | grind), hw, (fun _ _ => rfl), (hE1023.sub (L' := [(3, .pointer (some ⟨b5, 0, none⟩)), (7, .pointer (some ⟨b574, 0, none⟩)), (8, .slice b587 ((F_below ap).length) c588), (9, .slice b1000 ((worlds).length) c1001), (10, .bool (decide ((gS 3 0 ap 0) = 8))), (119, .int .i64 mp0), (120, .int .i64 0)]) ⟨rfl, rfl, rfl, rfl, rfl, rfl, rfl, trivial⟩), (St.pick (Γ' := [.own 2 1 b1000 ((worlds).length) c1001 worlds, .nest 59 3 none b587 c588 ((belowRows apA apC ap).map (·.1)) (F_below ap), .blk b574 #[.int .i64 (gS 3 0 ap 0), .int .i64 (gS 3 1 ap 0), .int .i64 (gS 3 2 ap 0)] 115, .blk b5 #[.int .i64 mp0, .slice mp1A mp1.length mp1C, .slice mp2A mp2.length mp2C] 69, .rd 1 worldsA worlds.length worldsC worlds, .rd 3 apA ((ap).length / 3 : Nat) apC ap, .rd 1 mp2A mp2.length mp2C mp2, .rd 1 mp1A mp1.length mp1C mp1]) hS997 [0, 1, 2, 3, 4, 5, 6, 7] (by decide) rfl)⟩
           ·
            clear hE1023 hS997
            rintro r1034 a1025 w1026 ⟨t120L2, inner9L2, hT1029, hr1030, hi1031, hi1032, hi1033, hE1027, hS1028⟩
            obtain ⟨r1034, rfl⟩ : ∃ r', r1034 = r' + 1 := ⟨r1034 - 1, by omega⟩
            refine c_seq ?_
            refine c_reg ?_
            refine q_step (v := .bool (decide (t120L2 < mp0))) hE1027 (y_lss rfl rfl) rfl rfl rfl ?_; intro a1035 hE1036; clear hE1027
            refine c_nil ?_
            have hE1037 := hE1036.sub (L' := [(3, .pointer (some ⟨b5, 0, none⟩)), (7, .pointer (some ⟨b574, 0, none⟩)), (8, .slice b587 ((F_below ap).length) c588), (9, .slice b1000 ((worlds).length) c1001), (10, .bool (decide ((gS 3 0 ap 0) = 8))), (119, .int .i64 mp0), (120, .int .i64 t120L2), (121, .bool (decide (t120L2 < mp0)))]) ⟨rfl, rfl, rfl, rfl, rfl, rfl, rfl, rfl, trivial⟩; clear hE1036
            refine p_tn ?_
            refine c_seq ?_
            refine c_cond hE1037 rfl (fun ht1038 => ?_) (fun ht1038 => ?_)
            ·
             have hp1039 := of_decide_eq_true ht1038
             have hE1040 := hE1037; rw [ht1038] at hE1040; clear hE1037
             have hag := (show ∀ x : Nat, ¬ (x : Int) = gS 3 1 ap 0 → gI inner9L2 (x : Int) = gI worlds (x : Int) by assumption)
             refine wp_skip ?_
             refine p_tn ?_
             refine c_seq ?_
             refine wp_block ?_
             refine c_seq ?_
             refine c_reg ?_
             refine q_step (v := .int .i64 t120L2) hE1040 (y_move rfl) rfl rfl rfl ?_; intro a1041 hE1042; clear hE1040
             refine q_step (v := .int .i64 t120L2) hE1042 (y_assign rfl) rfl rfl rfl ?_; intro a1043 hE1044; clear hE1042
             refine c_nil ?_
             have hE1045 := hE1044.sub (L' := [(3, .pointer (some ⟨b5, 0, none⟩)), (7, .pointer (some ⟨b574, 0, none⟩)), (8, .slice b587 ((F_below ap).length) c588), (9, .slice b1000 ((worlds).length) c1001), (10, .bool (decide ((gS 3 0 ap 0) = 8))), (11, .int .i64 t120L2), (119, .int .i64 mp0), (120, .int .i64 t120L2)]) ⟨rfl, rfl, rfl, rfl, rfl, rfl, rfl, rfl, trivial⟩; clear hE1044
             refine p_tn ?_
             refine c_seq ?_
             refine c_reg ?_
             refine q_step (v := .slice b1000 ((worlds).length) c1001) hE1045 (y_move rfl) rfl rfl rfl ?_; intro a1046 hE1047; clear hE1045
             refine q_step (v := .pointer (some ⟨b574, 1, none⟩)) hE1047 (y_field rfl (fun _ => by kernel_rfl)) rfl rfl rfl ?_; intro a1048 hE1049; clear hE1047
             refine q_step (v := .int .i64 (gS 3 1 ap 0)) hE1049 (y_load (fun _ => by kernel_rfl) rfl (St.cell (i := 2) hS1028 rfl rfl)) rfl rfl rfl ?_; intro a1050 hE1051; clear hE1049
             refine q_step (v := .int .i64 t120L2) hE1051 (y_move rfl) rfl rfl rfl ?_; intro a1052 hE1053; clear hE1051
             refine q_step (v := .pointer (some (adr b1000 (Int.toNat (gS 3 1 ap 0))))) hE1053 (y_idx (by kernel_rfl) (fun _ => by kernel_rfl) rfl rfl (RdS.isS (m := gS 3 1 ap 0) (St.rdO (i := 0) hS1028 rfl) (by omega) (by omega)) (by omega) (by omega) (Nat.mul_one _).symm) rfl rfl rfl ?_; intro a1054 hE1055; clear hE1053
             refine l_step hE1055 rfl (l_store (k := 0) hS1028 hE1055 (fun _ => by kernel_rfl) rfl rfl rfl (by omega) (by omega) ?_)
             intro w1057 hS1060 a1058 hE1059; clear hS1028 hE1055
             refine c_nil ?_
             have hE1062 := hE1059.sub (L' := [(3, .pointer (some ⟨b5, 0, none⟩)), (7, .pointer (some ⟨b574, 0, none⟩)), (8, .slice b587 ((F_below ap).length) c588), (9, .slice b1000 ((worlds).length) c1001), (10, .bool (decide ((gS 3 0 ap 0) = 8))), (119, .int .i64 mp0), (120, .int .i64 t120L2)]) ⟨rfl, rfl, rfl, rfl, rfl, rfl, rfl, trivial⟩; clear hE1059
             refine p_tn ?_
             refine c_seq ?_
             refine d_start (fun w w' => (fun w' => w'.heap[b5]? = some (.cells #[.int .i64 mp0, .slice mp1A mp1.length mp1C, .slice mp2A mp2.length mp2C] 69 (0, 0)) ∧ w'.cell? (adr b587 (Int.toNat 0)) = some (.slice (hdA ((belowRows apA apC ap).map (·.1)) 0) ((gL (F_below ap) 0).length / 3 : Nat) (hdC ((belowRows apA apC ap).map (·.1)) 0)) ∧ True) w → (fun w' => w'.heap[b5]? = some (.cells #[.int .i64 mp0, .slice mp1A mp1.length mp1C, .slice mp2A mp2.length mp2C] 69 (0, 0)) ∧ w'.cell? (adr b587 (Int.toNat 0)) = some (.slice (hdA ((belowRows apA apC ap).map (·.1)) 0) ((gL (F_below ap) 0).length / 3 : Nat) (hdC ((belowRows apA apC ap).map (·.1)) 0)) ∧ True) w') [0, 3] 8 (by kernel_rfl) rfl ?_
             intro w1063 he1064; have hS1065 := St.go hS1060 he1064; clear hS1060
             refine d_take (fun _ h => h) (fun _ _ h k => h k) (v := .agg #[.int .i64 mp0, .slice mp1A mp1.length mp1C, .slice mp2A mp2.length mp2C]) 0 rfl hE1062 (S := fun w' => w'.heap[b5]? = some (.cells #[.int .i64 mp0, .slice mp1A mp1.length mp1C, .slice mp2A mp2.length mp2C] 69 (0, 0)) ∧ w'.cell? (adr b587 (Int.toNat 0)) = some (.slice (hdA ((belowRows apA apC ap).map (·.1)) 0) ((gL (F_below ap) 0).length / 3 : Nat) (hdC ((belowRows apA apC ap).map (·.1)) 0)) ∧ True) ⟨(St.row (i := 3) hS1065 rfl _ (Ext.refl _)), (RdN.eltD (St.rdNo (i := 1) hS1065 rfl) (by decide) (by omega) (by omega) _ (Ext.refl _)), trivial⟩ (y_loadS Try.underlying69 rfl (by kernel_rfl) rfl (fun _ h => h.1)) rfl rfl (by kernel_rfl) (by kernel_rfl) (by kernel_rfl) (by kernel_rfl) rfl rfl (fun _ _ _ h => h) ?_; intro a1066 hE1067; clear hE1062
             refine d_pure (fun _ h => h) (v := .slice b587 ((F_below ap).length) c588) 1 rfl hE1067 (y_move rfl) rfl (by kernel_rfl) (by kernel_rfl) (by kernel_rfl) rfl rfl (fun _ _ _ h => h) ?_; intro a1068 hE1069; clear hE1067
             refine d_pure (fun _ h => h) (v := .pointer (some (adr b587 (Int.toNat 0)))) 2 rfl hE1069 (y_idx (by kernel_rfl) (fun _ => by kernel_rfl) rfl rfl (RdN.isS (m := 0) (St.rdNo (i := 1) hS1065 rfl) (by omega) (by omega)) (by omega) (by omega) (Nat.mul_one _).symm) rfl (by kernel_rfl) (by kernel_rfl) (by kernel_rfl) rfl rfl (fun _ _ _ h => h) ?_; intro a1070 hE1071; clear hE1069
             have hv1072 : (0 : Int) ≤ 0 ∧ 0 < ((F_below ap).length : Int) := ⟨(by omega), (by omega)⟩
             refine d_take (fun _ h => h) (fun _ _ h k => h k) (v := .slice (hdA ((belowRows apA apC ap).map (·.1)) 0) ((gL (F_below ap) 0).length / 3 : Nat) (hdC ((belowRows apA apC ap).map (·.1)) 0)) 3 rfl hE1071 (S := fun w' => w'.heap[b5]? = some (.cells #[.int .i64 mp0, .slice mp1A mp1.length mp1C, .slice mp2A mp2.length mp2C] 69 (0, 0)) ∧ w'.cell? (adr b587 (Int.toNat 0)) = some (.slice (hdA ((belowRows apA apC ap).map (·.1)) 0) ((gL (F_below ap) 0).length / 3 : Nat) (hdC ((belowRows apA apC ap).map (·.1)) 0)) ∧ True) ⟨(St.row (i := 3) hS1065 rfl _ (Ext.refl _)), (RdN.eltD (St.rdNo (i := 1) hS1065 rfl) (by decide) (by omega) (by omega) _ (Ext.refl _)), trivial⟩ (y_load (fun _ => by kernel_rfl) rfl (fun _ h => h.2.1)) rfl rfl (by kernel_rfl) (by kernel_rfl) (by kernel_rfl) (by kernel_rfl) rfl rfl (fun _ _ _ h => h) ?_; intro a1074 hE1075; clear hE1071
             refine d_pure (fun _ h => h) (v := .slice b1000 ((worlds).length) c1001) 4 rfl hE1075 (y_move rfl) rfl (by kernel_rfl) (by kernel_rfl) (by kernel_rfl) rfl rfl (fun _ _ _ h => h) ?_; intro a1076 hE1077; clear hE1075
             refine d_pure (fun _ h => h) (v := .bool (decide ((gS 3 0 ap 0) = 8))) 6 rfl hE1077 (y_move rfl) rfl (by kernel_rfl) (by kernel_rfl) (by kernel_rfl) rfl rfl (fun _ _ _ h => h) ?_; intro a1078 hE1079; clear hE1077
             have hr1086 := (RdN.rowD (St.rdNo (i := 1) hS1065 rfl) (by decide) hv1072.1 hv1072.2)
             have hc1087 := ih mp0 mp1A mp1.length mp1C mp1 mp2A mp2.length mp2C mp2 (hdA ((belowRows apA apC ap).map (·.1)) 0) ((gL (F_below ap) 0).length / 3 : Nat) (hdC ((belowRows apA apC ap).map (·.1)) 0) (gL (F_below ap) 0) b1000 ((worlds).length) c1001 (sI inner9L2 (gS 3 1 ap 0) t120L2) w1063 (St.rdR (i := 7) hS1065 rfl) (St.rdR (i := 6) hS1065 rfl) hr1086 (St.rdO (i := 0) hS1065 rfl) (by omega) (by omega) (by omega) (Nat.le_trans (below_le _ _) hl) (hpt.2 _ (by omega) (by omega)).1 (by first | assumption | (rw [sI_len]; assumption)) (by first | (have h9 := pm_frB hf (by omega) hfw (m := 0) (by omega) (by omega); with_reducible exact h9) | (have h9 := pm_frB hf (by omega) hfw (m := 1) (by omega) (by omega); with_reducible exact h9) | exact pm_frunI hf (by omega) hfw (by omega) (by omega) (by omega) hag) (by first | (have h := (hpt.2 0 (by omega) (by omega)).2; omega) | (have h := (hpt.2 1 (by omega) (by omega)).2; omega))
             refine d_only 5 (by kernel_rfl) rfl hE1079 rfl (l_call (f := 110) (argv := [.agg #[.int .i64 mp0, .slice mp1A mp1.length mp1C, .slice mp2A mp2.length mp2C], .slice (hdA ((belowRows apA apC ap).map (·.1)) 0) ((gL (F_below ap) 0).length / 3 : Nat) (hdC ((belowRows apA apC ap).map (·.1)) 0), .slice b1000 ((worlds).length) c1001]) hE1079 (fun _ => cf_Model_holds _ _) rfl rfl (by exact hc1087) ?_)
             rintro _ w1081 ⟨rfl, he1085⟩ a1082 hE1083; clear hE1079
             have hS1084 := St.go hS1065 he1085; clear hS1065
             refine ⟨fun h => Bool.noConfusion (h.symm.trans (show exm _ _ _ = true by kernel_rfl)), ?_⟩
             refine d_pure (fun _ h => h) (v := .bool ((self mp0 mp1 mp2 (gL (F_below ap) 0) (sI inner9L2 (gS 3 1 ap 0) t120L2)) == (decide ((gS 3 0 ap 0) = 8)))) 7 rfl hE1083 (y_eqlb (by kernel_rfl) rfl rfl) rfl (by kernel_rfl) (by kernel_rfl) (by kernel_rfl) rfl rfl (fun _ _ _ h => h) ?_; intro a1088 hE1089; clear hE1083
             refine d_done (by kernel_rfl) ?_
             have hE1090 := hE1089.sub (L' := [(3, .pointer (some ⟨b5, 0, none⟩)), (7, .pointer (some ⟨b574, 0, none⟩)), (8, .slice b587 ((F_below ap).length) c588), (9, .slice b1000 ((worlds).length) c1001), (10, .bool (decide ((gS 3 0 ap 0) = 8))), (119, .int .i64 mp0), (120, .int .i64 t120L2), (135, .bool ((self mp0 mp1 mp2 (gL (F_below ap) 0) (sI inner9L2 (gS 3 1 ap 0) t120L2)) == (decide ((gS 3 0 ap 0) = 8))))]) ⟨rfl, rfl, rfl, rfl, rfl, rfl, rfl, rfl, trivial⟩; clear hE1089
             refine p_tn ?_
             refine c_cond hE1090 rfl (fun ht1091 => ?_) (fun ht1091 => ?_)
             ·
              have hE1092 := hE1090; rw [ht1091] at hE1092; clear hE1090
              refine c_seq ?_
              refine c_reg ?_
              refine q_step (v := .bool (decide ((gS 3 0 ap 0) = 8))) hE1092 (y_move rfl) rfl rfl rfl ?_; intro a1093 hE1094; clear hE1092
              refine q_step (v := .bool (decide ((gS 3 0 ap 0) = 8))) hE1094 (y_assign rfl) rfl rfl rfl ?_; intro a1095 hE1096; clear hE1094
              refine c_nil ?_
              have hE1097 := hE1096.sub (L' := [(6, .bool (decide ((gS 3 0 ap 0) = 8)))]) ⟨rfl, trivial⟩; clear hE1096
              refine p_tn ?_
              refine wp_ret ?_
              refine p_br ?_
              refine p_tr ?_
              have hX1098 : F_Model_holds_L2 mp0 mp1 mp2 ap self (Int.toNat (mp0 - 0) + 1) 0 worlds = .error (decide ((gS 3 0 ap 0) = 8)) := hT1029.symm.trans (show F_Model_holds_L2b mp0 mp1 mp2 ap self (F_Model_holds_L2 mp0 mp1 mp2 ap self r1034) t120L2 inner9L2 = .error (decide ((gS 3 0 ap 0) = 8)) by unfold F_Model_holds_L2b; rw [ht1091, ht1038]; first | done | rfl)
              refine p_tr (p_br (p_tr ?_))
              refine p_tr ?_
              have hF : F_Model_holds_b self mp0 mp1 mp2 ap worlds = decide ((gS 3 0 ap 0) = 8) := by unfold F_Model_holds_b; (first | (rw [hX1098, ht912, ht832, ht752, ht739, ht694, ht656, ht609]; first | done | rfl) | (rw [← holds_L12 mp0 mp1 mp2 ap self, hX1098, ht912, ht832, ht752, ht739, ht694, ht656, ht609]; first | done | rfl) | (exfalso; omega))
              refine c_ret1 hE1097 rfl rfl ?_
              exact ⟨(by rw [hF]; first | done | (dsimp only; done) | rfl), hS1084.ext⟩
             ·
              have hE1099 := hE1090; rw [ht1091] at hE1099; clear hE1090
              refine wp_skip ?_
              refine p_bn ?_
              refine p_tn ?_
              refine c_reg ?_
              refine q_step (v := .int .i64 (t120L2 + 1)) hE1099 (y_add rfl rfl ⟨(by omega), (by omega)⟩) rfl rfl rfl ?_; intro a1100 hE1101; clear hE1099
              refine q_step (v := .int .i64 (t120L2 + 1)) hE1101 (y_move rfl) rfl rfl rfl ?_; intro a1102 hE1103; clear hE1101
              refine c_nil ?_
              have hE1104 := hE1103.sub (L' := [(3, .pointer (some ⟨b5, 0, none⟩)), (7, .pointer (some ⟨b574, 0, none⟩)), (8, .slice b587 ((F_below ap).length) c588), (9, .slice b1000 ((worlds).length) c1001), (10, .bool (decide ((gS 3 0 ap 0) = 8))), (119, .int .i64 mp0), (120, .int .i64 (t120L2 + 1))]) ⟨rfl, rfl, rfl, rfl, rfl, rfl, rfl, trivial⟩; clear hE1103
              refine p_tn ⟨r1034, Nat.lt_succ_self _, t120L2 + 1, sI inner9L2 (gS 3 1 ap 0) t120L2, (hT1029.symm.trans (show F_Model_holds_L2b mp0 mp1 mp2 ap self (F_Model_holds_L2 mp0 mp1 mp2 ap self r1034) t120L2 inner9L2 = F_Model_holds_L2 mp0 mp1 mp2 ap self r1034 (t120L2 + 1) (sI inner9L2 (gS 3 1 ap 0) t120L2) by unfold F_Model_holds_L2b; rw [ht1091, ht1038]; first | done | rfl)).symm, (by omega), (by first | omega | (simp only [sS_len, sL_len]; omega) | (simp only [List.length_replicate, sI_len]; omega) | (simp only [List.length_append, List.length_cons, List.length_nil, sI_len, cond_true, cond_false]; omega) | (simp only [List.length_append, List.length_cons, List.length_nil, sI_len, cond_eq_ite, apply_ite List.length]; split <;> simp only [List.length_append, List.length_cons, List.length_nil, sI_len] <;> omega) | grind), (by rw [sI_len]; assumption), (agree_sI (by omega) (by omega) hag), (hE1104.sub (L' := [(3, .pointer (some ⟨b5, 0, none⟩)), (7, .pointer (some ⟨b574, 0, none⟩)), (8, .slice b587 ((F_below ap).length) c588), (9, .slice b1000 ((worlds).length) c1001), (10, .bool (decide ((gS 3 0 ap 0) = 8))), (119, .int .i64 mp0), (120, .int .i64 (t120L2 + 1))]) ⟨rfl, rfl, rfl, rfl, rfl, rfl, rfl, trivial⟩), (St.pick (Γ' := [.own 2 1 b1000 ((worlds).length) c1001 (sI inner9L2 (gS 3 1 ap 0) t120L2), .nest 59 3 none b587 c588 ((belowRows apA apC ap).map (·.1)) (F_below ap), .blk b574 #[.int .i64 (gS 3 0 ap 0), .int .i64 (gS 3 1 ap 0), .int .i64 (gS 3 2 ap 0)] 115, .blk b5 #[.int .i64 mp0, .slice mp1A mp1.length mp1C, .slice mp2A mp2.length mp2C] 69, .rd 1 worldsA worlds.length worldsC worlds, .rd 3 apA ((ap).length / 3 : Nat) apC ap, .rd 1 mp2A mp2.length mp2C mp2, .rd 1 mp1A mp1.length mp1C mp1]) hS1084 [0, 1, 2, 3, 4, 5, 6, 7] (by decide) rfl)⟩
            ·
             have hp1105 := of_decide_eq_false ht1038
             have hE1106 := hE1037; rw [ht1038] at hE1106; clear hE1037
             refine wp_exit ?_
             refine p_te ?_
             have hX1107 : F_Model_holds_L2 mp0 mp1 mp2 ap self (Int.toNat (mp0 - 0) + 1) 0 worlds = .ok (t120L2, inner9L2) := hT1029.symm.trans (show F_Model_holds_L2b mp0 mp1 mp2 ap self (F_Model_holds_L2 mp0 mp1 mp2 ap self r1034) t120L2 inner9L2 = .ok (t120L2, inner9L2) by unfold F_Model_holds_L2b; rw [ht1038]; first | done | rfl)
             refine p_te (p_be (p_tn ?_))
             exact ⟨(by rw [hX1107]; rfl), (by rw [hX1107]; exact (show 0 ≤ t120L2 from (by first | omega | (simp only [sS_len, sL_len]; omega) | (simp only [List.length_replicate, sI_len]; omega) | (simp only [List.length_append, List.length_cons, List.length_nil, sI_len, cond_true, cond_false]; omega) | (simp only [List.length_append, List.length_cons, List.length_nil, sI_len, cond_eq_ite, apply_ite List.length]; split <;> simp only [List.length_append, List.length_cons, List.length_nil, sI_len] <;> omega) | grind))), (by rw [hX1107]; exact (show inner9L2.length = 10 from (by first | omega | (simp only [sS_len, sL_len]; omega) | (simp only [List.length_replicate, sI_len]; omega) | (simp only [List.length_append, List.length_cons, List.length_nil, sI_len, cond_true, cond_false]; omega) | (simp only [List.length_append, List.length_cons, List.length_nil, sI_len, cond_eq_ite, apply_ite List.length]; split <;> simp only [List.length_append, List.length_cons, List.length_nil, sI_len] <;> omega) | grind))), (by rw [hX1107]; exact (show ∀ x : Nat, ¬ (x : Int) = gS 3 1 ap 0 → gI inner9L2 (x : Int) = gI worlds (x : Int) from (by first | omega | (simp only [sS_len, sL_len]; omega) | (simp only [List.length_replicate, sI_len]; omega) | (simp only [List.length_append, List.length_cons, List.length_nil, sI_len, cond_true, cond_false]; omega) | (simp only [List.length_append, List.length_cons, List.length_nil, sI_len, cond_eq_ite, apply_ite List.length]; split <;> simp only [List.length_append, List.length_cons, List.length_nil, sI_len] <;> omega) | grind))), (by rw [hX1107]; exact (hE1106.sub (L' := [(3, .pointer (some ⟨b5, 0, none⟩)), (7, .pointer (some ⟨b574, 0, none⟩)), (8, .slice b587 ((F_below ap).length) c588), (9, .slice b1000 ((worlds).length) c1001), (10, .bool (decide ((gS 3 0 ap 0) = 8))), (119, .int .i64 mp0), (120, .int .i64 t120L2)]) ⟨rfl, rfl, rfl, rfl, rfl, rfl, rfl, trivial⟩)), (by rw [hX1107]; exact (St.pick (Γ' := [.own 2 1 b1000 ((worlds).length) c1001 inner9L2, .nest 59 3 none b587 c588 ((belowRows apA apC ap).map (·.1)) (F_below ap), .blk b574 #[.int .i64 (gS 3 0 ap 0), .int .i64 (gS 3 1 ap 0), .int .i64 (gS 3 2 ap 0)] 115, .blk b5 #[.int .i64 mp0, .slice mp1A mp1.length mp1C, .slice mp2A mp2.length mp2C] 69, .rd 1 worldsA worlds.length worldsC worlds, .rd 3 apA ((ap).length / 3 : Nat) apC ap, .rd 1 mp2A mp2.length mp2C mp2, .rd 1 mp1A mp1.length mp1C mp1]) hS1028 [0, 1, 2, 3, 4, 5, 6, 7] (by decide) rfl))⟩
          ·
           rintro a1108 w1109 ⟨hO1112, hi1113, hi1114, hi1115, hE1110, hS1111⟩; clear hE1023 hS997
           refine p_tn ?_
           refine c_seq ?_
           refine c_reg ?_
           refine q_step (v := .bool (decide ((gS 3 0 ap 0) = 8))) hE1110 (y_move rfl) rfl rfl rfl ?_; intro a1116 hE1117; clear hE1110
           refine q_step (v := .bool (!(decide ((gS 3 0 ap 0) = 8)))) hE1117 (y_not rfl) rfl rfl rfl ?_; intro a1118 hE1119; clear hE1117
           refine q_step (v := .bool (!(decide ((gS 3 0 ap 0) = 8)))) hE1119 (y_assign rfl) rfl rfl rfl ?_; intro a1120 hE1121; clear hE1119
           refine c_nil ?_
           have hE1122 := hE1121.sub (L' := [(6, .bool (!(decide ((gS 3 0 ap 0) = 8))))]) ⟨rfl, trivial⟩; clear hE1121
           refine p_tn ?_
           refine wp_ret ?_
           have hF : F_Model_holds_b self mp0 mp1 mp2 ap worlds = (!(decide ((gS 3 0 ap 0) = 8))) := by unfold F_Model_holds_b; (first | (rw [hO1112, ht912, ht832, ht752, ht739, ht694, ht656, ht609]; first | done | rfl) | (rw [← holds_L12 mp0 mp1 mp2 ap self, hO1112, ht912, ht832, ht752, ht739, ht694, ht656, ht609]; first | done | rfl) | (exfalso; omega))
           refine c_ret1 hE1122 rfl rfl ?_
           exact ⟨(by rw [hF]; first | done | (dsimp only; done) | rfl), hS1111.ext⟩
theorem c_Model_holds_r : ∀ (r : Nat) (mp0 : Int) (mp1A : Option Addr) (mp1N mp1C : Nat) (mp1 : List Int) (mp2A : Option Addr) (mp2N mp2C : Nat) (mp2 : List Int) (apA : Option Addr) (apN apC : Nat) (ap : List Int) (worldsA : Option Addr) (worldsN worldsC : Nat) (worlds : List Int) (w : World) (mp1R : RdS w 1 mp1A mp1N mp1C mp1) (mp2R : RdS w 1 mp2A mp2N mp2C mp2) (apR : RdS w 3 apA apN apC ap) (worldsR : RdS w 1 worldsA worldsN worldsC worlds) (hm0 : 0 ≤ mp0 ∧ mp0 ≤ 8) (hml : (mp1.length : Int) = mp0) (hvl : mp2.length ≤ 6) (hl : ap.length ≤ 4194304) (hf : IsPm (mp2.length : Int) ap) (hw : worlds.length = 10) (hfw : ∀ x : Nat, tb (F_l10Free ap) x = true → 0 ≤ gI worlds (x : Int) ∧ gI worlds (x : Int) < mp0) (hlt : ap.length < r), Calls Try.prog 110 #[.agg #[.int .i64 mp0, .slice mp1A mp1N mp1C, .slice mp2A mp2N mp2C], .slice apA apN apC, .slice worldsA worldsN worldsC] w (Ret fun v w' => v = .bool ((F_Model_holds_r r) mp0 mp1 mp2 ap worlds) ∧ Ext w w') := by
  intro r
  induction r with
  | zero => intros; omega
  | succ r ih =>
    intro mp0 mp1A mp1N mp1C mp1 mp2A mp2N mp2C mp2 apA apN apC ap worldsA worldsN worldsC worlds w mp1R mp2R apR worldsR hm0 hml hvl hl hf hw hfw hlt
    exact cb_Model_holds (F_Model_holds_r r) mp0 mp1A mp1N mp1C mp1 mp2A mp2N mp2C mp2 apA apN apC ap worldsA worldsN worldsC worlds w mp1R mp2R apR worldsR hm0 hml hvl hl hf hw hfw ap.length rfl (fun mp0 mp1A mp1N mp1C mp1 mp2A mp2N mp2C mp2 apA apN apC ap worldsA worldsN worldsC worlds w mp1R mp2R apR worldsR hm0 hml hvl hl hf hw hfw hdec => ih mp0 mp1A mp1N mp1C mp1 mp2A mp2N mp2C mp2 apA apN apC ap worldsA worldsN worldsC worlds w mp1R mp2R apR worldsR hm0 hml hvl hl hf hw hfw (by omega))
theorem c_Model_holds (mp0 : Int) (mp1A : Option Addr) (mp1N mp1C : Nat) (mp1 : List Int) (mp2A : Option Addr) (mp2N mp2C : Nat) (mp2 : List Int) (apA : Option Addr) (apN apC : Nat) (ap : List Int) (worldsA : Option Addr) (worldsN worldsC : Nat) (worlds : List Int) (w : World) (mp1R : RdS w 1 mp1A mp1N mp1C mp1) (mp2R : RdS w 1 mp2A mp2N mp2C mp2) (apR : RdS w 3 apA apN apC ap) (worldsR : RdS w 1 worldsA worldsN worldsC worlds) (hm0 : 0 ≤ mp0 ∧ mp0 ≤ 8) (hml : (mp1.length : Int) = mp0) (hvl : mp2.length ≤ 6) (hl : ap.length ≤ 4194304) (hf : IsPm (mp2.length : Int) ap) (hw : worlds.length = 10) (hfw : ∀ x : Nat, tb (F_l10Free ap) x = true → 0 ≤ gI worlds (x : Int) ∧ gI worlds (x : Int) < mp0) :
    Calls Try.prog 110 #[.agg #[.int .i64 mp0, .slice mp1A mp1N mp1C, .slice mp2A mp2N mp2C], .slice apA apN apC, .slice worldsA worldsN worldsC] w (Ret fun v w' => v = .bool (F_Model_holds mp0 mp1 mp2 ap worlds) ∧ Ext w w') := c_Model_holds_r (ap.length + 1) mp0 mp1A mp1N mp1C mp1 mp2A mp2N mp2C mp2 apA apN apC ap worldsA worldsN worldsC worlds w mp1R mp2R apR worldsR hm0 hml hvl hl hf hw hfw (Nat.lt_succ_self _)
theorem beqF (b : Bool) : (b == false) = !b := by cases b <;> rfl
theorem beqT (b : Bool) : (b == true) = b := by cases b <;> rfl
theorem holds_treeI (bd m0 : Int) (m1 m2 : List Int) (h0 : 0 ≤ m0) : ∀ (t : Pm) (r : Nat) (ws : List Int), t.Ok bd → t.code.length < r → F_Model_holds_r r m0 m1 m2 t.code ws = t.val m1 m2 m0.toNat ws := by
  intro t
  induction t with
  | leaf k u v =>
    intro r ws h hr
    obtain ⟨r, rfl⟩ : ∃ r', r = r' + 1 := ⟨r - 1, by omega⟩
    show F_Model_holds_b (F_Model_holds_r r) m0 m1 m2 (Pm.leaf k u v).code ws = (Pm.leaf k u v).val m1 m2 m0.toNat ws
    unfold F_Model_holds_b Pm.val
    rw [show gS 3 0 (Pm.leaf k u v).code 0 = k from rfl, show gS 3 1 (Pm.leaf k u v).code 0 = u from rfl, show gS 3 2 (Pm.leaf k u v).code 0 = v from rfl]
    rcases leaf_kind h with rfl | rfl | rfl | rfl
    · rw [decide_eq_true (rfl : (0 : Int) = 0), cond_true, cond_true]; rfl
    · rw [decide_eq_false (show ¬ (1 : Int) = 0 by decide), cond_false, cond_false, decide_eq_true (rfl : (1 : Int) = 1), cond_true, cond_true]
    · rw [decide_eq_false (show ¬ (2 : Int) = 0 by decide), cond_false, cond_false, decide_eq_false (show ¬ (2 : Int) = 1 by decide), cond_false, cond_false, decide_eq_true (rfl : (2 : Int) = 2), cond_true, cond_true]; rfl
    · rw [decide_eq_false (show ¬ (3 : Int) = 0 by decide), cond_false, cond_false, decide_eq_false (show ¬ (3 : Int) = 1 by decide), cond_false, cond_false, decide_eq_false (show ¬ (3 : Int) = 2 by decide), cond_false, cond_false, decide_eq_true (rfl : (3 : Int) = 3), cond_true]
  | un k u v a ih =>
    intro r ws h hr
    obtain ⟨r, rfl⟩ : ∃ r', r = r' + 1 := ⟨r - 1, by omega⟩
    have e : (Pm.un k u v a).code = k :: u :: v :: a.code := rfl
    have hl : a.code.length < r := by rw [e] at hr; simp only [List.length_cons] at hr; omega
    have hb : gL (F_below (Pm.un k u v a).code) 0 = a.code := by rw [below_un h]; rfl
    show F_Model_holds_b (F_Model_holds_r r) m0 m1 m2 (Pm.un k u v a).code ws = (Pm.un k u v a).val m1 m2 m0.toNat ws
    have g0 : gS 3 0 (Pm.un k u v a).code 0 = k := rfl
    have g1 : gS 3 1 (Pm.un k u v a).code 0 = u := rfl
    have q1 := quantE (F_Model_holds_L1 m0 m1 m2 (Pm.un k u v a).code (F_Model_holds_r r)) (decide (k = 8)) (!(decide (k = 8))) m0 u ws (fun nx => (a.val m1 m2 m0.toNat nx == decide (k = 8))) h0 (fun s i nx => by
      show F_Model_holds_L1b m0 m1 m2 (Pm.un k u v a).code (F_Model_holds_r r) _ i nx = _
      unfold F_Model_holds_L1b
      rw [hb, g0, g1, ih r _ h.2 hl])
    unfold F_Model_holds_b Pm.val
    rw [g0]
    have hk := un_kind h.1
    rw [decide_eq_false (show ¬ k = 0 by omega), cond_false, decide_eq_false (show ¬ k = 1 by omega), cond_false, decide_eq_false (show ¬ k = 2 by omega), cond_false, decide_eq_false (show ¬ k = 3 by omega), cond_false, decide_eq_false (show ¬ k = 4 by omega), cond_false, decide_eq_false (show ¬ k = 5 by omega), cond_false, decide_eq_false (show ¬ k = 6 by omega), cond_false, q1]
    rcases hk with rfl | rfl
    · rw [decide_eq_true (rfl : (7 : Int) = 7), cond_true, decide_eq_false (show ¬ (7 : Int) = 8 by decide)]
      simp only [beqF, Bool.not_false]
      cases anyN m0.toNat 0 (fun j => !(a.val m1 m2 m0.toNat (sI ws u j))) <;> rfl
    · rw [decide_eq_false (show ¬ (8 : Int) = 7 by decide), cond_false, decide_eq_true (rfl : (8 : Int) = 8)]
      simp only [beqT, Bool.not_true]
      cases anyN m0.toNat 0 (fun j => a.val m1 m2 m0.toNat (sI ws u j)) <;> rfl
  | bin k u v a b iha ihb =>
    intro r ws h hr
    obtain ⟨r, rfl⟩ : ∃ r', r = r' + 1 := ⟨r - 1, by omega⟩
    have e : (Pm.bin k u v a b).code = k :: u :: v :: (a.code ++ b.code) := rfl
    have hla : a.code.length < r := by rw [e] at hr; simp only [List.length_cons, List.length_append] at hr; omega
    have hlb : b.code.length < r := by rw [e] at hr; simp only [List.length_cons, List.length_append] at hr; omega
    have hb0 : gL (F_below (Pm.bin k u v a b).code) 0 = a.code := by rw [below_bin h]; rfl
    have hb1 : gL (F_below (Pm.bin k u v a b).code) 1 = b.code := by rw [below_bin h]; rfl
    show F_Model_holds_b (F_Model_holds_r r) m0 m1 m2 (Pm.bin k u v a b).code ws = (Pm.bin k u v a b).val m1 m2 m0.toNat ws
    unfold F_Model_holds_b Pm.val
    rw [show gS 3 0 (Pm.bin k u v a b).code 0 = k from rfl, hb0, hb1, iha r ws h.2.1 hla, ihb r ws h.2.2 hlb]
    have hk := bin_kind h.1
    rw [decide_eq_false (show ¬ k = 0 by omega), cond_false, decide_eq_false (show ¬ k = 1 by omega), cond_false, decide_eq_false (show ¬ k = 2 by omega), cond_false, decide_eq_false (show ¬ k = 3 by omega), cond_false]
    generalize a.val m1 m2 m0.toNat ws = x
    generalize b.val m1 m2 m0.toNat ws = y
    rcases hk with rfl | rfl | rfl <;> cases x <;> cases y <;> rfl
theorem holds_eq {bd m0 : Int} {m1 m2 ap : List Int} (h0 : 0 ≤ m0) (hf : IsPm bd ap) (ws : List Int) : F_Model_holds m0 m1 m2 ap ws = F_l10Holds m0 m1 m2 ap ws := by
  obtain ⟨t, ht, rfl⟩ := hf
  rw [show F_Model_holds m0 m1 m2 t.code ws = t.val m1 m2 m0.toNat ws from holds_treeI bd m0 m1 m2 h0 t _ ws ht (Nat.lt_succ_self _), show F_l10Holds m0 m1 m2 t.code ws = t.val m1 m2 m0.toNat ws from holds_tree bd m0 m1 m2 h0 t _ ws ht (Nat.lt_succ_self _)]
end Go.Proofs.Ytkilkfhjfobcdaa
