/- GTF: models and contracts, printed by wip/gen/gen.py -/
import Derived.Test.YtkilkfhjfobcdaaKPTGTE
import Derived.Test.YtkilkfhjfobcdaaKPTGN
set_option linter.unusedVariables false
set_option linter.unusedSimpArgs false
namespace Go.Proofs.Ytkilkfhjfobcdaa
open Go.RowKit
theorem isPtI_t {ap : List Int} (he : ap.length = ap.length / 3 * 3) (h : F_isPointFormula ap = true) : IsPm 6 ap := IsPm.ofs he (by rw [← isPt_eq he]; exact h)
theorem fr_all {ap ws : List Int} {n bd : Int} (hf : IsPm bd ap) (h : ∀ j : Nat, j < 10 → 0 ≤ gI ws (j : Int) ∧ gI ws (j : Int) < n) : ∀ x : Nat, tb (F_l10Free ap) x = true → 0 ≤ gI ws (x : Int) ∧ gI ws (x : Int) < n := fun x hx => by
  obtain ⟨t, ht, rfl⟩ := hf
  rw [l10Free_tree ht] at hx
  exact h x (tb_lt (t.free_mk ht) hx)
def F_s_PointsHold_L1b (mp0 : Int) (mp1 : List Int) (worlds : List Int) (rec : Int → Except ((Bool) × (Int)) (Int)) (i8 : Int) : Except ((Bool) × (Int)) (Int) :=
  bif (decide (i8 < (worlds.length : Int))) then (bif (!(F_l05World mp0 mp1 (gI worlds i8))) then (.error (false, 2)) else (rec (i8 + 1))) else (.ok i8)
def F_s_PointsHold_L1 (mp0 : Int) (mp1 : List Int) (worlds : List Int) : Nat → Int → Except ((Bool) × (Int)) (Int)
  | 0, i8 => .ok i8
  | r + 1, i8 => F_s_PointsHold_L1b mp0 mp1 worlds (F_s_PointsHold_L1 mp0 mp1 worlds r) i8
def F_s_PointsHold (mp0 : Int) (mp1 : List Int) (mp2 : List Int) (ap : List Int) (worlds : List Int) : (Bool) × (Int) :=
  bif (!(F_l06Is mp0 mp1 mp2)) then (false, 1) else (bif (!(F_s_IsPointFormula ap)) then (false, 1) else (bif (!decide ((worlds.length : Int) = 10)) then (false, 2) else (bif (isOk (F_s_PointsHold_L1 mp0 mp1 worlds (Int.toNat ((worlds.length : Int) - 0) + 1) 0)) then (bif (!(F_l10Fits ap mp0)) then (false, 3) else (F_l10Holds mp0 mp1 mp2 ap worlds, 0)) else (errD (F_s_PointsHold_L1 mp0 mp1 worlds (Int.toNat ((worlds.length : Int) - 0) + 1) 0)))))
theorem cf_s_PointsHold (args : Array Value) (w : World) : (callFunc 50 args).run Try.prog w = .ok (.enter 50 args) w := by kernel_rfl
theorem ph_all (mp0 : Int) (mp1 worlds : List Int) : F_s_PointsHold_L1 mp0 mp1 worlds (Int.toNat ((worlds.length : Int) - 0) + 1) 0 = bif (List.range worlds.length).all (fun (j : Nat) => !(!(F_l05World mp0 mp1 (gI worlds (j : Int))))) then .ok (worlds.length : Int) else .error (false, 2) :=
  allE (F_s_PointsHold_L1 mp0 mp1 worlds) (false, 2) (worlds.length : Int) (fun i => !(F_l05World mp0 mp1 (gI worlds i))) (by omega) (fun r i _ _ => by
    show F_s_PointsHold_L1b mp0 mp1 worlds _ i = _
    unfold F_s_PointsHold_L1b; rfl)
theorem ws_of {mp0 : Int} {mp1 worlds : List Int} (h : isOk (F_s_PointsHold_L1 mp0 mp1 worlds (Int.toNat ((worlds.length : Int) - 0) + 1) 0) = true) (h10 : worlds.length = 10) : ∀ j : Nat, j < 10 → 0 ≤ gI worlds (j : Int) ∧ gI worlds (j : Int) < mp0 := fun j hj => by
  rw [ph_all, isOk_bif] at h
  have := List.all_eq_true.1 h j (List.mem_range.2 (by omega))
  rw [Bool.not_not] at this
  have := F_l01In_t this
  omega
set_option maxRecDepth 100000 in
theorem c_s_PointsHold (mp0 : Int) (mp1A : Option Addr) (mp1N mp1C : Nat) (mp1 : List Int) (mp2A : Option Addr) (mp2N mp2C : Nat) (mp2 : List Int) (apA : Option Addr) (apN apC : Nat) (ap : List Int) (worldsA : Option Addr) (worldsN worldsC : Nat) (worlds : List Int) (w : World) (mp1R : RdS w 1 mp1A mp1N mp1C mp1) (mp2R : RdS w 1 mp2A mp2N mp2C mp2) (apR : RdS w 3 apA apN apC ap) (worldsR : RdS w 1 worldsA worldsN worldsC worlds) (hl : ap.length ≤ 4194304) :
    Calls Try.prog 50 #[.agg #[.int .i64 mp0, .slice mp1A mp1N mp1C, .slice mp2A mp2N mp2C], .slice apA apN apC, .slice worldsA worldsN worldsC] w (Ret fun v w' => v = .tuple #[.bool ((F_s_PointsHold mp0 mp1 mp2 ap worlds).1), .int .i64 ((F_s_PointsHold mp0 mp1 mp2 ap worlds).2)] ∧ Ext w w') := by
  obtain rfl : mp1N = mp1.length := mp1R.len1.symm
  have mp1Le := mp1R.le
  obtain rfl : mp2N = mp2.length := mp2R.len1.symm
  have mp2Le := mp2R.le
  obtain rfl : apN = ap.length / 3 := (apR.lenD (by decide)).symm
  have apEv := apR.ev (by decide)
  have apLe := apR.le
  obtain rfl : worldsN = worlds.length := worldsR.len1.symm
  have worldsLe := worldsR.le
  have hS := St.nil w
  have hS1 := St.rd0 hS rfl mp1R; clear hS
  have hS2 := St.rd0 hS1 rfl mp2R; clear hS1
  have hS3 := St.rd0 hS2 rfl apR; clear hS2
  have hS4 := St.rd0 hS3 rfl worldsR; clear hS3
  refine enter (args := [.agg #[.int .i64 mp0, .slice mp1A mp1.length mp1C, .slice mp2A mp2.length mp2C], .slice apA ((ap).length / 3 : Nat) apC, .slice worldsA worlds.length worldsC]) Try.func50 rfl rfl ?_
  rw [Try.ntmps50]; intro a hE
  have hE := hE.sub (L' := [(0, .agg #[.int .i64 mp0, .slice mp1A mp1.length mp1C, .slice mp2A mp2.length mp2C]), (1, .slice apA ((ap).length / 3 : Nat) apC), (2, .slice worldsA worlds.length worldsC)]) ⟨rfl, rfl, rfl, trivial⟩
  refine c_seq ?_
  refine c_reg ?_
  refine l_step hE rfl (l_box (v := .agg #[.int .i64 mp0, .slice mp1A mp1.length mp1C, .slice mp2A mp2.length mp2C]) (cs := #[.int .i64 mp0, .slice mp1A mp1.length mp1C, .slice mp2A mp2.length mp2C]) hS4 hE rfl rfl rfl ?_)
  intro b5 w6 hS9 he10 a7 hE8; clear hS4 hE
  refine q_step (v := .bool false) hE8 (y_assign rfl) rfl rfl rfl ?_; intro a11 hE12; clear hE8
  refine q_step (v := .int .i64 0) hE12 (y_assign rfl) rfl rfl rfl ?_; intro a13 hE14; clear hE12
  refine c_nil ?_
  have hE15 := hE14.sub (L' := [(1, .slice apA ((ap).length / 3 : Nat) apC), (2, .slice worldsA worlds.length worldsC), (3, .pointer (some ⟨b5, 0, none⟩))]) ⟨rfl, rfl, rfl, trivial⟩; clear hE14
  refine p_tn ?_
  refine c_seq ?_
  refine c_seq ?_
  refine c_reg ?_
  refine q_step (v := .agg #[.int .i64 mp0, .slice mp1A mp1.length mp1C, .slice mp2A mp2.length mp2C]) hE15 (y_loadS Try.underlying69 rfl (by kernel_rfl) rfl (St.row (i := 0) hS9 rfl)) rfl rfl rfl ?_; intro a16 hE17; clear hE15
  refine l_step hE17 rfl (l_call (f := 112) (argv := [.agg #[.int .i64 mp0, .slice mp1A mp1.length mp1C, .slice mp2A mp2.length mp2C]]) hE17 (fun _ => cf_l06Is _ _) rfl rfl (c_l06Is mp0 mp1A mp1.length mp1C mp1 mp2A mp2.length mp2C mp2 w6 (St.rdR (i := 4) hS9 rfl) (St.rdR (i := 3) hS9 rfl)) ?_)
  rintro _ w19 ⟨rfl, he23⟩ a20 hE21; clear hE17
  have hS22 := St.go hS9 he23; clear hS9
  refine q_step (v := .bool (!(F_l06Is mp0 mp1 mp2))) hE21 (y_not rfl) rfl rfl rfl ?_; intro a24 hE25; clear hE21
  refine q_step (v := .bool (!(F_l06Is mp0 mp1 mp2))) hE25 (y_move rfl) rfl rfl rfl ?_; intro a26 hE27; clear hE25
  rcases Bool.eq_false_or_eq_true (!(F_l06Is mp0 mp1 mp2)) with hb28 | hb28
  ·
   have hE29 := hE27; (try rw [hb28] at hE29); clear hE27
   have ht30 := bn_t hb28
   refine q_skip hE29 rfl rfl rfl ?_; intro a31 hE32; clear hE29
   refine q_skip hE32 rfl rfl rfl ?_; intro a33 hE34; clear hE32
   refine q_skip hE34 rfl rfl rfl ?_; intro a35 hE36; clear hE34
   refine q_step (v := .bool true) hE36 (y_pick (b := true) rfl rfl) rfl rfl rfl ?_; intro a37 hE38; clear hE36
   refine c_nil ?_
   have hE39 := hE38.sub (L' := [(1, .slice apA ((ap).length / 3 : Nat) apC), (2, .slice worldsA worlds.length worldsC), (3, .pointer (some ⟨b5, 0, none⟩)), (16, .bool true)]) ⟨rfl, rfl, rfl, rfl, trivial⟩; clear hE38
   refine p_tn ?_
   refine c_true hE39 rfl ?_
   refine c_seq ?_
   refine c_reg ?_
   refine q_step (v := .bool false) hE39 (y_assign rfl) rfl rfl rfl ?_; intro a40 hE41; clear hE39
   refine q_step (v := .int .i64 1) hE41 (y_assign rfl) rfl rfl rfl ?_; intro a42 hE43; clear hE41
   refine c_nil ?_
   have hE44 := hE43.sub (L' := [(6, .bool false), (7, .int .i64 1)]) ⟨rfl, rfl, trivial⟩; clear hE43
   refine p_tn ?_
   refine wp_ret ?_
   refine p_tr ?_
   have hF : F_s_PointsHold mp0 mp1 mp2 ap worlds = (false, 1) := by unfold F_s_PointsHold; rw [hb28]; first | done | rfl
   refine c_ret2 hE44 rfl rfl rfl ?_
   exact ⟨(by rw [hF]; first | done | (dsimp only; done) | rfl), hS22.ext⟩
  ·
   have hE45 := hE27; (try rw [hb28] at hE45); clear hE27
   have ht46 := bn_f hb28
   have hp47 := l06Is_t ht46
   refine q_step (v := .slice apA ((ap).length / 3 : Nat) apC) hE45 (y_move rfl) rfl rfl rfl ?_; intro a48 hE49; clear hE45
   refine l_step hE49 rfl (l_call (f := 98) (argv := [.slice apA ((ap).length / 3 : Nat) apC]) hE49 (fun _ => cf_s_IsPointFormula _ _) rfl rfl (c_s_IsPointFormula apA ((ap).length / 3 : Nat) apC ap w19 (St.rdR (i := 2) hS22 rfl) (by omega)) ?_)
   rintro _ w51 ⟨rfl, he55⟩ a52 hE53; clear hE49
   have hS54 := St.go hS22 he55; clear hS22
   refine q_step (v := .bool (!(F_s_IsPointFormula ap))) hE53 (y_not rfl) rfl rfl rfl ?_; intro a56 hE57; clear hE53
   refine q_step (v := .bool (!(F_s_IsPointFormula ap))) hE57 (y_pick (b := false) rfl rfl) rfl rfl rfl ?_; intro a58 hE59; clear hE57
   refine c_nil ?_
   have hE60 := hE59.sub (L' := [(1, .slice apA ((ap).length / 3 : Nat) apC), (2, .slice worldsA worlds.length worldsC), (3, .pointer (some ⟨b5, 0, none⟩)), (16, .bool (!(F_s_IsPointFormula ap)))]) ⟨rfl, rfl, rfl, rfl, trivial⟩; clear hE59
   refine p_tn ?_
   refine c_cond hE60 rfl (fun ht61 => ?_) (fun ht61 => ?_)
   ·
    have ht62 := bn_t ht61
    have hE63 := hE60; rw [ht61] at hE63; clear hE60
    refine c_seq ?_
    refine c_reg ?_
    refine q_step (v := .bool false) hE63 (y_assign rfl) rfl rfl rfl ?_; intro a64 hE65; clear hE63
    refine q_step (v := .int .i64 1) hE65 (y_assign rfl) rfl rfl rfl ?_; intro a66 hE67; clear hE65
    refine c_nil ?_
    have hE68 := hE67.sub (L' := [(6, .bool false), (7, .int .i64 1)]) ⟨rfl, rfl, trivial⟩; clear hE67
    refine p_tn ?_
    refine wp_ret ?_
    refine p_tr ?_
    have hF : F_s_PointsHold mp0 mp1 mp2 ap worlds = (false, 1) := by unfold F_s_PointsHold; rw [ht61, hb28]; first | done | rfl
    refine c_ret2 hE68 rfl rfl rfl ?_
    exact ⟨(by rw [hF]; first | done | (dsimp only; done) | rfl), hS54.ext⟩
   ·
    have ht69 := bn_f ht61
    have hp70 := (IsPm.ofs apEv) ht69
    have hE71 := hE60; rw [ht61] at hE71; clear hE60
    refine wp_skip ?_
    refine p_tn ?_
    refine c_seq ?_
    refine c_seq ?_
    refine c_reg ?_
    refine q_step (v := .slice worldsA worlds.length worldsC) hE71 (y_move rfl) rfl rfl rfl ?_; intro a72 hE73; clear hE71
    refine q_step (v := .int .i64 (worlds.length : Int)) hE73 (y_len (e := 2) (by kernel_rfl) rfl) rfl rfl rfl ?_; intro a74 hE75; clear hE73
    refine q_step (v := .bool (!decide ((worlds.length : Int) = 10))) hE75 (y_neq rfl rfl) rfl rfl rfl ?_; intro a76 hE77; clear hE75
    refine c_nil ?_
    have hE78 := hE77.sub (L' := [(1, .slice apA ((ap).length / 3 : Nat) apC), (2, .slice worldsA worlds.length worldsC), (3, .pointer (some ⟨b5, 0, none⟩)), (19, .bool (!decide ((worlds.length : Int) = 10)))]) ⟨rfl, rfl, rfl, rfl, trivial⟩; clear hE77
    refine p_tn ?_
    refine c_cond hE78 rfl (fun ht79 => ?_) (fun ht79 => ?_)
    ·
     have ht80 := bn_t ht79
     have hp81 := of_decide_eq_false ht80
     have hE82 := hE78; rw [ht79] at hE82; clear hE78
     refine c_seq ?_
     refine c_reg ?_
     refine q_step (v := .bool false) hE82 (y_assign rfl) rfl rfl rfl ?_; intro a83 hE84; clear hE82
     refine q_step (v := .int .i64 2) hE84 (y_assign rfl) rfl rfl rfl ?_; intro a85 hE86; clear hE84
     refine c_nil ?_
     have hE87 := hE86.sub (L' := [(6, .bool false), (7, .int .i64 2)]) ⟨rfl, rfl, trivial⟩; clear hE86
     refine p_tn ?_
     refine wp_ret ?_
     refine p_tr ?_
     have hF : F_s_PointsHold mp0 mp1 mp2 ap worlds = (false, 2) := by unfold F_s_PointsHold; rw [ht79, ht61, hb28]; first | done | rfl
     refine c_ret2 hE87 rfl rfl rfl ?_
     exact ⟨(by rw [hF]; first | done | (dsimp only; done) | rfl), hS54.ext⟩
    ·
     have ht88 := bn_f ht79
     have hp89 := of_decide_eq_true ht88
     have hE90 := hE78; rw [ht79] at hE90; clear hE78
     refine wp_skip ?_
     refine p_tn ?_
     refine c_seq ?_
     refine c_seq ?_
     refine c_reg ?_
     refine q_step (v := .int .i64 0) hE90 (y_assign rfl) rfl rfl rfl ?_; intro a91 hE92; clear hE90
     refine c_nil ?_
     have hE93 := hE92.sub (L' := [(1, .slice apA ((ap).length / 3 : Nat) apC), (2, .slice worldsA worlds.length worldsC), (3, .pointer (some ⟨b5, 0, none⟩)), (8, .int .i64 0)]) ⟨rfl, rfl, rfl, rfl, trivial⟩; clear hE92
     refine p_tn ?_
     refine c_cut1 (fun a' w' => isOk (F_s_PointsHold_L1 mp0 mp1 worlds (Int.toNat ((worlds.length : Int) - 0) + 1) 0) = true ∧ (0 ≤ (okD (F_s_PointsHold_L1 mp0 mp1 worlds (Int.toNat ((worlds.length : Int) - 0) + 1) 0))) ∧ ((okD (F_s_PointsHold_L1 mp0 mp1 worlds (Int.toNat ((worlds.length : Int) - 0) + 1) 0)) ≤ (worlds.length : Int)) ∧ E a' 44 [(1, .slice apA ((ap).length / 3 : Nat) apC), (2, .slice worldsA worlds.length worldsC), (3, .pointer (some ⟨b5, 0, none⟩)), (8, .int .i64 (okD (F_s_PointsHold_L1 mp0 mp1 worlds (Int.toNat ((worlds.length : Int) - 0) + 1) 0)))] ∧ St w w' [.blk b5 #[.int .i64 mp0, .slice mp1A mp1.length mp1C, .slice mp2A mp2.length mp2C] 69, .rd 1 worldsA worlds.length worldsC worlds, .rd 3 apA ((ap).length / 3 : Nat) apC ap, .rd 1 mp2A mp2.length mp2C mp2, .rd 1 mp1A mp1.length mp1C mp1]) ?_ ?_
     ·
      refine wp_block ?_
      refine c_loop (fun r a' w' => ∃ i8 : Int, F_s_PointsHold_L1 mp0 mp1 worlds r i8 = F_s_PointsHold_L1 mp0 mp1 worlds (Int.toNat ((worlds.length : Int) - 0) + 1) 0 ∧ Int.toNat ((worlds.length : Int) - i8) < r ∧ (0 ≤ i8) ∧ (i8 ≤ (worlds.length : Int)) ∧ E a' 44 [(1, .slice apA ((ap).length / 3 : Nat) apC), (2, .slice worldsA worlds.length worldsC), (3, .pointer (some ⟨b5, 0, none⟩)), (8, .int .i64 i8)] ∧ St w w' [.blk b5 #[.int .i64 mp0, .slice mp1A mp1.length mp1C, .slice mp2A mp2.length mp2C] 69, .rd 1 worldsA worlds.length worldsC worlds, .rd 3 apA ((ap).length / 3 : Nat) apC ap, .rd 1 mp2A mp2.length mp2C mp2, .rd 1 mp1A mp1.length mp1C mp1]) (r := (Int.toNat ((worlds.length : Int) - 0) + 1)) ?_ ?_
      · exact ⟨0, rfl, Nat.lt_succ_self _, (by first | omega | (simp only [sS_len, sL_len]; omega) | (simp only [List.length_replicate, sI_len]; omega) | (simp only [List.length_append, List.length_cons, List.length_nil, sI_len, cond_true, cond_false]; omega) | (simp only [List.length_append, List.length_cons, List.length_nil, sI_len, cond_eq_ite, apply_ite List.length]; split <;> simp only [List.length_append, List.length_cons, List.length_nil, sI_len] <;> omega) | grind), (by first | omega | (simp only [sS_len, sL_len]; omega) | (simp only [List.length_replicate, sI_len]; omega) | (simp only [List.length_append, List.length_cons, List.length_nil, sI_len, cond_true, cond_false]; omega) | (simp only [List.length_append, List.length_cons, List.length_nil, sI_len, cond_eq_ite, apply_ite List.length]; split <;> simp only [List.length_append, List.length_cons, List.length_nil, sI_len] <;> omega) | grind), (hE93.sub (L' := [(1, .slice apA ((ap).length / 3 : Nat) apC), (2, .slice worldsA worlds.length worldsC), (3, .pointer (some ⟨b5, 0, none⟩)), (8, .int .i64 0)]) ⟨rfl, rfl, rfl, rfl, trivial⟩), (St.pick (Γ' := [.blk b5 #[.int .i64 mp0, .slice mp1A mp1.length mp1C, .slice mp2A mp2.length mp2C] 69, .rd 1 worldsA worlds.length worldsC worlds, .rd 3 apA ((ap).length / 3 : Nat) apC ap, .rd 1 mp2A mp2.length mp2C mp2, .rd 1 mp1A mp1.length mp1C mp1]) hS54 [0, 1, 2, 3, 4] (by decide) rfl)⟩
      ·
       clear hE93 hS54
       rintro r103 a95 w96 ⟨i8, hT99, hr100, hi101, hi102, hE97, hS98⟩
       obtain ⟨r103, rfl⟩ : ∃ r', r103 = r' + 1 := ⟨r103 - 1, by omega⟩
       refine c_seq ?_
       refine c_seq ?_
       refine c_reg ?_
       refine q_step (v := .int .i64 i8) hE97 (y_move rfl) rfl rfl rfl ?_; intro a104 hE105; clear hE97
       refine q_step (v := .slice worldsA worlds.length worldsC) hE105 (y_move rfl) rfl rfl rfl ?_; intro a106 hE107; clear hE105
       refine q_step (v := .int .i64 (worlds.length : Int)) hE107 (y_len (e := 2) (by kernel_rfl) rfl) rfl rfl rfl ?_; intro a108 hE109; clear hE107
       refine q_step (v := .bool (decide (i8 < (worlds.length : Int)))) hE109 (y_lss rfl rfl) rfl rfl rfl ?_; intro a110 hE111; clear hE109
       refine c_nil ?_
       have hE112 := hE111.sub (L' := [(1, .slice apA ((ap).length / 3 : Nat) apC), (2, .slice worldsA worlds.length worldsC), (3, .pointer (some ⟨b5, 0, none⟩)), (8, .int .i64 i8), (23, .bool (decide (i8 < (worlds.length : Int))))]) ⟨rfl, rfl, rfl, rfl, rfl, trivial⟩; clear hE111
       refine p_tn ?_
       refine c_cond hE112 rfl (fun ht113 => ?_) (fun ht113 => ?_)
       ·
        have hp114 := of_decide_eq_true ht113
        have hE115 := hE112; rw [ht113] at hE115; clear hE112
        refine wp_skip ?_
        refine p_tn ?_
        refine c_seq ?_
        refine wp_block ?_
        refine c_seq ?_
        refine d_start (fun w w' => (fun w' => w'.heap[b5]? = some (.cells #[.int .i64 mp0, .slice mp1A mp1.length mp1C, .slice mp2A mp2.length mp2C] 69 (0, 0)) ∧ w'.cell? (adr worldsA (Int.toNat i8)) = some (.int .i64 (gI worlds i8)) ∧ True) w → (fun w' => w'.heap[b5]? = some (.cells #[.int .i64 mp0, .slice mp1A mp1.length mp1C, .slice mp2A mp2.length mp2C] 69 (0, 0)) ∧ w'.cell? (adr worldsA (Int.toNat i8)) = some (.int .i64 (gI worlds i8)) ∧ True) w') [1, 5] 8 (by kernel_rfl) rfl ?_
        intro w116 he117; have hS118 := St.go hS98 he117; clear hS98
        refine d_pure (fun _ h => h) (v := .pointer (some ⟨b5, 0, none⟩)) 0 rfl hE115 (y_field rfl (fun _ => by kernel_rfl)) rfl (by kernel_rfl) (by kernel_rfl) (by kernel_rfl) rfl rfl (fun _ _ _ h => h) ?_; intro a119 hE120; clear hE115
        refine d_take (fun _ h => h) (fun _ _ h k => h k) (v := .agg #[.int .i64 mp0, .slice mp1A mp1.length mp1C]) 1 rfl hE120 (S := fun w' => w'.heap[b5]? = some (.cells #[.int .i64 mp0, .slice mp1A mp1.length mp1C, .slice mp2A mp2.length mp2C] 69 (0, 0)) ∧ w'.cell? (adr worldsA (Int.toNat i8)) = some (.int .i64 (gI worlds i8)) ∧ True) ⟨(St.row (i := 0) hS118 rfl _ (Ext.refl _)), (RdS.elt (St.rdR (i := 1) hS118 rfl) (by omega) (by omega) _ (Ext.refl _)), trivial⟩ (y_loadP Try.underlying57 rfl (by kernel_rfl) rfl rfl (fun _ h => h.1)) rfl rfl (by kernel_rfl) (by kernel_rfl) (by kernel_rfl) (by kernel_rfl) rfl rfl (fun _ _ _ h => h) ?_; intro a121 hE122; clear hE120
        refine d_pure (fun _ h => h) (v := .slice worldsA worlds.length worldsC) 2 rfl hE122 (y_move rfl) rfl (by kernel_rfl) (by kernel_rfl) (by kernel_rfl) rfl rfl (fun _ _ _ h => h) ?_; intro a123 hE124; clear hE122
        refine d_pure (fun _ h => h) (v := .int .i64 i8) 3 rfl hE124 (y_move rfl) rfl (by kernel_rfl) (by kernel_rfl) (by kernel_rfl) rfl rfl (fun _ _ _ h => h) ?_; intro a125 hE126; clear hE124
        refine d_pure (fun _ h => h) (v := .pointer (some (adr worldsA (Int.toNat i8)))) 4 rfl hE126 (y_idx (by kernel_rfl) (fun _ => by kernel_rfl) rfl rfl (RdS.isS (m := i8) (St.rdR (i := 1) hS118 rfl) (by omega) (by omega)) (by omega) (by omega) (Nat.mul_one _).symm) rfl (by kernel_rfl) (by kernel_rfl) (by kernel_rfl) rfl rfl (fun _ _ _ h => h) ?_; intro a127 hE128; clear hE126
        refine d_take (fun _ h => h) (fun _ _ h k => h k) (v := .int .i64 (gI worlds i8)) 5 rfl hE128 (S := fun w' => w'.heap[b5]? = some (.cells #[.int .i64 mp0, .slice mp1A mp1.length mp1C, .slice mp2A mp2.length mp2C] 69 (0, 0)) ∧ w'.cell? (adr worldsA (Int.toNat i8)) = some (.int .i64 (gI worlds i8)) ∧ True) ⟨(St.row (i := 0) hS118 rfl _ (Ext.refl _)), (RdS.elt (St.rdR (i := 1) hS118 rfl) (by omega) (by omega) _ (Ext.refl _)), trivial⟩ (y_load (fun _ => by kernel_rfl) rfl (fun _ h => h.2.1)) rfl rfl (by kernel_rfl) (by kernel_rfl) (by kernel_rfl) (by kernel_rfl) rfl rfl (fun _ _ _ h => h) ?_; intro a129 hE130; clear hE128
        refine d_only 6 (by kernel_rfl) rfl hE130 rfl (l_call (f := 113) (argv := [.agg #[.int .i64 mp0, .slice mp1A mp1.length mp1C], .int .i64 (gI worlds i8)]) hE130 (fun _ => cf_l05World _ _) rfl rfl (c_l05World mp0 mp1A mp1.length mp1C mp1 (gI worlds i8) w116 (St.rdR (i := 4) hS118 rfl) (by omega) (by omega)) ?_)
        rintro _ w132 ⟨rfl, he136⟩ a133 hE134; clear hE130
        have hS135 := St.go hS118 he136; clear hS118
        refine ⟨fun h => Bool.noConfusion (h.symm.trans (show exm _ _ _ = true by kernel_rfl)), ?_⟩
        refine d_pure (fun _ h => h) (v := .bool (!(F_l05World mp0 mp1 (gI worlds i8)))) 7 rfl hE134 (y_not rfl) rfl (by kernel_rfl) (by kernel_rfl) (by kernel_rfl) rfl rfl (fun _ _ _ h => h) ?_; intro a137 hE138; clear hE134
        refine d_done (by kernel_rfl) ?_
        have hE139 := hE138.sub (L' := [(1, .slice apA ((ap).length / 3 : Nat) apC), (2, .slice worldsA worlds.length worldsC), (3, .pointer (some ⟨b5, 0, none⟩)), (8, .int .i64 i8), (33, .bool (!(F_l05World mp0 mp1 (gI worlds i8))))]) ⟨rfl, rfl, rfl, rfl, rfl, trivial⟩; clear hE138
        refine p_tn ?_
        refine c_cond hE139 rfl (fun ht140 => ?_) (fun ht140 => ?_)
        ·
         have ht141 := bn_t ht140
         have hE142 := hE139; rw [ht140] at hE142; clear hE139
         refine c_seq ?_
         refine c_reg ?_
         refine q_step (v := .bool false) hE142 (y_assign rfl) rfl rfl rfl ?_; intro a143 hE144; clear hE142
         refine q_step (v := .int .i64 2) hE144 (y_assign rfl) rfl rfl rfl ?_; intro a145 hE146; clear hE144
         refine c_nil ?_
         have hE147 := hE146.sub (L' := [(6, .bool false), (7, .int .i64 2)]) ⟨rfl, rfl, trivial⟩; clear hE146
         refine p_tn ?_
         refine wp_ret ?_
         refine p_br ?_
         refine p_tr ?_
         have hX148 : F_s_PointsHold_L1 mp0 mp1 worlds (Int.toNat ((worlds.length : Int) - 0) + 1) 0 = .error (false, 2) := hT99.symm.trans (show F_s_PointsHold_L1b mp0 mp1 worlds (F_s_PointsHold_L1 mp0 mp1 worlds r103) i8 = .error (false, 2) by unfold F_s_PointsHold_L1b; rw [ht140, ht113]; first | done | rfl)
         refine p_tr (p_br (p_tr ?_))
         refine p_tr ?_
         have hF : F_s_PointsHold mp0 mp1 mp2 ap worlds = (false, 2) := by unfold F_s_PointsHold; rw [hX148, ht79, ht61, hb28]; first | done | rfl
         refine c_ret2 hE147 rfl rfl rfl ?_
         exact ⟨(by rw [hF]; first | done | (dsimp only; done) | rfl), hS135.ext⟩
        ·
         have ht149 := bn_f ht140
         have hp150 := F_l01In_t ht149
         have hE151 := hE139; rw [ht140] at hE151; clear hE139
         refine wp_skip ?_
         refine p_bn ?_
         refine p_tn ?_
         refine c_reg ?_
         refine q_step (v := .int .i64 i8) hE151 (y_move rfl) rfl rfl rfl ?_; intro a152 hE153; clear hE151
         refine q_step (v := .int .i64 (i8 + 1)) hE153 (y_add rfl rfl ⟨(by omega), (by omega)⟩) rfl rfl rfl ?_; intro a154 hE155; clear hE153
         refine q_step (v := .int .i64 (i8 + 1)) hE155 (y_assign rfl) rfl rfl rfl ?_; intro a156 hE157; clear hE155
         refine c_nil ?_
         have hE158 := hE157.sub (L' := [(1, .slice apA ((ap).length / 3 : Nat) apC), (2, .slice worldsA worlds.length worldsC), (3, .pointer (some ⟨b5, 0, none⟩)), (8, .int .i64 (i8 + 1))]) ⟨rfl, rfl, rfl, rfl, trivial⟩; clear hE157
         refine p_tn ⟨r103, Nat.lt_succ_self _, i8 + 1, (hT99.symm.trans (show F_s_PointsHold_L1b mp0 mp1 worlds (F_s_PointsHold_L1 mp0 mp1 worlds r103) i8 = F_s_PointsHold_L1 mp0 mp1 worlds r103 (i8 + 1) by unfold F_s_PointsHold_L1b; rw [ht140, ht113]; first | done | rfl)).symm, (by omega), (by first | omega | (simp only [sS_len, sL_len]; omega) | (simp only [List.length_replicate, sI_len]; omega) | (simp only [List.length_append, List.length_cons, List.length_nil, sI_len, cond_true, cond_false]; omega) | (simp only [List.length_append, List.length_cons, List.length_nil, sI_len, cond_eq_ite, apply_ite List.length]; split <;> simp only [List.length_append, List.length_cons, List.length_nil, sI_len] <;> omega) | grind), (by first | omega | (simp only [sS_len, sL_len]; omega) | (simp only [List.length_replicate, sI_len]; omega) | (simp only [List.length_append, List.length_cons, List.length_nil, sI_len, cond_true, cond_false]; omega) | (simp only [List.length_append, List.length_cons, List.length_nil, sI_len, cond_eq_ite, apply_ite List.length]; split <;> simp only [List.length_append, List.length_cons, List.length_nil, sI_len] <;> omega) | grind), (hE158.sub (L' := [(1, .slice apA ((ap).length / 3 : Nat) apC), (2, .slice worldsA worlds.length worldsC), (3, .pointer (some ⟨b5, 0, none⟩)), (8, .int .i64 (i8 + 1))]) ⟨rfl, rfl, rfl, rfl, trivial⟩), (St.pick (Γ' := [.blk b5 #[.int .i64 mp0, .slice mp1A mp1.length mp1C, .slice mp2A mp2.length mp2C] 69, .rd 1 worldsA worlds.length worldsC worlds, .rd 3 apA ((ap).length / 3 : Nat) apC ap, .rd 1 mp2A mp2.length mp2C mp2, .rd 1 mp1A mp1.length mp1C mp1]) hS135 [0, 1, 2, 3, 4] (by decide) rfl)⟩
       ·
        have hp159 := of_decide_eq_false ht113
        have hE160 := hE112; rw [ht113] at hE160; clear hE112
        refine wp_exit ?_
        refine p_te ?_
        have hX161 : F_s_PointsHold_L1 mp0 mp1 worlds (Int.toNat ((worlds.length : Int) - 0) + 1) 0 = .ok i8 := hT99.symm.trans (show F_s_PointsHold_L1b mp0 mp1 worlds (F_s_PointsHold_L1 mp0 mp1 worlds r103) i8 = .ok i8 by unfold F_s_PointsHold_L1b; rw [ht113]; first | done | rfl)
        refine p_te (p_be (p_tn ?_))
        exact ⟨(by rw [hX161]; rfl), (by rw [hX161]; exact (show 0 ≤ i8 from (by first | omega | (simp only [sS_len, sL_len]; omega) | (simp only [List.length_replicate, sI_len]; omega) | (simp only [List.length_append, List.length_cons, List.length_nil, sI_len, cond_true, cond_false]; omega) | (simp only [List.length_append, List.length_cons, List.length_nil, sI_len, cond_eq_ite, apply_ite List.length]; split <;> simp only [List.length_append, List.length_cons, List.length_nil, sI_len] <;> omega) | grind))), (by rw [hX161]; exact (show i8 ≤ (worlds.length : Int) from (by first | omega | (simp only [sS_len, sL_len]; omega) | (simp only [List.length_replicate, sI_len]; omega) | (simp only [List.length_append, List.length_cons, List.length_nil, sI_len, cond_true, cond_false]; omega) | (simp only [List.length_append, List.length_cons, List.length_nil, sI_len, cond_eq_ite, apply_ite List.length]; split <;> simp only [List.length_append, List.length_cons, List.length_nil, sI_len] <;> omega) | grind))), (by rw [hX161]; exact (hE160.sub (L' := [(1, .slice apA ((ap).length / 3 : Nat) apC), (2, .slice worldsA worlds.length worldsC), (3, .pointer (some ⟨b5, 0, none⟩)), (8, .int .i64 i8)]) ⟨rfl, rfl, rfl, rfl, trivial⟩)), (St.pick (Γ' := [.blk b5 #[.int .i64 mp0, .slice mp1A mp1.length mp1C, .slice mp2A mp2.length mp2C] 69, .rd 1 worldsA worlds.length worldsC worlds, .rd 3 apA ((ap).length / 3 : Nat) apC ap, .rd 1 mp2A mp2.length mp2C mp2, .rd 1 mp1A mp1.length mp1C mp1]) hS98 [0, 1, 2, 3, 4] (by decide) rfl)⟩
     ·
      rintro a162 w163 ⟨hO166, hi167, hi168, hE164, hS165⟩; clear hE93 hS54
      refine p_tn ?_
      refine c_seq ?_
      refine c_seq ?_
      refine c_reg ?_
      refine q_step (v := .slice apA ((ap).length / 3 : Nat) apC) hE164 (y_move rfl) rfl rfl rfl ?_; intro a169 hE170; clear hE164
      refine q_step (v := .pointer (some ⟨b5, 0, none⟩)) hE170 (y_field rfl (fun _ => by kernel_rfl)) rfl rfl rfl ?_; intro a171 hE172; clear hE170
      refine q_step (v := .pointer (some ⟨b5, 0, none⟩)) hE172 (y_field rfl (fun _ => by kernel_rfl)) rfl rfl rfl ?_; intro a173 hE174; clear hE172
      refine q_step (v := .int .i64 mp0) hE174 (y_load (fun _ => by kernel_rfl) rfl (St.cell (i := 0) hS165 rfl rfl)) rfl rfl rfl ?_; intro a175 hE176; clear hE174
      refine l_step hE176 rfl (l_call (f := 101) (argv := [.slice apA ((ap).length / 3 : Nat) apC, .int .i64 mp0]) hE176 (fun _ => cf_l10Fits _ _) rfl rfl (c_l10Fits apA ((ap).length / 3 : Nat) apC ap mp0 w163 (St.rdR (i := 2) hS165 rfl) (by omega) (by omega)) ?_)
      rintro _ w178 ⟨rfl, he182⟩ a179 hE180; clear hE176
      have hS181 := St.go hS165 he182; clear hS165
      refine q_step (v := .bool (!(F_l10Fits ap mp0))) hE180 (y_not rfl) rfl rfl rfl ?_; intro a183 hE184; clear hE180
      refine c_nil ?_
      have hE185 := hE184.sub (L' := [(1, .slice apA ((ap).length / 3 : Nat) apC), (2, .slice worldsA worlds.length worldsC), (3, .pointer (some ⟨b5, 0, none⟩)), (39, .bool (!(F_l10Fits ap mp0)))]) ⟨rfl, rfl, rfl, rfl, trivial⟩; clear hE184
      refine p_tn ?_
      refine c_cond hE185 rfl (fun ht186 => ?_) (fun ht186 => ?_)
      ·
       have ht187 := bn_t ht186
       have hE188 := hE185; rw [ht186] at hE188; clear hE185
       refine c_seq ?_
       refine c_reg ?_
       refine q_step (v := .bool false) hE188 (y_assign rfl) rfl rfl rfl ?_; intro a189 hE190; clear hE188
       refine q_step (v := .int .i64 3) hE190 (y_assign rfl) rfl rfl rfl ?_; intro a191 hE192; clear hE190
       refine c_nil ?_
       have hE193 := hE192.sub (L' := [(6, .bool false), (7, .int .i64 3)]) ⟨rfl, rfl, trivial⟩; clear hE192
       refine p_tn ?_
       refine wp_ret ?_
       refine p_tr ?_
       have hF : F_s_PointsHold mp0 mp1 mp2 ap worlds = (false, 3) := by unfold F_s_PointsHold; rw [ht186, hO166, ht79, ht61, hb28]; first | done | rfl
       refine c_ret2 hE193 rfl rfl rfl ?_
       exact ⟨(by rw [hF]; first | done | (dsimp only; done) | rfl), hS181.ext⟩
      ·
       have ht194 := bn_f ht186
       have hE195 := hE185; rw [ht186] at hE195; clear hE185
       refine wp_skip ?_
       refine p_tn ?_
       refine c_seq ?_
       refine c_reg ?_
       refine q_step (v := .agg #[.int .i64 mp0, .slice mp1A mp1.length mp1C, .slice mp2A mp2.length mp2C]) hE195 (y_loadS Try.underlying69 rfl (by kernel_rfl) rfl (St.row (i := 0) hS181 rfl)) rfl rfl rfl ?_; intro a196 hE197; clear hE195
       refine q_step (v := .slice apA ((ap).length / 3 : Nat) apC) hE197 (y_move rfl) rfl rfl rfl ?_; intro a198 hE199; clear hE197
       refine q_step (v := .slice worldsA worlds.length worldsC) hE199 (y_move rfl) rfl rfl rfl ?_; intro a200 hE201; clear hE199
       refine l_step hE201 rfl (l_call (f := 114) (argv := [.agg #[.int .i64 mp0, .slice mp1A mp1.length mp1C, .slice mp2A mp2.length mp2C], .slice apA ((ap).length / 3 : Nat) apC, .slice worldsA worlds.length worldsC]) hE201 (fun _ => cf_l10Holds _ _) rfl rfl (c_l10Holds mp0 mp1A mp1.length mp1C mp1 mp2A mp2.length mp2C mp2 apA ((ap).length / 3 : Nat) apC ap worldsA worlds.length worldsC worlds w178 (St.rdR (i := 4) hS181 rfl) (St.rdR (i := 3) hS181 rfl) (St.rdR (i := 2) hS181 rfl) (St.rdR (i := 1) hS181 rfl) (by omega) (by omega) (by omega) (by omega) (by have h6 := (show (mp2.length : Int) = 6 by omega); rw [h6]; assumption) (by omega) (fr_all (bd := 6) (by assumption) (ws_of (by assumption) (by omega)))) ?_)
       rintro _ w203 ⟨rfl, he207⟩ a204 hE205; clear hE201
       have hS206 := St.go hS181 he207; clear hS181
       refine q_step (v := .bool (F_l10Holds mp0 mp1 mp2 ap worlds)) hE205 (y_assign rfl) rfl rfl rfl ?_; intro a208 hE209; clear hE205
       refine q_step (v := .int .i64 0) hE209 (y_assign rfl) rfl rfl rfl ?_; intro a210 hE211; clear hE209
       refine c_nil ?_
       have hE212 := hE211.sub (L' := [(6, .bool (F_l10Holds mp0 mp1 mp2 ap worlds)), (7, .int .i64 0)]) ⟨rfl, rfl, trivial⟩; clear hE211
       refine p_tn ?_
       refine wp_ret ?_
       have hF : F_s_PointsHold mp0 mp1 mp2 ap worlds = (F_l10Holds mp0 mp1 mp2 ap worlds, 0) := by unfold F_s_PointsHold; rw [ht186, hO166, ht79, ht61, hb28]; first | done | rfl
       refine c_ret2 hE212 rfl rfl rfl ?_
       exact ⟨(by rw [hF]; first | done | (dsimp only; done) | rfl), hS206.ext⟩
def F_PointsHold_k1 (wp : Int) (cap00 : Int) (cap01 : List Int) (cap02 : List Int) : Bool :=
  (!(F_Frame_hasWorld cap00 cap01 wp))
theorem cf_PointsHold_k1 (args : Array Value) (w : World) : (callFunc 117 args).run Try.prog w = .ok (.enter 117 args) w := by kernel_rfl
set_option maxRecDepth 100000 in
theorem c_PointsHold_k1 (wp : Int) (cap0B : Nat) (cap00 : Int) (cap01A : Option Addr) (cap01N cap01C : Nat) (cap01 : List Int) (cap02A : Option Addr) (cap02N cap02C : Nat) (cap02 : List Int) (w : World) (cap01R : RdS w 1 cap01A cap01N cap01C cap01) (cap02R : RdS w 1 cap02A cap02N cap02C cap02) (cap0H : w.heap[cap0B]? = some (.cells #[.int .i64 cap00, .slice cap01A cap01N cap01C, .slice cap02A cap02N cap02C] 69 (0, 0))) (hx : 0 ≤ cap00 ∧ cap00 ≤ 8) :
    Calls Try.prog 117 #[.int .i64 wp, .pointer (some ⟨cap0B, 0, none⟩)] w (Ret fun v w' => v = .bool (F_PointsHold_k1 wp cap00 cap01 cap02) ∧ Ext w w') := by
  obtain rfl : cap01N = cap01.length := cap01R.len1.symm
  have cap01Le := cap01R.le
  obtain rfl : cap02N = cap02.length := cap02R.len1.symm
  have cap02Le := cap02R.le
  have hS := St.nil w
  have hS1 := St.rd0 hS rfl cap01R; clear hS
  have hS2 := St.rd0 hS1 rfl cap02R; clear hS1
  have hS3 := St.rb0 hS2 rfl cap0H; clear hS2
  refine enter (args := [.int .i64 wp, .pointer (some ⟨cap0B, 0, none⟩)]) Try.func117 rfl rfl ?_
  rw [Try.ntmps117]; intro a hE
  have hE := hE.sub (L' := [(0, .int .i64 wp), (1, .pointer (some ⟨cap0B, 0, none⟩))]) ⟨rfl, rfl, trivial⟩
  refine c_seq ?_
  refine c_reg ?_
  refine q_step (v := .bool false) hE (y_assign rfl) rfl rfl rfl ?_; intro a4 hE5; clear hE
  refine c_nil ?_
  have hE6 := hE5.sub (L' := [(0, .int .i64 wp), (1, .pointer (some ⟨cap0B, 0, none⟩))]) ⟨rfl, rfl, trivial⟩; clear hE5
  refine p_tn ?_
  refine c_seq ?_
  refine c_reg ?_
  refine q_step (v := .pointer (some ⟨cap0B, 0, none⟩)) hE6 (y_field rfl (fun _ => by kernel_rfl)) rfl rfl rfl ?_; intro a7 hE8; clear hE6
  refine q_step (v := .agg #[.int .i64 cap00, .slice cap01A cap01.length cap01C]) hE8 (y_loadP Try.underlying57 rfl (by kernel_rfl) rfl rfl (St.rowR (i := 0) hS3 rfl)) rfl rfl rfl ?_; intro a9 hE10; clear hE8
  refine q_step (v := .int .i64 wp) hE10 (y_move rfl) rfl rfl rfl ?_; intro a11 hE12; clear hE10
  refine l_step hE12 rfl (l_call (f := 118) (argv := [.agg #[.int .i64 cap00, .slice cap01A cap01.length cap01C], .int .i64 wp]) hE12 (fun _ => cf_Frame_hasWorld _ _) rfl rfl (c_Frame_hasWorld cap00 cap01A cap01.length cap01C cap01 wp w (St.rdR (i := 2) hS3 rfl) (by omega) (by omega)) ?_)
  rintro _ w14 ⟨rfl, he18⟩ a15 hE16; clear hE12
  have hS17 := St.go hS3 he18; clear hS3
  refine q_step (v := .bool (!(F_Frame_hasWorld cap00 cap01 wp))) hE16 (y_not rfl) rfl rfl rfl ?_; intro a19 hE20; clear hE16
  refine q_step (v := .bool (!(F_Frame_hasWorld cap00 cap01 wp))) hE20 (y_assign rfl) rfl rfl rfl ?_; intro a21 hE22; clear hE20
  refine c_nil ?_
  have hE23 := hE22.sub (L' := [(3, .bool (!(F_Frame_hasWorld cap00 cap01 wp)))]) ⟨rfl, trivial⟩; clear hE22
  refine p_tn ?_
  refine wp_ret ?_
  have hF : F_PointsHold_k1 wp cap00 cap01 cap02 = (!(F_Frame_hasWorld cap00 cap01 wp)) := by unfold F_PointsHold_k1; rfl
  refine c_ret1 hE23 rfl rfl ?_
  exact ⟨(by rw [hF]; first | done | (dsimp only; done) | rfl), hS17.ext⟩
def F_PointsHold (mp0 : Int) (mp1 : List Int) (mp2 : List Int) (ap : List Int) (worlds : List Int) : (Bool) × (Int) :=
  bif (!(F_isModel mp0 mp1 mp2)) then (false, 1) else (bif (!(F_isPointFormula ap)) then (false, 1) else (bif (!decide ((worlds.length : Int) = 10)) then (false, 2) else (bif (F_z_ContainsFunc worlds (fun x0 => F_PointsHold_k1 x0 mp0 mp1 mp2)) then (false, 2) else (bif (!(F_hasValues ap mp0)) then (false, 3) else (F_Model_holds mp0 mp1 mp2 ap worlds, 0)))))
theorem cf_PointsHold (args : Array Value) (w : World) : (callFunc 52 args).run Try.prog w = .ok (.enter 52 args) w := by kernel_rfl
theorem contW (mp0 : Int) (mp1 mp2 worlds : List Int) : F_z_ContainsFunc worlds (fun x0 => F_PointsHold_k1 x0 mp0 mp1 mp2) = !((List.range worlds.length).all (fun (j : Nat) => !(!(F_l05World mp0 mp1 (gI worlds (j : Int)))))) := by
  rw [contains_eq, all_gI worlds (fun x => !(!(F_l05World mp0 mp1 x))), ← List.not_any_eq_all_not, Bool.not_not]; rfl
theorem ws_ofI {mp0 : Int} {mp1 mp2 worlds : List Int} (h : F_z_ContainsFunc worlds (fun x0 => F_PointsHold_k1 x0 mp0 mp1 mp2) = false) (h10 : worlds.length = 10) : ∀ j : Nat, j < 10 → 0 ≤ gI worlds (j : Int) ∧ gI worlds (j : Int) < mp0 := fun j hj => by
  rw [contW, Bool.not_eq_false'] at h
  have := List.all_eq_true.1 h j (List.mem_range.2 (by omega))
  rw [Bool.not_not] at this
  have := F_l01In_t this
  omega
set_option maxRecDepth 100000 in
theorem c_PointsHold (mp0 : Int) (mp1A : Option Addr) (mp1N mp1C : Nat) (mp1 : List Int) (mp2A : Option Addr) (mp2N mp2C : Nat) (mp2 : List Int) (apA : Option Addr) (apN apC : Nat) (ap : List Int) (worldsA : Option Addr) (worldsN worldsC : Nat) (worlds : List Int) (w : World) (mp1R : RdS w 1 mp1A mp1N mp1C mp1) (mp2R : RdS w 1 mp2A mp2N mp2C mp2) (apR : RdS w 3 apA apN apC ap) (worldsR : RdS w 1 worldsA worldsN worldsC worlds) (hl : ap.length ≤ 4194304) :
    Calls Try.prog 52 #[.agg #[.int .i64 mp0, .slice mp1A mp1N mp1C, .slice mp2A mp2N mp2C], .slice apA apN apC, .slice worldsA worldsN worldsC] w (Ret fun v w' => v = .tuple #[.bool ((F_PointsHold mp0 mp1 mp2 ap worlds).1), .int .i64 ((F_PointsHold mp0 mp1 mp2 ap worlds).2)] ∧ Ext w w') := by
  obtain rfl : mp1N = mp1.length := mp1R.len1.symm
  have mp1Le := mp1R.le
  obtain rfl : mp2N = mp2.length := mp2R.len1.symm
  have mp2Le := mp2R.le
  obtain rfl : apN = ap.length / 3 := (apR.lenD (by decide)).symm
  have apEv := apR.ev (by decide)
  have apLe := apR.le
  obtain rfl : worldsN = worlds.length := worldsR.len1.symm
  have worldsLe := worldsR.le
  have hS := St.nil w
  have hS1 := St.rd0 hS rfl mp1R; clear hS
  have hS2 := St.rd0 hS1 rfl mp2R; clear hS1
  have hS3 := St.rd0 hS2 rfl apR; clear hS2
  have hS4 := St.rd0 hS3 rfl worldsR; clear hS3
  refine enter (args := [.agg #[.int .i64 mp0, .slice mp1A mp1.length mp1C, .slice mp2A mp2.length mp2C], .slice apA ((ap).length / 3 : Nat) apC, .slice worldsA worlds.length worldsC]) Try.func52 rfl rfl ?_
  rw [Try.ntmps52]; intro a hE
  have hE := hE.sub (L' := [(0, .agg #[.int .i64 mp0, .slice mp1A mp1.length mp1C, .slice mp2A mp2.length mp2C]), (1, .slice apA ((ap).length / 3 : Nat) apC), (2, .slice worldsA worlds.length worldsC)]) ⟨rfl, rfl, rfl, trivial⟩
  refine c_seq ?_
  refine c_reg ?_
  refine l_step hE rfl (l_box (v := .agg #[.int .i64 mp0, .slice mp1A mp1.length mp1C, .slice mp2A mp2.length mp2C]) (cs := #[.int .i64 mp0, .slice mp1A mp1.length mp1C, .slice mp2A mp2.length mp2C]) hS4 hE rfl rfl rfl ?_)
  intro b5 w6 hS9 he10 a7 hE8; clear hS4 hE
  refine q_step (v := .bool false) hE8 (y_assign rfl) rfl rfl rfl ?_; intro a11 hE12; clear hE8
  refine q_step (v := .int .i64 0) hE12 (y_assign rfl) rfl rfl rfl ?_; intro a13 hE14; clear hE12
  refine c_nil ?_
  have hE15 := hE14.sub (L' := [(1, .slice apA ((ap).length / 3 : Nat) apC), (2, .slice worldsA worlds.length worldsC), (3, .pointer (some ⟨b5, 0, none⟩))]) ⟨rfl, rfl, rfl, trivial⟩; clear hE14
  refine p_tn ?_
  refine c_seq ?_
  refine wp_block ?_
  refine c_seq ?_
  refine c_reg ?_
  refine q_step (v := .agg #[.int .i64 mp0, .slice mp1A mp1.length mp1C, .slice mp2A mp2.length mp2C]) hE15 (y_loadS Try.underlying69 rfl (by kernel_rfl) rfl (St.row (i := 0) hS9 rfl)) rfl rfl rfl ?_; intro a16 hE17; clear hE15
  refine l_step hE17 rfl (l_call (f := 115) (argv := [.agg #[.int .i64 mp0, .slice mp1A mp1.length mp1C, .slice mp2A mp2.length mp2C]]) hE17 (fun _ => cf_isModel _ _) rfl rfl (c_isModel mp0 mp1A mp1.length mp1C mp1 mp2A mp2.length mp2C mp2 w6 (St.rdR (i := 4) hS9 rfl) (St.rdR (i := 3) hS9 rfl)) ?_)
  rintro _ w19 ⟨rfl, he23⟩ a20 hE21; clear hE17
  have hS22 := St.go hS9 he23; clear hS9
  refine q_step (v := .bool (!(F_isModel mp0 mp1 mp2))) hE21 (y_not rfl) rfl rfl rfl ?_; intro a24 hE25; clear hE21
  refine q_step (v := .bool (!(F_isModel mp0 mp1 mp2))) hE25 (y_move rfl) rfl rfl rfl ?_; intro a26 hE27; clear hE25
  rcases Bool.eq_false_or_eq_true (!(F_isModel mp0 mp1 mp2)) with hb28 | hb28
  ·
   have hE29 := hE27; (try rw [hb28] at hE29); clear hE27
   have ht30 := bn_t hb28
   refine q_skip hE29 rfl rfl rfl ?_; intro a31 hE32; clear hE29
   refine q_skip hE32 rfl rfl rfl ?_; intro a33 hE34; clear hE32
   refine q_skip hE34 rfl rfl rfl ?_; intro a35 hE36; clear hE34
   refine q_step (v := .bool true) hE36 (y_pick (b := true) rfl rfl) rfl rfl rfl ?_; intro a37 hE38; clear hE36
   refine q_step (v := .bool true) hE38 (y_assign rfl) rfl rfl rfl ?_; intro a39 hE40; clear hE38
   refine c_nil ?_
   have hE41 := hE40.sub (L' := [(1, .slice apA ((ap).length / 3 : Nat) apC), (2, .slice worldsA worlds.length worldsC), (3, .pointer (some ⟨b5, 0, none⟩)), (8, .bool true)]) ⟨rfl, rfl, rfl, rfl, trivial⟩; clear hE40
   refine p_tn ?_
   refine c_true hE41 rfl ?_
   refine c_seq ?_
   refine c_reg ?_
   refine q_step (v := .bool false) hE41 (y_assign rfl) rfl rfl rfl ?_; intro a42 hE43; clear hE41
   refine q_step (v := .int .i64 1) hE43 (y_assign rfl) rfl rfl rfl ?_; intro a44 hE45; clear hE43
   refine c_nil ?_
   have hE46 := hE45.sub (L' := [(6, .bool false), (7, .int .i64 1)]) ⟨rfl, rfl, trivial⟩; clear hE45
   refine p_tn ?_
   refine wp_ret ?_
   refine p_br ?_
   refine p_tr ?_
   have hF : F_PointsHold mp0 mp1 mp2 ap worlds = (false, 1) := by unfold F_PointsHold; rw [hb28]; first | done | rfl
   refine c_ret2 hE46 rfl rfl rfl ?_
   exact ⟨(by rw [hF]; first | done | (dsimp only; done) | rfl), hS22.ext⟩
  ·
   have hE47 := hE27; (try rw [hb28] at hE47); clear hE27
   have ht48 := bn_f hb28
   have hp49 := isModel_t ht48
   refine q_step (v := .slice apA ((ap).length / 3 : Nat) apC) hE47 (y_move rfl) rfl rfl rfl ?_; intro a50 hE51; clear hE47
   refine l_step hE51 rfl (l_call (f := 105) (argv := [.slice apA ((ap).length / 3 : Nat) apC]) hE51 (fun _ => cf_isPointFormula _ _) rfl rfl (c_isPointFormula apA ((ap).length / 3 : Nat) apC ap w19 (St.rdR (i := 2) hS22 rfl) (by omega)) ?_)
   rintro _ w53 ⟨rfl, he57⟩ a54 hE55; clear hE51
   have hS56 := St.go hS22 he57; clear hS22
   refine q_step (v := .bool (!(F_isPointFormula ap))) hE55 (y_not rfl) rfl rfl rfl ?_; intro a58 hE59; clear hE55
   refine q_step (v := .bool (!(F_isPointFormula ap))) hE59 (y_pick (b := false) rfl rfl) rfl rfl rfl ?_; intro a60 hE61; clear hE59
   refine q_step (v := .bool (!(F_isPointFormula ap))) hE61 (y_assign rfl) rfl rfl rfl ?_; intro a62 hE63; clear hE61
   refine c_nil ?_
   have hE64 := hE63.sub (L' := [(1, .slice apA ((ap).length / 3 : Nat) apC), (2, .slice worldsA worlds.length worldsC), (3, .pointer (some ⟨b5, 0, none⟩)), (8, .bool (!(F_isPointFormula ap)))]) ⟨rfl, rfl, rfl, rfl, trivial⟩; clear hE63
   refine p_tn ?_
   refine c_cond hE64 rfl (fun ht65 => ?_) (fun ht65 => ?_)
   ·
    have ht66 := bn_t ht65
    have hE67 := hE64; rw [ht65] at hE67; clear hE64
    refine c_seq ?_
    refine c_reg ?_
    refine q_step (v := .bool false) hE67 (y_assign rfl) rfl rfl rfl ?_; intro a68 hE69; clear hE67
    refine q_step (v := .int .i64 1) hE69 (y_assign rfl) rfl rfl rfl ?_; intro a70 hE71; clear hE69
    refine c_nil ?_
    have hE72 := hE71.sub (L' := [(6, .bool false), (7, .int .i64 1)]) ⟨rfl, rfl, trivial⟩; clear hE71
    refine p_tn ?_
    refine wp_ret ?_
    refine p_br ?_
    refine p_tr ?_
    have hF : F_PointsHold mp0 mp1 mp2 ap worlds = (false, 1) := by unfold F_PointsHold; rw [ht65, hb28]; first | done | rfl
    refine c_ret2 hE72 rfl rfl rfl ?_
    exact ⟨(by rw [hF]; first | done | (dsimp only; done) | rfl), hS56.ext⟩
   ·
    have ht73 := bn_f ht65
    have hp74 := (isPtI_t apEv) ht73
    have hE75 := hE64; rw [ht65] at hE75; clear hE64
    refine c_seq ?_
    refine c_reg ?_
    refine q_step (v := .slice worldsA worlds.length worldsC) hE75 (y_move rfl) rfl rfl rfl ?_; intro a76 hE77; clear hE75
    refine q_step (v := .int .i64 (worlds.length : Int)) hE77 (y_len (e := 2) (by kernel_rfl) rfl) rfl rfl rfl ?_; intro a78 hE79; clear hE77
    refine q_step (v := .bool (!decide ((worlds.length : Int) = 10))) hE79 (y_neq rfl rfl) rfl rfl rfl ?_; intro a80 hE81; clear hE79
    refine q_step (v := .bool (!decide ((worlds.length : Int) = 10))) hE81 (y_move rfl) rfl rfl rfl ?_; intro a82 hE83; clear hE81
    rcases Bool.eq_false_or_eq_true (!decide ((worlds.length : Int) = 10)) with hb84 | hb84
    ·
     have hE85 := hE83; (try rw [hb84] at hE85); clear hE83
     have ht86 := bn_t hb84
     have hp87 := of_decide_eq_false ht86
     refine q_skip hE85 rfl rfl rfl ?_; intro a88 hE89; clear hE85
     refine q_skip hE89 rfl rfl rfl ?_; intro a90 hE91; clear hE89
     refine q_skip hE91 rfl rfl rfl ?_; intro a92 hE93; clear hE91
     refine q_step (v := .bool true) hE93 (y_pick (b := true) rfl rfl) rfl rfl rfl ?_; intro a94 hE95; clear hE93
     refine q_step (v := .bool true) hE95 (y_assign rfl) rfl rfl rfl ?_; intro a96 hE97; clear hE95
     refine c_nil ?_
     have hE98 := hE97.sub (L' := [(1, .slice apA ((ap).length / 3 : Nat) apC), (2, .slice worldsA worlds.length worldsC), (3, .pointer (some ⟨b5, 0, none⟩)), (17, .bool true)]) ⟨rfl, rfl, rfl, rfl, trivial⟩; clear hE97
     refine p_tn ?_
     refine c_true hE98 rfl ?_
     refine c_seq ?_
     refine c_reg ?_
     refine q_step (v := .bool false) hE98 (y_assign rfl) rfl rfl rfl ?_; intro a99 hE100; clear hE98
     refine q_step (v := .int .i64 2) hE100 (y_assign rfl) rfl rfl rfl ?_; intro a101 hE102; clear hE100
     refine c_nil ?_
     have hE103 := hE102.sub (L' := [(6, .bool false), (7, .int .i64 2)]) ⟨rfl, rfl, trivial⟩; clear hE102
     refine p_tn ?_
     refine wp_ret ?_
     refine p_br ?_
     refine p_tr ?_
     have hF : F_PointsHold mp0 mp1 mp2 ap worlds = (false, 2) := by unfold F_PointsHold; rw [hb84, ht65, hb28]; first | done | rfl
     refine c_ret2 hE103 rfl rfl rfl ?_
     exact ⟨(by rw [hF]; first | done | (dsimp only; done) | rfl), hS56.ext⟩
    ·
     have hE104 := hE83; (try rw [hb84] at hE104); clear hE83
     have ht105 := bn_f hb84
     have hp106 := of_decide_eq_true ht105
     refine q_step (v := .slice worldsA worlds.length worldsC) hE104 (y_move rfl) rfl rfl rfl ?_; intro a107 hE108; clear hE104
     refine q_step (v := .func (.func 117) #[] #[.pointer (some ⟨b5, 0, none⟩)]) hE108 (y_makeFunc (vs := [.pointer (some ⟨b5, 0, none⟩)]) rfl) rfl rfl rfl ?_; intro a109 hE110; clear hE108
     refine l_step hE110 rfl (l_call (f := 116) (argv := [.slice worldsA worlds.length worldsC, .func (.func 117) #[] #[.pointer (some ⟨b5, 0, none⟩)]]) hE110 (fun _ => cf_z_ContainsFunc _ _) rfl rfl (c_z_ContainsFunc worldsA worlds.length worldsC worlds 117 [.pointer (some ⟨b5, 0, none⟩)] (fun x0 => F_PointsHold_k1 x0 mp0 mp1 mp2) (fun _ => True) w53 (St.rdR (i := 1) hS56 rfl) (fun _ _ => cf_PointsHold_k1 _ _) (fun x0 w' hx he => c_PointsHold_k1 x0 b5 mp0 mp1A mp1.length mp1C mp1 mp2A mp2.length mp2C mp2 w' (RdS.ext (St.rdR (i := 4) hS56 rfl) he) (RdS.ext (St.rdR (i := 3) hS56 rfl) he) (St.row (i := 0) hS56 rfl w' he) (by omega)) (fun _ _ _ => trivial)) ?_)
     rintro _ w112 ⟨rfl, he116⟩ a113 hE114; clear hE110
     have hS115 := St.go hS56 he116; clear hS56
     refine q_step (v := .bool (F_z_ContainsFunc worlds (fun x0 => F_PointsHold_k1 x0 mp0 mp1 mp2))) hE114 (y_pick (b := false) rfl rfl) rfl rfl rfl ?_; intro a117 hE118; clear hE114
     refine q_step (v := .bool (F_z_ContainsFunc worlds (fun x0 => F_PointsHold_k1 x0 mp0 mp1 mp2))) hE118 (y_assign rfl) rfl rfl rfl ?_; intro a119 hE120; clear hE118
     refine c_nil ?_
     have hE121 := hE120.sub (L' := [(1, .slice apA ((ap).length / 3 : Nat) apC), (2, .slice worldsA worlds.length worldsC), (3, .pointer (some ⟨b5, 0, none⟩)), (17, .bool (F_z_ContainsFunc worlds (fun x0 => F_PointsHold_k1 x0 mp0 mp1 mp2)))]) ⟨rfl, rfl, rfl, rfl, trivial⟩; clear hE120
     refine p_tn ?_
     refine c_cond hE121 rfl (fun ht122 => ?_) (fun ht122 => ?_)
     ·
      have hE123 := hE121; rw [ht122] at hE123; clear hE121
      refine c_seq ?_
      refine c_reg ?_
      refine q_step (v := .bool false) hE123 (y_assign rfl) rfl rfl rfl ?_; intro a124 hE125; clear hE123
      refine q_step (v := .int .i64 2) hE125 (y_assign rfl) rfl rfl rfl ?_; intro a126 hE127; clear hE125
      refine c_nil ?_
      have hE128 := hE127.sub (L' := [(6, .bool false), (7, .int .i64 2)]) ⟨rfl, rfl, trivial⟩; clear hE127
      refine p_tn ?_
      refine wp_ret ?_
      refine p_br ?_
      refine p_tr ?_
      have hF : F_PointsHold mp0 mp1 mp2 ap worlds = (false, 2) := by unfold F_PointsHold; rw [ht122, hb84, ht65, hb28]; first | done | rfl
      refine c_ret2 hE128 rfl rfl rfl ?_
      exact ⟨(by rw [hF]; first | done | (dsimp only; done) | rfl), hS115.ext⟩
     ·
      have hE129 := hE121; rw [ht122] at hE129; clear hE121
      refine c_seq ?_
      refine c_reg ?_
      refine q_step (v := .slice apA ((ap).length / 3 : Nat) apC) hE129 (y_move rfl) rfl rfl rfl ?_; intro a130 hE131; clear hE129
      refine q_step (v := .pointer (some ⟨b5, 0, none⟩)) hE131 (y_field rfl (fun _ => by kernel_rfl)) rfl rfl rfl ?_; intro a132 hE133; clear hE131
      refine q_step (v := .pointer (some ⟨b5, 0, none⟩)) hE133 (y_field rfl (fun _ => by kernel_rfl)) rfl rfl rfl ?_; intro a134 hE135; clear hE133
      refine q_step (v := .int .i64 mp0) hE135 (y_load (fun _ => by kernel_rfl) rfl (St.cell (i := 0) hS115 rfl rfl)) rfl rfl rfl ?_; intro a136 hE137; clear hE135
      refine l_step hE137 rfl (l_call (f := 109) (argv := [.slice apA ((ap).length / 3 : Nat) apC, .int .i64 mp0]) hE137 (fun _ => cf_hasValues _ _) rfl rfl (c_hasValues apA ((ap).length / 3 : Nat) apC ap mp0 w112 (St.rdR (i := 2) hS115 rfl) (by omega) (by omega)) ?_)
      rintro _ w139 ⟨rfl, he143⟩ a140 hE141; clear hE137
      have hS142 := St.go hS115 he143; clear hS115
      refine q_step (v := .bool (!(F_hasValues ap mp0))) hE141 (y_not rfl) rfl rfl rfl ?_; intro a144 hE145; clear hE141
      refine q_step (v := .bool (!(F_hasValues ap mp0))) hE145 (y_assign rfl) rfl rfl rfl ?_; intro a146 hE147; clear hE145
      refine c_nil ?_
      have hE148 := hE147.sub (L' := [(1, .slice apA ((ap).length / 3 : Nat) apC), (2, .slice worldsA worlds.length worldsC), (3, .pointer (some ⟨b5, 0, none⟩)), (26, .bool (!(F_hasValues ap mp0)))]) ⟨rfl, rfl, rfl, rfl, trivial⟩; clear hE147
      refine p_tn ?_
      refine c_cond hE148 rfl (fun ht149 => ?_) (fun ht149 => ?_)
      ·
       have ht150 := bn_t ht149
       have hE151 := hE148; rw [ht149] at hE151; clear hE148
       refine c_seq ?_
       refine c_reg ?_
       refine q_step (v := .bool false) hE151 (y_assign rfl) rfl rfl rfl ?_; intro a152 hE153; clear hE151
       refine q_step (v := .int .i64 3) hE153 (y_assign rfl) rfl rfl rfl ?_; intro a154 hE155; clear hE153
       refine c_nil ?_
       have hE156 := hE155.sub (L' := [(6, .bool false), (7, .int .i64 3)]) ⟨rfl, rfl, trivial⟩; clear hE155
       refine p_tn ?_
       refine wp_ret ?_
       refine p_br ?_
       refine p_tr ?_
       have hF : F_PointsHold mp0 mp1 mp2 ap worlds = (false, 3) := by unfold F_PointsHold; rw [ht149, ht122, hb84, ht65, hb28]; first | done | rfl
       refine c_ret2 hE156 rfl rfl rfl ?_
       exact ⟨(by rw [hF]; first | done | (dsimp only; done) | rfl), hS142.ext⟩
      ·
       have ht157 := bn_f ht149
       have hE158 := hE148; rw [ht149] at hE158; clear hE148
       refine wp_skip ?_
       refine p_bn ?_
       refine p_tn ?_
       refine c_seq ?_
       refine c_reg ?_
       refine q_step (v := .agg #[.int .i64 mp0, .slice mp1A mp1.length mp1C, .slice mp2A mp2.length mp2C]) hE158 (y_loadS Try.underlying69 rfl (by kernel_rfl) rfl (St.row (i := 0) hS142 rfl)) rfl rfl rfl ?_; intro a159 hE160; clear hE158
       refine q_step (v := .slice apA ((ap).length / 3 : Nat) apC) hE160 (y_move rfl) rfl rfl rfl ?_; intro a161 hE162; clear hE160
       refine q_step (v := .slice worldsA worlds.length worldsC) hE162 (y_move rfl) rfl rfl rfl ?_; intro a163 hE164; clear hE162
       refine l_step hE164 rfl (l_call (f := 110) (argv := [.agg #[.int .i64 mp0, .slice mp1A mp1.length mp1C, .slice mp2A mp2.length mp2C], .slice apA ((ap).length / 3 : Nat) apC, .slice worldsA worlds.length worldsC]) hE164 (fun _ => cf_Model_holds _ _) rfl rfl (c_Model_holds mp0 mp1A mp1.length mp1C mp1 mp2A mp2.length mp2C mp2 apA ((ap).length / 3 : Nat) apC ap worldsA worlds.length worldsC worlds w139 (St.rdR (i := 4) hS142 rfl) (St.rdR (i := 3) hS142 rfl) (St.rdR (i := 2) hS142 rfl) (St.rdR (i := 1) hS142 rfl) (by omega) (by omega) (by omega) (by omega) (by have h6 := (show (mp2.length : Int) = 6 by omega); rw [h6]; assumption) (by omega) (fr_all (bd := 6) (by assumption) (ws_ofI (by assumption) (by omega)))) ?_)
       rintro _ w166 ⟨rfl, he170⟩ a167 hE168; clear hE164
       have hS169 := St.go hS142 he170; clear hS142
       refine q_step (v := .bool (F_Model_holds mp0 mp1 mp2 ap worlds)) hE168 (y_assign rfl) rfl rfl rfl ?_; intro a171 hE172; clear hE168
       refine q_step (v := .int .i64 0) hE172 (y_assign rfl) rfl rfl rfl ?_; intro a173 hE174; clear hE172
       refine c_nil ?_
       have hE175 := hE174.sub (L' := [(6, .bool (F_Model_holds mp0 mp1 mp2 ap worlds)), (7, .int .i64 0)]) ⟨rfl, rfl, trivial⟩; clear hE174
       refine p_tn ?_
       refine wp_ret ?_
       have hF : F_PointsHold mp0 mp1 mp2 ap worlds = (F_Model_holds mp0 mp1 mp2 ap worlds, 0) := by unfold F_PointsHold; rw [ht149, ht122, hb84, ht65, hb28]; first | done | rfl
       refine c_ret2 hE175 rfl rfl rfl ?_
       exact ⟨(by rw [hF]; first | done | (dsimp only; done) | rfl), hS169.ext⟩
theorem PointsHold_eq (mp0 : Int) (mp1 mp2 ap worlds : List Int) (he : ap.length = ap.length / 3 * 3) : F_PointsHold mp0 mp1 mp2 ap worlds = F_s_PointsHold mp0 mp1 mp2 ap worlds := by
  unfold F_PointsHold F_s_PointsHold
  rw [isModel_eq, isPt_eq he, ph_all, contW]
  cases hA : F_l06Is mp0 mp1 mp2
  · rfl
  · cases hB : F_s_IsPointFormula ap
    · rfl
    · have hf := IsPm.ofs he hB
      have hm := (l06Is_t hA).2.1.1
      rw [hasValues_eq hf hm.1 hm.2, holds_eq hm.1 hf]
      cases decide ((worlds.length : Int) = 10)
      · rfl
      · cases (List.range worlds.length).all (fun (j : Nat) => !(!(F_l05World mp0 mp1 (gI worlds (j : Int)))))
        · rfl
        · rfl
end Go.Proofs.Ytkilkfhjfobcdaa
