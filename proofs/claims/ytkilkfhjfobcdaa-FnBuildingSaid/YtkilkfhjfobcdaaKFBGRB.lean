/- GRB: models and contracts, printed by wip/gen/gen.py -/
import Derived.Test.YtkilkfhjfobcdaaKFBGRA
set_option linter.unusedVariables false
set_option linter.unusedSimpArgs false
namespace Go.Proofs.Ytkilkfhjfobcdaa
open Go.RowKit
/-- Behind a call: a new slice whose rows are parts of what is only read. -/
theorem St.ownRows {w0 w w' : World} {Γ : List Ent} {e : TypeId} {s : Nat} {b : Option Addr} {c : Nat} {hs : List Hd} {xss : List (List Int)} {rows : List (Hd × List Int)} (hS : St w0 w Γ) (hext : Ext w w') (ho : OwnV w' w.heap.size e b xss.length c (hs.map Hd.v)) (hhs : rows.map (·.1) = hs) (hxs : rows.map (·.2) = xss) (hrow : RowsOk w Γ s rows) : St w0 w' (.nest e s none b c hs xss :: Γ) := by
  subst hhs; subst hxs
  have both : ∀ (i : Nat) (h : Hd) (xs : List Int), (rows.map (·.1))[i]? = some h → (rows.map (·.2))[i]? = some xs → RdS w s h.a h.n h.c xs ∧ RoB Γ h.a xs := fun i h xs h1 h2 => by
    rw [List.getElem?_map] at h1 h2
    cases hq : rows[i]? with
    | none => rw [hq] at h1; simp at h1
    | some r =>
      rw [hq] at h1 h2
      simp at h1 h2
      subst h1; subst h2
      exact RowsOk.get hrow i r hq
  refine hS.pushN hext (e := .nest e s none b c (rows.map (·.1)) (rows.map (·.2))) ⟨ho.mono hS.ext.size, ⟨by simp, fun i h xs h1 h2 => ⟨(both i h xs h1 h2).1.ext hext, fun _ h => by cases h⟩, fun h => by cases h⟩, fun k ⟨i, h, xs, h1, h2, h3, h4⟩ => ?_⟩ fun k hk => ?_
  · have h3 : xs ≠ [] := h3.resolve_right (by simp)
    have := RdS.lt (both i h xs h1 h2).1 h3 h4
    intro h; have := (ho.lt h).1; omega
  · rcases hk with hk | ⟨i, h, xs, h1, h2, h3, h4⟩
    · exact .inl (ho.lt hk).1
    · right
      have h3 : xs ≠ [] := h3.resolve_right (by simp)
      have hlt := RdS.lt (both i h xs h1 h2).1 h3 h4
      exact ⟨⟨rfl, fun h => by have := (ho.lt h).1; omega⟩, (both i h xs h1 h2).2 k h3 h4⟩
def F_part (ap : List Int) (i : Int) : List Int :=
  slI 2 ap i (F_partEnd ap i)
theorem cf_part (args : Array Value) (w : World) : (callFunc 225 args).run Try.prog w = .ok (.enter 225 args) w := by kernel_rfl
set_option maxRecDepth 100000 in
theorem c_part (apA : Option Addr) (apN apC : Nat) (ap : List Int) (i : Int) (w : World) (apR : RdS w 2 apA apN apC ap) (hl : ap.length ≤ 4194304) (h0 : 0 ≤ i) (hp : i ≤ F_partEnd ap i ∧ F_partEnd ap i ≤ ((ap.length / 2 : Nat) : Int)) :
    Calls Try.prog 225 #[.slice apA apN apC, .int .i64 i] w (Ret fun v w' => v = .slice (subA apA (Int.toNat i) (Int.toNat (F_partEnd ap i)) 2) ((F_part ap i).length / 2 : Nat) ((Int.toNat (F_partEnd ap i)) - (Int.toNat i)) ∧ Ext w w') := by
  obtain rfl : apN = ap.length / 2 := (apR.lenD (by decide)).symm
  have apEv := apR.ev (by decide)
  have apLe := apR.le
  have hS := St.nil w
  have hS1 := St.rd0 hS rfl apR; clear hS
  refine enter (args := [.slice apA ((ap).length / 2 : Nat) apC, .int .i64 i]) Try.func225 rfl rfl ?_
  rw [Try.ntmps225]; intro a hE
  have hE := hE.sub (L' := [(0, .slice apA ((ap).length / 2 : Nat) apC), (1, .int .i64 i)]) ⟨rfl, rfl, trivial⟩
  refine c_seq ?_
  refine c_reg ?_
  refine q_step (v := .slice none 0 0) hE (y_assign rfl) rfl rfl rfl ?_; intro a2 hE3; clear hE
  refine c_nil ?_
  have hE4 := hE3.sub (L' := [(0, .slice apA ((ap).length / 2 : Nat) apC), (1, .int .i64 i)]) ⟨rfl, rfl, trivial⟩; clear hE3
  refine p_tn ?_
  refine c_seq ?_
  refine c_reg ?_
  refine q_step (v := .slice apA ((ap).length / 2 : Nat) apC) hE4 (y_move rfl) rfl rfl rfl ?_; intro a5 hE6; clear hE4
  refine q_step (v := .int .i64 i) hE6 (y_move rfl) rfl rfl rfl ?_; intro a7 hE8; clear hE6
  refine q_step (v := .slice apA ((ap).length / 2 : Nat) apC) hE8 (y_move rfl) rfl rfl rfl ?_; intro a9 hE10; clear hE8
  refine q_step (v := .int .i64 i) hE10 (y_move rfl) rfl rfl rfl ?_; intro a11 hE12; clear hE10
  refine l_step hE12 rfl (l_call (f := 77) (argv := [.slice apA ((ap).length / 2 : Nat) apC, .int .i64 i]) hE12 (fun _ => cf_partEnd _ _) rfl rfl (c_partEnd apA ((ap).length / 2 : Nat) apC ap i w (St.rdR (i := 0) hS1 rfl) (by omega) (by omega)) ?_)
  rintro _ w14 ⟨rfl, he18⟩ a15 hE16; clear hE12
  have hS17 := St.go hS1 he18; clear hS1
  refine q_step (v := .slice apA ((ap).length / 2 : Nat) apC) hE16 (y_move rfl) rfl rfl rfl ?_; intro a19 hE20; clear hE16
  refine q_step (v := .int .i64 i) hE20 (y_move rfl) rfl rfl rfl ?_; intro a21 hE22; clear hE20
  refine l_step hE22 rfl (l_call (f := 77) (argv := [.slice apA ((ap).length / 2 : Nat) apC, .int .i64 i]) hE22 (fun _ => cf_partEnd _ _) rfl rfl (c_partEnd apA ((ap).length / 2 : Nat) apC ap i w14 (St.rdR (i := 0) hS17 rfl) (by omega) (by omega)) ?_)
  rintro _ w24 ⟨rfl, he28⟩ a25 hE26; clear hE22
  have hS27 := St.go hS17 he28; clear hS17
  have hv30 := (St.rdR (i := 0) hS27 rfl).2.1
  have hv29 : (0 : Int) ≤ i ∧ i ≤ (F_partEnd ap i) ∧ (F_partEnd ap i) ≤ (((ap).length / 2 : Nat) : Int) := ⟨(by omega), (by omega), (by omega)⟩
  have hv31 : Int.toNat (F_partEnd ap i) - Int.toNat i = ((slI 2 ap i (F_partEnd ap i)).length / 2 : Nat) := ((slI_lenD (by decide) (St.rdR (i := 0) hS27 rfl).1 hv29.2.2)).symm
  have hv32 : Int.toNat (F_partEnd ap i) ≤ Int.toNat (F_partEnd ap i) ∧ Int.toNat (F_partEnd ap i) ≤ apC := ⟨by omega, by omega⟩
  refine q_step (v := .slice (subA apA (Int.toNat i) (Int.toNat (F_partEnd ap i)) 2) ((slI 2 ap i (F_partEnd ap i)).length / 2 : Nat) ((Int.toNat (F_partEnd ap i)) - Int.toNat i)) hE26 (y_sliceLHM (by kernel_rfl) (fun _ => by kernel_rfl) rfl rfl rfl rfl hv29.1 hv29.2.1 (by omega) (by omega) hv31 rfl) rfl rfl rfl ?_; intro a33 hE34; clear hE26
  refine q_step (v := .slice (subA apA (Int.toNat i) (Int.toNat (F_partEnd ap i)) 2) ((slI 2 ap i (F_partEnd ap i)).length / 2 : Nat) ((Int.toNat (F_partEnd ap i)) - Int.toNat i)) hE34 (y_assign rfl) rfl rfl rfl ?_; intro a35 hE36; clear hE34
  refine c_nil ?_
  have hE37 := hE36.sub (L' := [(4, .slice (subA apA (Int.toNat i) (Int.toNat (F_partEnd ap i)) 2) ((slI 2 ap i (F_partEnd ap i)).length / 2 : Nat) ((Int.toNat (F_partEnd ap i)) - Int.toNat i))]) ⟨rfl, trivial⟩; clear hE36
  refine p_tn ?_
  refine wp_ret ?_
  have hF : F_part ap i = slI 2 ap i (F_partEnd ap i) := by unfold F_part; rfl
  refine c_ret1 hE37 rfl rfl ?_
  exact ⟨(by rw [hF]; first | done | (dsimp only; done) | rfl), hS27.ext⟩
def F_first (ap : List Int) : List Int :=
  slI 2 ap 1 (F_partEnd ap 1)
theorem cf_first (args : Array Value) (w : World) : (callFunc 197 args).run Try.prog w = .ok (.enter 197 args) w := by kernel_rfl
set_option maxRecDepth 100000 in
theorem c_first (apA : Option Addr) (apN apC : Nat) (ap : List Int) (w : World) (apR : RdS w 2 apA apN apC ap) (hl : ap.length ≤ 4194304) (hp : 1 ≤ F_partEnd ap 1 ∧ F_partEnd ap 1 ≤ ((ap.length / 2 : Nat) : Int)) :
    Calls Try.prog 197 #[.slice apA apN apC] w (Ret fun v w' => v = .slice (subA apA (Int.toNat 1) (Int.toNat (F_partEnd ap 1)) 2) ((F_first ap).length / 2 : Nat) ((Int.toNat (F_partEnd ap 1)) - (Int.toNat 1)) ∧ Ext w w') := by
  obtain rfl : apN = ap.length / 2 := (apR.lenD (by decide)).symm
  have apEv := apR.ev (by decide)
  have apLe := apR.le
  have hS := St.nil w
  have hS1 := St.rd0 hS rfl apR; clear hS
  refine enter (args := [.slice apA ((ap).length / 2 : Nat) apC]) Try.func197 rfl rfl ?_
  rw [Try.ntmps197]; intro a hE
  have hE := hE.sub (L' := [(0, .slice apA ((ap).length / 2 : Nat) apC)]) ⟨rfl, trivial⟩
  refine c_seq ?_
  refine c_reg ?_
  refine q_step (v := .slice none 0 0) hE (y_assign rfl) rfl rfl rfl ?_; intro a2 hE3; clear hE
  refine c_nil ?_
  have hE4 := hE3.sub (L' := [(0, .slice apA ((ap).length / 2 : Nat) apC)]) ⟨rfl, trivial⟩; clear hE3
  refine p_tn ?_
  refine c_seq ?_
  refine c_reg ?_
  refine q_step (v := .slice apA ((ap).length / 2 : Nat) apC) hE4 (y_move rfl) rfl rfl rfl ?_; intro a5 hE6; clear hE4
  refine l_step hE6 rfl (l_call (f := 225) (argv := [.slice apA ((ap).length / 2 : Nat) apC, .int .i64 1]) hE6 (fun _ => cf_part _ _) rfl rfl (c_part apA ((ap).length / 2 : Nat) apC ap 1 w (St.rdR (i := 0) hS1 rfl) (by omega) (by omega) (by omega)) ?_)
  rintro _ w8 ⟨rfl, he12⟩ a9 hE10; clear hE6
  have hS11 := St.go hS1 he12; clear hS1
  have hv16 := (St.rdR (i := 0) hS11 rfl).2.1
  have hv13 : (0 : Int) ≤ 1 ∧ 1 ≤ (F_partEnd ap 1) ∧ (F_partEnd ap 1) ≤ (((ap).length / 2 : Nat) : Int) := ⟨(by omega), (by omega), (by omega)⟩
  have hv14 : Int.toNat (F_partEnd ap 1) - Int.toNat 1 = ((slI 2 ap 1 (F_partEnd ap 1)).length / 2 : Nat) := ((slI_lenD (by decide) (St.rdR (i := 0) hS11 rfl).1 hv13.2.2)).symm
  have hv15 : Int.toNat (F_partEnd ap 1) ≤ (Int.toNat (F_partEnd ap 1)) ∧ (Int.toNat (F_partEnd ap 1)) ≤ apC := ⟨by omega, by omega⟩
  refine q_step (v := .slice (subA apA (Int.toNat 1) (Int.toNat (F_partEnd ap 1)) 2) ((slI 2 ap 1 (F_partEnd ap 1)).length / 2 : Nat) ((Int.toNat (F_partEnd ap 1)) - (Int.toNat 1))) hE10 (y_assign rfl) rfl rfl rfl ?_; intro a17 hE18; clear hE10
  refine c_nil ?_
  have hE19 := hE18.sub (L' := [(2, .slice (subA apA (Int.toNat 1) (Int.toNat (F_partEnd ap 1)) 2) ((slI 2 ap 1 (F_partEnd ap 1)).length / 2 : Nat) ((Int.toNat (F_partEnd ap 1)) - (Int.toNat 1)))]) ⟨rfl, trivial⟩; clear hE18
  refine p_tn ?_
  refine wp_ret ?_
  have hF : F_first ap = slI 2 ap 1 (F_partEnd ap 1) := by unfold F_first; rfl
  refine c_ret1 hE19 rfl rfl ?_
  exact ⟨(by rw [hF]; first | done | (dsimp only; done) | rfl), hS11.ext⟩
def F_second (ap : List Int) : List Int :=
  slI 2 ap (F_partEnd ap 1) (F_partEnd ap (F_partEnd ap 1))
theorem cf_second (args : Array Value) (w : World) : (callFunc 198 args).run Try.prog w = .ok (.enter 198 args) w := by kernel_rfl
set_option maxRecDepth 100000 in
theorem c_second (apA : Option Addr) (apN apC : Nat) (ap : List Int) (w : World) (apR : RdS w 2 apA apN apC ap) (hl : ap.length ≤ 4194304) (hp : 1 ≤ F_partEnd ap 1 ∧ F_partEnd ap 1 ≤ ((ap.length / 2 : Nat) : Int)) (hp2 : F_partEnd ap 1 ≤ F_partEnd ap (F_partEnd ap 1) ∧ F_partEnd ap (F_partEnd ap 1) ≤ ((ap.length / 2 : Nat) : Int)) :
    Calls Try.prog 198 #[.slice apA apN apC] w (Ret fun v w' => v = .slice (subA apA (Int.toNat (F_partEnd ap 1)) (Int.toNat (F_partEnd ap (F_partEnd ap 1))) 2) ((F_second ap).length / 2 : Nat) ((Int.toNat (F_partEnd ap (F_partEnd ap 1))) - (Int.toNat (F_partEnd ap 1))) ∧ Ext w w') := by
  obtain rfl : apN = ap.length / 2 := (apR.lenD (by decide)).symm
  have apEv := apR.ev (by decide)
  have apLe := apR.le
  have hS := St.nil w
  have hS1 := St.rd0 hS rfl apR; clear hS
  refine enter (args := [.slice apA ((ap).length / 2 : Nat) apC]) Try.func198 rfl rfl ?_
  rw [Try.ntmps198]; intro a hE
  have hE := hE.sub (L' := [(0, .slice apA ((ap).length / 2 : Nat) apC)]) ⟨rfl, trivial⟩
  refine c_seq ?_
  refine c_reg ?_
  refine q_step (v := .slice none 0 0) hE (y_assign rfl) rfl rfl rfl ?_; intro a2 hE3; clear hE
  refine c_nil ?_
  have hE4 := hE3.sub (L' := [(0, .slice apA ((ap).length / 2 : Nat) apC)]) ⟨rfl, trivial⟩; clear hE3
  refine p_tn ?_
  refine c_seq ?_
  refine c_reg ?_
  refine q_step (v := .slice apA ((ap).length / 2 : Nat) apC) hE4 (y_move rfl) rfl rfl rfl ?_; intro a5 hE6; clear hE4
  refine q_step (v := .slice apA ((ap).length / 2 : Nat) apC) hE6 (y_move rfl) rfl rfl rfl ?_; intro a7 hE8; clear hE6
  refine l_step hE8 rfl (l_call (f := 77) (argv := [.slice apA ((ap).length / 2 : Nat) apC, .int .i64 1]) hE8 (fun _ => cf_partEnd _ _) rfl rfl (c_partEnd apA ((ap).length / 2 : Nat) apC ap 1 w (St.rdR (i := 0) hS1 rfl) (by omega) (by omega)) ?_)
  rintro _ w10 ⟨rfl, he14⟩ a11 hE12; clear hE8
  have hS13 := St.go hS1 he14; clear hS1
  refine l_step hE12 rfl (l_call (f := 225) (argv := [.slice apA ((ap).length / 2 : Nat) apC, .int .i64 (F_partEnd ap 1)]) hE12 (fun _ => cf_part _ _) rfl rfl (c_part apA ((ap).length / 2 : Nat) apC ap (F_partEnd ap 1) w10 (St.rdR (i := 0) hS13 rfl) (by omega) (by omega) (by omega)) ?_)
  rintro _ w16 ⟨rfl, he20⟩ a17 hE18; clear hE12
  have hS19 := St.go hS13 he20; clear hS13
  have hv24 := (St.rdR (i := 0) hS19 rfl).2.1
  have hv21 : (0 : Int) ≤ (F_partEnd ap 1) ∧ (F_partEnd ap 1) ≤ (F_partEnd ap (F_partEnd ap 1)) ∧ (F_partEnd ap (F_partEnd ap 1)) ≤ (((ap).length / 2 : Nat) : Int) := ⟨(by omega), (by omega), (by omega)⟩
  have hv22 : Int.toNat (F_partEnd ap (F_partEnd ap 1)) - Int.toNat (F_partEnd ap 1) = ((slI 2 ap (F_partEnd ap 1) (F_partEnd ap (F_partEnd ap 1))).length / 2 : Nat) := ((slI_lenD (by decide) (St.rdR (i := 0) hS19 rfl).1 hv21.2.2)).symm
  have hv23 : Int.toNat (F_partEnd ap (F_partEnd ap 1)) ≤ (Int.toNat (F_partEnd ap (F_partEnd ap 1))) ∧ (Int.toNat (F_partEnd ap (F_partEnd ap 1))) ≤ apC := ⟨by omega, by omega⟩
  refine q_step (v := .slice (subA apA (Int.toNat (F_partEnd ap 1)) (Int.toNat (F_partEnd ap (F_partEnd ap 1))) 2) ((slI 2 ap (F_partEnd ap 1) (F_partEnd ap (F_partEnd ap 1))).length / 2 : Nat) ((Int.toNat (F_partEnd ap (F_partEnd ap 1))) - (Int.toNat (F_partEnd ap 1)))) hE18 (y_assign rfl) rfl rfl rfl ?_; intro a25 hE26; clear hE18
  refine c_nil ?_
  have hE27 := hE26.sub (L' := [(2, .slice (subA apA (Int.toNat (F_partEnd ap 1)) (Int.toNat (F_partEnd ap (F_partEnd ap 1))) 2) ((slI 2 ap (F_partEnd ap 1) (F_partEnd ap (F_partEnd ap 1))).length / 2 : Nat) ((Int.toNat (F_partEnd ap (F_partEnd ap 1))) - (Int.toNat (F_partEnd ap 1))))]) ⟨rfl, trivial⟩; clear hE26
  refine p_tn ?_
  refine wp_ret ?_
  have hF : F_second ap = slI 2 ap (F_partEnd ap 1) (F_partEnd ap (F_partEnd ap 1)) := by unfold F_second; rfl
  refine c_ret1 hE27 rfl rfl ?_
  exact ⟨(by rw [hF]; first | done | (dsimp only; done) | rfl), hS19.ext⟩
theorem partEnd_l (ap : List Int) (i : Int) : F_partEnd ap i = F_l02Part ap i := by rw [partEnd_eq]
theorem partsOf_k (k : Int) : F_partsOf k = F_l02Parts k := rfl
theorem partsOf_un {ap : List Int} (h : IsFm ap) (hp : F_partsOf (gS 2 0 ap 0) = 1 ∨ F_partsOf (gS 2 0 ap 0) = 2) : 1 ≤ F_partEnd ap 1 ∧ F_partEnd ap 1 ≤ ((ap.length / 2 : Nat) : Int) := by
  rw [partsOf_k, partEnd_l] at *
  rcases hp with hp | hp
  · obtain ⟨t, ht, rfl⟩ := h
    have hk := t.kind ht
    rw [hp] at hk
    cases t with
    | leaf k v => exact absurd hk (by simp)
    | bin k v a b => exact absurd hk (by simp)
    | un k v a =>
      have hl := (Fm.un k v a).code_half
      have hs : (Fm.un k v a).size = a.size + 1 := rfl
      have pa := a.size_pos
      have e1 : slI 2 (Fm.un k v a).code 1 (1 + a.size) = a.code := by
        have := fm_un (k := k) (v := v) (a := a)
        rw [hl, hs] at this
        rw [show (1 : Int) + (a.size : Int) = ((a.size + 1 : Nat) : Int) by omega]; exact this
      have : F_l02Part (Fm.un k v a).code 1 = 1 + a.size := by
        refine l02Part_of ?_
        rw [hl, hs, show Int.toNat (((a.size + 1 : Nat) : Int) - 1) + 1 = 1 + a.size by omega, part_code _ (Fm.code_ev _) a 1 1 1 ht.2 (by omega) (by omega) e1.symm (by rw [hl, hs]; omega)]
        rw [show (1 : Int) - 1 = 0 by rfl, part_zero]
      rw [this, hl, hs]; omega
  · exact (h.bin hp).1
theorem partsOf_bin {ap : List Int} (h : IsFm ap) : F_partsOf (gS 2 0 ap 0) = 2 → (1 ≤ F_partEnd ap 1 ∧ F_partEnd ap 1 ≤ ((ap.length / 2 : Nat) : Int)) ∧ (F_partEnd ap 1 ≤ F_partEnd ap (F_partEnd ap 1) ∧ F_partEnd ap (F_partEnd ap 1) ≤ ((ap.length / 2 : Nat) : Int)) := fun hp => by
  refine ⟨partsOf_un h (.inr hp), ?_⟩
  rw [partsOf_k] at hp
  rw [partEnd_l, partEnd_l]
  obtain ⟨t, ht, rfl⟩ := h
  have hk := t.kind ht
  rw [hp] at hk
  cases t with
  | leaf k v => exact absurd hk (by simp)
  | un k v a => exact absurd hk (by simp)
  | bin k v a b =>
    obtain ⟨p1, p2, p3⟩ := fm_part ht
    have hl := (Fm.bin k v a b).code_half
    have hs : (Fm.bin k v a b).size = a.size + b.size + 1 := rfl
    have pa := a.size_pos
    have pb := b.size_pos
    rw [hl, hs] at p3
    have : F_l02Part (Fm.bin k v a b).code (1 + a.size) = 1 + a.size + b.size := by
      refine l02Part_of ?_
      have e3 : b.code = slI 2 (Fm.bin k v a b).code (1 + a.size) (1 + a.size + b.size) := by
        rw [show (1 : Int) + (a.size : Int) + (b.size : Int) = ((a.size + b.size + 1 : Nat) : Int) by omega]; exact p3.symm
      rw [hl, hs, show Int.toNat (((a.size + b.size + 1 : Nat) : Int) - (1 + a.size)) + 1 = 1 + b.size by omega, part_code _ (Fm.code_ev _) b 1 (1 + a.size) 1 ht.2.2 (by omega) (by omega) e3 (by rw [hl, hs]; omega)]
      rw [show (1 : Int) - 1 = 0 by rfl, part_zero]
    rw [p1, this, hl, hs]; omega
def partRows (a : Option Addr) (c : Nat) (ap : List Int) : List (Hd × List Int) := bif decide (F_partsOf (gS 2 0 ap 0) = 1) then [(⟨subA a (Int.toNat 1) (Int.toNat (F_partEnd ap 1)) 2, (slI 2 ap 1 (F_partEnd ap 1)).length / 2, Int.toNat (F_partEnd ap 1) - Int.toNat 1⟩, slI 2 ap 1 (F_partEnd ap 1))]
  else bif decide (F_partsOf (gS 2 0 ap 0) = 2) then [(⟨subA a (Int.toNat 1) (Int.toNat (F_partEnd ap 1)) 2, (slI 2 ap 1 (F_partEnd ap 1)).length / 2, Int.toNat (F_partEnd ap 1) - Int.toNat 1⟩, slI 2 ap 1 (F_partEnd ap 1)),
    (⟨subA a (Int.toNat (F_partEnd ap 1)) (Int.toNat (F_partEnd ap (F_partEnd ap 1))) 2, (slI 2 ap (F_partEnd ap 1) (F_partEnd ap (F_partEnd ap 1))).length / 2, Int.toNat (F_partEnd ap (F_partEnd ap 1)) - Int.toNat (F_partEnd ap 1)⟩, slI 2 ap (F_partEnd ap 1) (F_partEnd ap (F_partEnd ap 1)))] else []
def F_parts (ap : List Int) : List (List Int) :=
  bif (decide ((F_partsOf (gS 2 0 ap 0)) = 1)) then ([slI 2 ap 1 (F_partEnd ap 1)]) else (bif (decide ((F_partsOf (gS 2 0 ap 0)) = 2)) then ([slI 2 ap 1 (F_partEnd ap 1), slI 2 ap (F_partEnd ap 1) (F_partEnd ap (F_partEnd ap 1))]) else ([]))
theorem cf_parts (args : Array Value) (w : World) : (callFunc 142 args).run Try.prog w = .ok (.enter 142 args) w := by kernel_rfl
set_option maxRecDepth 100000 in
theorem c_parts (apA : Option Addr) (apN apC : Nat) (ap : List Int) (w : World) (apR : RdS w 2 apA apN apC ap) (hl : ap.length ≤ 4194304) (hf : IsFm ap) :
    Calls Try.prog 142 #[.slice apA apN apC] w (Ret fun v w' => ∃ b1 : Option Addr, ∃ c1 : Nat, v = .slice b1 (F_parts ap).length c1 ∧ OwnV w' w.heap.size 32 b1 (F_parts ap).length c1 (((partRows apA apC ap).map (·.1)).map Hd.v) ∧ Ext w w') := by
  obtain rfl : apN = ap.length / 2 := (apR.lenD (by decide)).symm
  have apEv := apR.ev (by decide)
  have apLe := apR.le
  have hl1 := hf.len
  have hpb := partsOf_bin hf
  have hS := St.nil w
  have hS1 := St.rd0 hS rfl apR; clear hS
  refine enter (args := [.slice apA ((ap).length / 2 : Nat) apC]) Try.func142 rfl rfl ?_
  rw [Try.ntmps142]; intro a hE
  have hE := hE.sub (L' := [(0, .slice apA ((ap).length / 2 : Nat) apC)]) ⟨rfl, trivial⟩
  refine c_seq ?_
  refine c_reg ?_
  refine q_step (v := .slice none 0 0) hE (y_assign rfl) rfl rfl rfl ?_; intro a2 hE3; clear hE
  refine c_nil ?_
  have hE4 := hE3.sub (L' := [(0, .slice apA ((ap).length / 2 : Nat) apC)]) ⟨rfl, trivial⟩; clear hE3
  refine p_tn ?_
  refine c_seq ?_
  refine c_seq ?_
  refine c_reg ?_
  refine q_step (v := .slice apA ((ap).length / 2 : Nat) apC) hE4 (y_move rfl) rfl rfl rfl ?_; intro a5 hE6; clear hE4
  refine q_step (v := .pointer (some (adr apA (Int.toNat 0 * 2)))) hE6 (y_idx (by kernel_rfl) (fun _ => by kernel_rfl) rfl rfl (RdS.isS (m := 0) (St.rdR (i := 0) hS1 rfl) (by omega) (by omega)) (by omega) (by omega) rfl) rfl rfl rfl ?_; intro a7 hE8; clear hE6
  refine q_step (v := .pointer (some (adr apA ((Int.toNat 0 * 2) + 0)))) hE8 (y_fieldE (o := 0) (fun _ _ => by kernel_rfl) rfl) rfl rfl rfl ?_; intro a9 hE10; clear hE8
  refine q_step (v := .int .i64 (gS 2 0 ap 0)) hE10 (y_load (fun _ => by kernel_rfl) rfl (RdS.eltS (j := 0) (St.rdR (i := 0) hS1 rfl) (by omega) (by omega) (by decide))) rfl rfl rfl ?_; intro a11 hE12; clear hE10
  refine l_step hE12 rfl (l_call (f := 126) (argv := [.int .i64 (gS 2 0 ap 0)]) hE12 (fun _ => cf_partsOf _ _) rfl rfl (c_partsOf (gS 2 0 ap 0) w) ?_)
  rintro _ _ ⟨rfl, rfl⟩ a15 hE16; clear hE12
  have hf19 := partsOf_bd (gS 2 0 ap 0)
  refine c_nil ?_
  have hE20 := hE16.sub (L' := [(0, .slice apA ((ap).length / 2 : Nat) apC), (7, .int .i64 (F_partsOf (gS 2 0 ap 0)))]) ⟨rfl, rfl, trivial⟩; clear hE16
  refine p_tn ?_
  refine wp_block ?_
  refine c_seq ?_
  refine c_reg ?_
  refine q_step (v := .bool (decide ((F_partsOf (gS 2 0 ap 0)) = 1))) hE20 (y_eql rfl rfl) rfl rfl rfl ?_; intro a21 hE22; clear hE20
  refine q_step (v := .bool (decide ((F_partsOf (gS 2 0 ap 0)) = 1))) hE22 (y_assign rfl) rfl rfl rfl ?_; intro a23 hE24; clear hE22
  refine c_nil ?_
  have hE25 := hE24.sub (L' := [(0, .slice apA ((ap).length / 2 : Nat) apC), (7, .int .i64 (F_partsOf (gS 2 0 ap 0))), (8, .bool (decide ((F_partsOf (gS 2 0 ap 0)) = 1)))]) ⟨rfl, rfl, rfl, trivial⟩; clear hE24
  refine p_tn ?_
  refine c_cond hE25 rfl (fun ht26 => ?_) (fun ht26 => ?_)
  ·
   have hp27 := of_decide_eq_true ht26
   have hE28 := hE25; rw [ht26] at hE28; clear hE25
   refine c_seq ?_
   refine c_reg ?_
   refine q_step (v := .slice apA ((ap).length / 2 : Nat) apC) hE28 (y_move rfl) rfl rfl rfl ?_; intro a29 hE30; clear hE28
   refine l_step hE30 rfl (l_call (f := 197) (argv := [.slice apA ((ap).length / 2 : Nat) apC]) hE30 (fun _ => cf_first _ _) rfl rfl (c_first apA ((ap).length / 2 : Nat) apC ap w (St.rdR (i := 0) hS1 rfl) (by omega) (partsOf_un hf (by first | (left; assumption) | (right; assumption)))) ?_)
   rintro _ w32 ⟨rfl, he36⟩ a33 hE34; clear hE30
   have hpu := partsOf_un hf (by first | (left; assumption) | (right; assumption))
   have hS35 := St.go hS1 he36; clear hS1
   have hv40 := (St.rdR (i := 0) hS35 rfl).2.1
   have hv37 : (0 : Int) ≤ 1 ∧ 1 ≤ (F_partEnd ap 1) ∧ (F_partEnd ap 1) ≤ (((ap).length / 2 : Nat) : Int) := ⟨(by omega), (by omega), (by omega)⟩
   have hv38 : Int.toNat (F_partEnd ap 1) - Int.toNat 1 = ((slI 2 ap 1 (F_partEnd ap 1)).length / 2 : Nat) := ((slI_lenD (by decide) (St.rdR (i := 0) hS35 rfl).1 hv37.2.2)).symm
   have hv39 : Int.toNat (F_partEnd ap 1) ≤ (Int.toNat (F_partEnd ap 1)) ∧ (Int.toNat (F_partEnd ap 1)) ≤ apC := ⟨by omega, by omega⟩
   refine l_step hE34 rfl (l_litN (e := 32) (s := 2) (rows := [(⟨subA apA (Int.toNat 1) (Int.toNat (F_partEnd ap 1)) 2, ((slI 2 ap 1 (F_partEnd ap 1)).length / 2 : Nat), (Int.toNat (F_partEnd ap 1)) - (Int.toNat 1)⟩, slI 2 ap 1 (F_partEnd ap 1))]) (hs := [⟨subA apA (Int.toNat 1) (Int.toNat (F_partEnd ap 1)) 2, ((slI 2 ap 1 (F_partEnd ap 1)).length / 2 : Nat), (Int.toNat (F_partEnd ap 1)) - (Int.toNat 1)⟩]) (xss := [slI 2 ap 1 (F_partEnd ap 1)]) (vs := [.slice (subA apA (Int.toNat 1) (Int.toNat (F_partEnd ap 1)) 2) ((slI 2 ap 1 (F_partEnd ap 1)).length / 2 : Nat) ((Int.toNat (F_partEnd ap 1)) - (Int.toNat 1))]) hS35 hE34 rfl rfl rfl rfl (fun _ => by kernel_rfl) ⟨⟨(RdS.sub (St.rdR (i := 0) hS35 rfl) (Int.toNat (F_partEnd ap 1)) hv37.1 hv37.2.1 hv37.2.2 hv39.1 hv39.2 hv38 rfl), (RoB.sub (St.robR (i := 0) hS35 rfl))⟩, trivial⟩ rfl rfl rfl ?_)
   intro b41 w42 hS45 he46 a43 hE44; clear hS35 hE34
   refine q_step (v := .slice (some ⟨b41, 0, none⟩) 1 1) hE44 (y_assign rfl) rfl rfl rfl ?_; intro a47 hE48; clear hE44
   refine c_nil ?_
   have hE49 := hE48.sub (L' := [(2, .slice (some ⟨b41, 0, none⟩) 1 1)]) ⟨rfl, trivial⟩; clear hE48
   refine p_tn ?_
   refine wp_ret ?_
   refine p_br ?_
   refine p_tr ?_
   have hF : F_parts ap = [slI 2 ap 1 (F_partEnd ap 1)] := by unfold F_parts; rw [ht26]; first | done | rfl
   refine c_ret1 hE49 rfl rfl ?_
   exact ⟨some ⟨b41, 0, none⟩, 1, (by rw [hF]; exact congrArg (fun q => Value.slice (some ⟨b41, 0, none⟩) q 1) (show 1 = ([slI 2 ap 1 (F_partEnd ap 1)]).length by first | rfl | simp)), (by rw [hF, show ((partRows apA apC ap).map (·.1)).map Hd.v = ([⟨subA apA (Int.toNat 1) (Int.toNat (F_partEnd ap 1)) 2, ((slI 2 ap 1 (F_partEnd ap 1)).length / 2 : Nat), (Int.toNat (F_partEnd ap 1)) - (Int.toNat 1)⟩]).map Hd.v from (by unfold partRows; rw [ht26]; first | done | rfl)]; first | exact St.nestV (i := 0) hS45 rfl | (dsimp only; exact St.nestV (i := 0) hS45 rfl)), hS45.ext⟩
  ·
   have hp50 := of_decide_eq_false ht26
   have hE51 := hE25; rw [ht26] at hE51; clear hE25
   refine c_seq ?_
   refine c_reg ?_
   refine q_step (v := .bool (decide ((F_partsOf (gS 2 0 ap 0)) = 2))) hE51 (y_eql rfl rfl) rfl rfl rfl ?_; intro a52 hE53; clear hE51
   refine q_step (v := .bool (decide ((F_partsOf (gS 2 0 ap 0)) = 2))) hE53 (y_assign rfl) rfl rfl rfl ?_; intro a54 hE55; clear hE53
   refine c_nil ?_
   have hE56 := hE55.sub (L' := [(0, .slice apA ((ap).length / 2 : Nat) apC), (13, .bool (decide ((F_partsOf (gS 2 0 ap 0)) = 2)))]) ⟨rfl, rfl, trivial⟩; clear hE55
   refine p_tn ?_
   refine c_cond hE56 rfl (fun ht57 => ?_) (fun ht57 => ?_)
   ·
    have hp58 := of_decide_eq_true ht57
    have hE59 := hE56; rw [ht57] at hE59; clear hE56
    refine c_seq ?_
    refine c_reg ?_
    refine q_step (v := .slice apA ((ap).length / 2 : Nat) apC) hE59 (y_move rfl) rfl rfl rfl ?_; intro a60 hE61; clear hE59
    refine l_step hE61 rfl (l_call (f := 197) (argv := [.slice apA ((ap).length / 2 : Nat) apC]) hE61 (fun _ => cf_first _ _) rfl rfl (c_first apA ((ap).length / 2 : Nat) apC ap w (St.rdR (i := 0) hS1 rfl) (by omega) (partsOf_un hf (by first | (left; assumption) | (right; assumption)))) ?_)
    rintro _ w63 ⟨rfl, he67⟩ a64 hE65; clear hE61
    have hpu := partsOf_un hf (by first | (left; assumption) | (right; assumption))
    have hS66 := St.go hS1 he67; clear hS1
    have hv71 := (St.rdR (i := 0) hS66 rfl).2.1
    have hv68 : (0 : Int) ≤ 1 ∧ 1 ≤ (F_partEnd ap 1) ∧ (F_partEnd ap 1) ≤ (((ap).length / 2 : Nat) : Int) := ⟨(by omega), (by omega), (by omega)⟩
    have hv69 : Int.toNat (F_partEnd ap 1) - Int.toNat 1 = ((slI 2 ap 1 (F_partEnd ap 1)).length / 2 : Nat) := ((slI_lenD (by decide) (St.rdR (i := 0) hS66 rfl).1 hv68.2.2)).symm
    have hv70 : Int.toNat (F_partEnd ap 1) ≤ (Int.toNat (F_partEnd ap 1)) ∧ (Int.toNat (F_partEnd ap 1)) ≤ apC := ⟨by omega, by omega⟩
    refine q_step (v := .slice apA ((ap).length / 2 : Nat) apC) hE65 (y_move rfl) rfl rfl rfl ?_; intro a72 hE73; clear hE65
    refine l_step hE73 rfl (l_call (f := 198) (argv := [.slice apA ((ap).length / 2 : Nat) apC]) hE73 (fun _ => cf_second _ _) rfl rfl (c_second apA ((ap).length / 2 : Nat) apC ap w63 (St.rdR (i := 0) hS66 rfl) (by omega) (hpb (by assumption)).1 (hpb (by assumption)).2) ?_)
    rintro _ w75 ⟨rfl, he79⟩ a76 hE77; clear hE73
    have hp2 := hpb (by assumption)
    have hS78 := St.go hS66 he79; clear hS66
    have hv83 := (St.rdR (i := 0) hS78 rfl).2.1
    have hv80 : (0 : Int) ≤ (F_partEnd ap 1) ∧ (F_partEnd ap 1) ≤ (F_partEnd ap (F_partEnd ap 1)) ∧ (F_partEnd ap (F_partEnd ap 1)) ≤ (((ap).length / 2 : Nat) : Int) := ⟨(by omega), (by omega), (by omega)⟩
    have hv81 : Int.toNat (F_partEnd ap (F_partEnd ap 1)) - Int.toNat (F_partEnd ap 1) = ((slI 2 ap (F_partEnd ap 1) (F_partEnd ap (F_partEnd ap 1))).length / 2 : Nat) := ((slI_lenD (by decide) (St.rdR (i := 0) hS78 rfl).1 hv80.2.2)).symm
    have hv82 : Int.toNat (F_partEnd ap (F_partEnd ap 1)) ≤ (Int.toNat (F_partEnd ap (F_partEnd ap 1))) ∧ (Int.toNat (F_partEnd ap (F_partEnd ap 1))) ≤ apC := ⟨by omega, by omega⟩
    refine l_step hE77 rfl (l_litN (e := 32) (s := 2) (rows := [(⟨subA apA (Int.toNat 1) (Int.toNat (F_partEnd ap 1)) 2, ((slI 2 ap 1 (F_partEnd ap 1)).length / 2 : Nat), (Int.toNat (F_partEnd ap 1)) - (Int.toNat 1)⟩, slI 2 ap 1 (F_partEnd ap 1)), (⟨subA apA (Int.toNat (F_partEnd ap 1)) (Int.toNat (F_partEnd ap (F_partEnd ap 1))) 2, ((slI 2 ap (F_partEnd ap 1) (F_partEnd ap (F_partEnd ap 1))).length / 2 : Nat), (Int.toNat (F_partEnd ap (F_partEnd ap 1))) - (Int.toNat (F_partEnd ap 1))⟩, slI 2 ap (F_partEnd ap 1) (F_partEnd ap (F_partEnd ap 1)))]) (hs := [⟨subA apA (Int.toNat 1) (Int.toNat (F_partEnd ap 1)) 2, ((slI 2 ap 1 (F_partEnd ap 1)).length / 2 : Nat), (Int.toNat (F_partEnd ap 1)) - (Int.toNat 1)⟩, ⟨subA apA (Int.toNat (F_partEnd ap 1)) (Int.toNat (F_partEnd ap (F_partEnd ap 1))) 2, ((slI 2 ap (F_partEnd ap 1) (F_partEnd ap (F_partEnd ap 1))).length / 2 : Nat), (Int.toNat (F_partEnd ap (F_partEnd ap 1))) - (Int.toNat (F_partEnd ap 1))⟩]) (xss := [slI 2 ap 1 (F_partEnd ap 1), slI 2 ap (F_partEnd ap 1) (F_partEnd ap (F_partEnd ap 1))]) (vs := [.slice (subA apA (Int.toNat 1) (Int.toNat (F_partEnd ap 1)) 2) ((slI 2 ap 1 (F_partEnd ap 1)).length / 2 : Nat) ((Int.toNat (F_partEnd ap 1)) - (Int.toNat 1)), .slice (subA apA (Int.toNat (F_partEnd ap 1)) (Int.toNat (F_partEnd ap (F_partEnd ap 1))) 2) ((slI 2 ap (F_partEnd ap 1) (F_partEnd ap (F_partEnd ap 1))).length / 2 : Nat) ((Int.toNat (F_partEnd ap (F_partEnd ap 1))) - (Int.toNat (F_partEnd ap 1)))]) hS78 hE77 rfl rfl rfl rfl (fun _ => by kernel_rfl) ⟨⟨(RdS.sub (St.rdR (i := 0) hS78 rfl) (Int.toNat (F_partEnd ap 1)) hv68.1 hv68.2.1 hv68.2.2 hv70.1 hv70.2 hv69 rfl), (RoB.sub (St.robR (i := 0) hS78 rfl))⟩, ⟨(RdS.sub (St.rdR (i := 0) hS78 rfl) (Int.toNat (F_partEnd ap (F_partEnd ap 1))) hv80.1 hv80.2.1 hv80.2.2 hv82.1 hv82.2 hv81 rfl), (RoB.sub (St.robR (i := 0) hS78 rfl))⟩, trivial⟩ rfl rfl rfl ?_)
    intro b84 w85 hS88 he89 a86 hE87; clear hS78 hE77
    refine q_step (v := .slice (some ⟨b84, 0, none⟩) 2 2) hE87 (y_assign rfl) rfl rfl rfl ?_; intro a90 hE91; clear hE87
    refine c_nil ?_
    have hE92 := hE91.sub (L' := [(2, .slice (some ⟨b84, 0, none⟩) 2 2)]) ⟨rfl, trivial⟩; clear hE91
    refine p_tn ?_
    refine wp_ret ?_
    refine p_br ?_
    refine p_tr ?_
    have hF : F_parts ap = [slI 2 ap 1 (F_partEnd ap 1), slI 2 ap (F_partEnd ap 1) (F_partEnd ap (F_partEnd ap 1))] := by unfold F_parts; rw [ht57, ht26]; first | done | rfl
    refine c_ret1 hE92 rfl rfl ?_
    exact ⟨some ⟨b84, 0, none⟩, 2, (by rw [hF]; exact congrArg (fun q => Value.slice (some ⟨b84, 0, none⟩) q 2) (show 2 = ([slI 2 ap 1 (F_partEnd ap 1), slI 2 ap (F_partEnd ap 1) (F_partEnd ap (F_partEnd ap 1))]).length by first | rfl | simp)), (by rw [hF, show ((partRows apA apC ap).map (·.1)).map Hd.v = ([⟨subA apA (Int.toNat 1) (Int.toNat (F_partEnd ap 1)) 2, ((slI 2 ap 1 (F_partEnd ap 1)).length / 2 : Nat), (Int.toNat (F_partEnd ap 1)) - (Int.toNat 1)⟩, ⟨subA apA (Int.toNat (F_partEnd ap 1)) (Int.toNat (F_partEnd ap (F_partEnd ap 1))) 2, ((slI 2 ap (F_partEnd ap 1) (F_partEnd ap (F_partEnd ap 1))).length / 2 : Nat), (Int.toNat (F_partEnd ap (F_partEnd ap 1))) - (Int.toNat (F_partEnd ap 1))⟩]).map Hd.v from (by unfold partRows; rw [ht57, ht26]; first | done | rfl)]; first | exact St.nestV (i := 0) hS88 rfl | (dsimp only; exact St.nestV (i := 0) hS88 rfl)), hS88.ext⟩
   ·
    have hp93 := of_decide_eq_false ht57
    have hE94 := hE56; rw [ht57] at hE94; clear hE56
    refine wp_skip ?_
    refine p_bn ?_
    refine p_tn ?_
    refine c_seq ?_
    refine c_reg ?_
    refine q_step (v := .slice none 0 0) hE94 (y_assign rfl) rfl rfl rfl ?_; intro a95 hE96; clear hE94
    refine c_nil ?_
    have hE97 := hE96.sub (L' := [(2, .slice none 0 0)]) ⟨rfl, trivial⟩; clear hE96
    refine p_tn ?_
    refine wp_ret ?_
    have hF : F_parts ap = [] := by unfold F_parts; rw [ht57, ht26]; first | done | rfl
    refine c_ret1 hE97 rfl rfl ?_
    exact ⟨none, 0, (by rw [hF]; first | done | (dsimp only; done) | rfl), (by rw [hF, show ((partRows apA apC ap).map (·.1)).map Hd.v = [] from (by unfold partRows; rw [ht57, ht26]; first | done | rfl)]; exact OwnV.nilV _ _ _), hS1.ext⟩
theorem partRows_xs (a : Option Addr) (c : Nat) (ap : List Int) : (partRows a c ap).map (·.2) = F_parts ap := by
  unfold partRows F_parts
  cases decide (F_partsOf (gS 2 0 ap 0) = 1) <;> cases decide (F_partsOf (gS 2 0 ap 0) = 2) <;> rfl
theorem partRows_ok {w : World} {Γ : List Ent} {a : Option Addr} {n c : Nat} {ap : List Int} (h : RdS w 2 a n c ap) (hr : RoB Γ a ap) (hf : IsFm ap) : RowsOk w Γ 2 (partRows a c ap) := by
  have hn := h.lenD (by decide)
  have hc := h.2.1
  have hl := h.1
  unfold partRows
  by_cases h1 : F_partsOf (gS 2 0 ap 0) = 1
  · rw [decide_eq_true h1, cond_true]
    have e := partsOf_un hf (.inl h1)
    exact ⟨⟨RdS.sub h (Int.toNat (F_partEnd ap 1)) (by omega) e.1 (by omega) (Nat.le_refl _) (by omega) (slI_lenD (by decide) hl (by omega)).symm rfl, RoB.sub hr⟩, trivial⟩
  · rw [decide_eq_false h1, cond_false]
    by_cases h2 : F_partsOf (gS 2 0 ap 0) = 2
    · rw [decide_eq_true h2, cond_true]
      have e := partsOf_bin hf h2
      exact ⟨⟨RdS.sub h (Int.toNat (F_partEnd ap 1)) (by omega) e.1.1 (by omega) (Nat.le_refl _) (by omega) (slI_lenD (by decide) hl (by omega)).symm rfl, RoB.sub hr⟩,
        ⟨RdS.sub h (Int.toNat (F_partEnd ap (F_partEnd ap 1))) (by omega) e.2.1 (by omega) (Nat.le_refl _) (by omega) (slI_lenD (by decide) hl (by omega)).symm rfl, RoB.sub hr⟩, trivial⟩
    · rw [decide_eq_false h2, cond_false]
      exact trivial
end Go.Proofs.Ytkilkfhjfobcdaa
