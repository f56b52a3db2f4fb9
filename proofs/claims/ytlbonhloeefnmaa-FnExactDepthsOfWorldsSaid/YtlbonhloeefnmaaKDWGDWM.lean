/- GDWM: models and contracts, printed by wip/gen/gen.py -/
import Derived.Test.YtlbonhloeefnmaaKDWGDWS
import Derived.Test.YtlbonhloeefnmaaKDWGDWI
set_option linter.unusedVariables false
set_option linter.unusedSimpArgs false
namespace Go.Proofs.Ytlbonhloeefnmaa
open Go.RowKit
def Low (f0 : Int) (f1 : List Int) (o : List Int) : Prop := (o.length : Int) = f0 ∧ ∀ z : Nat, (z : Int) < f0 → 1 ≤ gI o (z : Int) ∧ gI o (z : Int) ≤ dpt f0 f1 z
theorem wd_visit {f0 : Int} {f1 : List Int} (h : FrP f0 f1) {x : Nat} (hx : (x : Int) < f0) {o : List Int} (ho : Low f0 f1 o) {j : Nat} (hj : (j : Int) < f0) : Low f0 f1 (wdG f0 f1 x o j) ∧ (∀ z : Nat, (z : Int) < f0 → gI o (z : Int) ≤ gI (wdG f0 f1 x o j) (z : Int)) ∧ (edg f0 f1 x j = true → gI o (j : Int) + 1 ≤ gI (wdG f0 f1 x o j) (x : Int)) := by
  unfold wdG
  cases he : edg f0 f1 x j
  · rw [cond_false]; exact ⟨ho, fun z _ => Int.le_refl _, fun hh => by cases hh⟩
  · rw [cond_true]
    have hl := ho.1
    have hb := (dpt_props h hx).2.1 j hj he
    have h1 := ho.2 x hx
    have h2 := ho.2 j hj
    have hg : ∀ z : Nat, gI (sI o (x : Int) (max (gI o (x : Int)) (gI o (j : Int) + 1))) (z : Int) = if x = z then max (gI o (x : Int)) (gI o (j : Int) + 1) else gI o (z : Int) := fun z => gI_sI' (by omega) z
    refine ⟨⟨by rw [sI_len]; exact hl, fun z hz => ?_⟩, fun z hz => ?_, fun _ => ?_⟩
    · have h3 := ho.2 z hz
      rw [hg]
      by_cases e : x = z
      · subst e; rw [if_pos rfl]; omega
      · rw [if_neg e]; exact h3
    · rw [hg]
      by_cases e : x = z
      · subst e; rw [if_pos rfl]; omega
      · rw [if_neg e]; omega
    · rw [hg, if_pos rfl]; omega
theorem wd_world {f0 : Int} {f1 : List Int} (h : FrP f0 f1) {x : Nat} (hx : (x : Int) < f0) : ∀ (l : List Nat) (o : List Int), (∀ j ∈ l, (j : Int) < f0) → Low f0 f1 o → Low f0 f1 (l.foldl (wdG f0 f1 x) o) ∧ (∀ z : Nat, (z : Int) < f0 → gI o (z : Int) ≤ gI (l.foldl (wdG f0 f1 x) o) (z : Int)) ∧ ∀ j ∈ l, edg f0 f1 x j = true → gI o (j : Int) + 1 ≤ gI (l.foldl (wdG f0 f1 x) o) (x : Int) := by
  intro l
  induction l with
  | nil => intro o _ ho; exact ⟨ho, fun z _ => Int.le_refl _, fun j hj => absurd hj (by simp)⟩
  | cons a l ih =>
    intro o hl ho
    rw [List.foldl_cons]
    obtain ⟨v1, v2, v3⟩ := wd_visit h hx ho (hl a (by simp))
    obtain ⟨a1, a2, a3⟩ := ih (wdG f0 f1 x o a) (fun j hj => hl j (by simp [hj])) v1
    refine ⟨a1, fun z hz => ?_, fun j hj he => ?_⟩
    · have := v2 z hz; have := a2 z hz; omega
    · rcases List.mem_cons.1 hj with rfl | hj'
      · have := v3 he; have := a2 x hx; omega
      · have := v2 j (hl j (by simp [hj'])); have := a3 j hj' he; omega
theorem wd_round {f0 : Int} {f1 : List Int} (h : FrP f0 f1) : ∀ (l : List Nat) (o : List Int), (∀ j ∈ l, (j : Int) < f0) → Low f0 f1 o → Low f0 f1 (l.foldl (fun o x => (List.range f0.toNat).foldl (wdG f0 f1 x) o) o) ∧ (∀ z : Nat, (z : Int) < f0 → gI o (z : Int) ≤ gI (l.foldl (fun o x => (List.range f0.toNat).foldl (wdG f0 f1 x) o) o) (z : Int)) ∧ ∀ x ∈ l, ∀ j : Nat, (j : Int) < f0 → edg f0 f1 x j = true → gI o (j : Int) + 1 ≤ gI (l.foldl (fun o x => (List.range f0.toNat).foldl (wdG f0 f1 x) o) o) (x : Int) := by
  intro l
  have h8 := h.h0
  induction l with
  | nil => intro o _ ho; exact ⟨ho, fun z _ => Int.le_refl _, fun j hj => absurd hj (by simp)⟩
  | cons a l ih =>
    intro o hl ho
    rw [List.foldl_cons]
    have ha := hl a (by simp)
    obtain ⟨v1, v2, v3⟩ := wd_world h ha (List.range f0.toNat) o (fun j hj => by have := List.mem_range.1 hj; omega) ho
    obtain ⟨a1, a2, a3⟩ := ih ((List.range f0.toNat).foldl (wdG f0 f1 a) o) (fun j hj => hl j (by simp [hj])) v1
    refine ⟨a1, fun z hz => ?_, fun x hx j hj he => ?_⟩
    · have := v2 z hz; have := a2 z hz; omega
    · rcases List.mem_cons.1 hx with rfl | hx'
      · have := v3 j (List.mem_range.2 (by omega)) he; have := a2 x ha; omega
      · have := v2 j hj; have := a3 x hx' j hj he; omega
theorem wd_rounds {f0 : Int} {f1 : List Int} (h : FrP f0 f1) (k : Nat) : ∀ (l : List Nat) (o : List Int), Low f0 f1 o → (∀ z : Nat, (z : Int) < f0 → dpt f0 f1 z ≤ (k : Int) + 1 → gI o (z : Int) = dpt f0 f1 z) →
    Low f0 f1 (l.foldl (fun o _ => (List.range f0.toNat).foldl (fun o x => (List.range f0.toNat).foldl (wdG f0 f1 x) o) o) o) ∧ ∀ z : Nat, (z : Int) < f0 → dpt f0 f1 z ≤ ((k + l.length : Nat) : Int) + 1 → gI (l.foldl (fun o _ => (List.range f0.toNat).foldl (fun o x => (List.range f0.toNat).foldl (wdG f0 f1 x) o) o) o) (z : Int) = dpt f0 f1 z := by
  intro l
  have h8 := h.h0
  induction l generalizing k with
  | nil => intro o ho hk; exact ⟨ho, hk⟩
  | cons a l ih =>
    intro o ho hk
    rw [List.foldl_cons]
    obtain ⟨v1, v2, v3⟩ := wd_round h (List.range f0.toNat) o (fun j hj => by have := List.mem_range.1 hj; omega) ho
    obtain ⟨a1, a2⟩ := ih (k + 1) _ v1 (fun z hz hd => by
      have hb := v1.2 z hz
      obtain ⟨p1, p2, p3⟩ := dpt_props h hz
      rcases p3 with p3 | ⟨v, q1, q2, q3⟩
      · omega
      · have e1 := hk v q1 (by omega)
        have e2 := v3 z (List.mem_range.2 (by omega)) v q1 q2
        omega)
    refine ⟨a1, fun z hz hd => a2 z hz ?_⟩
    rw [List.length_cons] at hd
    omega
theorem worldDepths_map {f0 : Int} {f1 : List Int} (hi : F_l05Is f0 f1 = true) : F_Frame_worldDepths f0 f1 = (List.range f0.toNat).map (dpt f0 f1) := by
  have h := FrP.of hi
  have h8 := h.h0
  unfold F_Frame_worldDepths
  rw [repeat_one f0 (by omega) (by omega), rangeLoopR0 f0 (by omega) (fun o _ => (F_Frame_worldDepths_L2 f0 f1 (Int.toNat (f0 - 0) + 1) 0 o).2) (F_Frame_worldDepths_L1 f0 f1) (fun r t o => by
    show F_Frame_worldDepths_L1b f0 f1 _ t o = _
    unfold F_Frame_worldDepths_L1b; rfl)]
  have e : ∀ o : List Int, (F_Frame_worldDepths_L2 f0 f1 (Int.toNat (f0 - 0) + 1) 0 o).2 = (List.range f0.toNat).foldl (fun o x => (List.range f0.toNat).foldl (wdG f0 f1 x) o) o := fun o => by
    rw [rangeLoopR0 f0 (by omega) (fun o x => (F_Frame_worldDepths_L3 f0 f1 x (Int.toNat (((F_membersOf (gI (F_Frame_reachable f0 f1) x)).length : Int) - 0) + 1) 0 o).2) (F_Frame_worldDepths_L2 f0 f1) (fun r t o => by
      show F_Frame_worldDepths_L2b f0 f1 _ t o = _
      unfold F_Frame_worldDepths_L2b; rfl)]
    exact foldl_cg _ _ fun j hj o => wd_L3 hi (by have := List.mem_range.1 hj; omega) o
  simp only [e]
  have hr : ∀ z : Nat, (z : Int) < f0 → gI (List.replicate f0.toNat 1) (z : Int) = 1 := fun z hz => by
    unfold gI gi
    rw [List.getD_eq_getElem?_getD, Int.toNat_natCast, List.getElem?_replicate, if_pos (by omega)]; rfl
  have hl0 : Low f0 f1 (List.replicate f0.toNat 1) := ⟨by rw [List.length_replicate]; omega, fun z hz => by
    rw [hr z hz]
    have := (dpt_props h hz).1
    omega⟩
  obtain ⟨a1, a2⟩ := wd_rounds h 0 (List.range f0.toNat) (List.replicate f0.toNat 1) hl0 (fun z hz hd => by
    rw [hr z hz]
    have := (dpt_props h hz).1
    omega)
  have hlen := a1.1
  refine ext_gi (by rw [List.length_map, List.length_range]; omega) fun j hj => ?_
  have hj' : (j : Int) < f0 := by omega
  have h1 := a2 j hj' (by
    have := (dpt_props h hj').1
    rw [List.length_range]; omega)
  have h2 : gI ((List.range f0.toNat).map (dpt f0 f1)) (j : Int) = dpt f0 f1 j := gI_map (by omega)
  unfold gI at h1 h2
  rw [Int.toNat_natCast] at h1 h2
  rw [h1, h2]
theorem DepthsOfWorlds_len (f0 : Int) (f1 : List Int) : (F_DepthsOfWorlds f0 f1).1.length ≤ 8 := by
  unfold F_DepthsOfWorlds
  rw [isFrame_eq]
  cases hi : F_l05Is f0 f1
  · simp
  · have h8 := (l05Is_t hi).1
    show (F_Frame_worldDepths f0 f1).length ≤ 8
    rw [worldDepths_map hi, List.length_map, List.length_range]; omega
theorem DepthsOfWorlds_eq (f0 : Int) (f1 : List Int) : F_DepthsOfWorlds f0 f1 = F_s_DepthsOfWorlds f0 f1 := by
  unfold F_DepthsOfWorlds F_s_DepthsOfWorlds
  rw [isFrame_eq]
  cases hi : F_l05Is f0 f1
  · rfl
  · rw [worldDepths_map hi, l05Depths_map f0 f1 (l05Is_t hi).1.1]
end Go.Proofs.Ytlbonhloeefnmaa
