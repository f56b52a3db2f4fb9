/- GLB: models and contracts, printed by wip/gen/gen.py -/
import Derived.Test.YtlbonhloeefnmaaKCNGL
set_option linter.unusedVariables false
set_option linter.unusedSimpArgs false
namespace Go.Proofs.Ytlbonhloeefnmaa
open Go.RowKit
theorem isMap_iff (f0 : Int) (f1 : List Int) (g0 : Int) (g1 images : List Int) : F_isMap f0 f1 g0 g1 images = true ↔ (images.length : Int) = f0 ∧ ∀ x, x ∈ images → F_Frame_hasWorld g0 g1 x = true := by
  unfold F_isMap
  rw [contains_eq, Bool.and_eq_true, decide_eq_true_iff]
  refine and_congr_right fun _ => ?_
  rw [Bool.not_eq_true', List.any_eq_false]
  refine ⟨fun h x hx => ?_, fun h x hx => ?_⟩
  · have := h x hx
    unfold F_isMap_k1 at this
    cases e : F_Frame_hasWorld g0 g1 x
    · rw [e] at this; exact absurd rfl this
    · rfl
  · unfold F_isMap_k1
    rw [h x hx]; decide
theorem mapCode_t {f0 : Int} {f1 : List Int} {g0 : Int} {g1 images : List Int} (h : F_mapCode f0 f1 g0 g1 images = 0) : ((0 ≤ f0 ∧ f0 ≤ 8) ∧ (f1.length : Int) = f0) ∧ ((0 ≤ g0 ∧ g0 ≤ 8) ∧ (g1.length : Int) = g0) ∧ F_l05Is f0 f1 = true ∧ F_l05Is g0 g1 = true ∧ (images.length : Int) = f0 ∧ ∀ m : Int, 0 ≤ m → m < (images.length : Int) → 0 ≤ gI images m ∧ gI images m < g0 := by
  unfold F_mapCode at h
  rw [isFrame_eq, isFrame_eq] at h
  cases h1 : ((!(F_l05Is f0 f1)) || ((!(F_l05Is g0 g1)) || (!(F_isMap f0 f1 g0 g1 images))))
  · obtain ⟨a1, a2⟩ := bor_f h1
    obtain ⟨a3, a4⟩ := bor_f a2
    have h5 := (isMap_iff _ _ _ _ _).1 (bn_f a4)
    refine ⟨l05Is_t (bn_f a1), l05Is_t (bn_f a3), bn_f a1, bn_f a3, h5.1, fun m h0 hm => ?_⟩
    have hmem : gI images m ∈ images := by
      unfold gI; rw [gi_get (by omega)]; exact List.getElem_mem _
    have := h5.2 _ hmem
    unfold F_Frame_hasWorld at this
    have := F_inRange_t this
    omega
  · rw [h1, cond_true] at h; cases h
theorem mapCode_of {f0 : Int} {f1 : List Int} {g0 : Int} {g1 images : List Int} (hf : F_l05Is f0 f1 = true) (hg : F_l05Is g0 g1 = true) (hl : (images.length : Int) = f0) (hx : ∀ m : Int, 0 ≤ m → m < (images.length : Int) → 0 ≤ gI images m ∧ gI images m < g0) : F_mapCode f0 f1 g0 g1 images = 0 := by
  unfold F_mapCode
  have hm : F_isMap f0 f1 g0 g1 images = true := by
    rw [isMap_iff]
    refine ⟨hl, fun x hxm => ?_⟩
    obtain ⟨k, hk, rfl⟩ := List.getElem_of_mem hxm
    have := hx (k : Int) (by omega) (by omega)
    have e : gI images (k : Int) = images[k] := by unfold gI; rw [Int.toNat_natCast]; exact gi_get hk
    rw [e] at this
    unfold F_Frame_hasWorld F_inRange
    rw [decide_eq_true this.1, decide_eq_true (by omega)]; rfl
  rw [isFrame_eq, isFrame_eq, hf, hg, hm]; rfl
def F_IsMorphism (f0 : Int) (f1 : List Int) (g0 : Int) (g1 : List Int) (images : List Int) : (Bool) × (Int) :=
  bif (!decide ((F_mapCode f0 f1 g0 g1 images) = 0)) then (false, F_mapCode f0 f1 g0 g1 images) else (F_isMorphism f0 f1 g0 g1 images, 0)
theorem cf_IsMorphism (args : Array Value) (w : World) : (callFunc 56 args).run Try.prog w = .ok (.enter 56 args) w := by kernel_rfl
set_option maxRecDepth 100000 in
theorem c_IsMorphism (f0 : Int) (f1A : Option Addr) (f1N f1C : Nat) (f1 : List Int) (g0 : Int) (g1A : Option Addr) (g1N g1C : Nat) (g1 : List Int) (imagesA : Option Addr) (imagesN imagesC : Nat) (images : List Int) (w : World) (f1R : RdS w 1 f1A f1N f1C f1) (g1R : RdS w 1 g1A g1N g1C g1) (imagesR : RdS w 1 imagesA imagesN imagesC images) :
    Calls Try.prog 56 #[.agg #[.int .i64 f0, .slice f1A f1N f1C], .agg #[.int .i64 g0, .slice g1A g1N g1C], .slice imagesA imagesN imagesC] w (Ret fun v w' => v = .tuple #[.bool ((F_IsMorphism f0 f1 g0 g1 images).1), .int .i64 ((F_IsMorphism f0 f1 g0 g1 images).2)] ∧ Ext w w') := by
  obtain rfl : f1N = f1.length := f1R.len1.symm
  have f1Le := f1R.le
  obtain rfl : g1N = g1.length := g1R.len1.symm
  have g1Le := g1R.le
  obtain rfl : imagesN = images.length := imagesR.len1.symm
  have imagesLe := imagesR.le
  have hS := St.nil w
  have hS1 := St.rd0 hS rfl f1R; clear hS
  have hS2 := St.rd0 hS1 rfl g1R; clear hS1
  have hS3 := St.rd0 hS2 rfl imagesR; clear hS2
  refine enter (args := [.agg #[.int .i64 f0, .slice f1A f1.length f1C], .agg #[.int .i64 g0, .slice g1A g1.length g1C], .slice imagesA images.length imagesC]) Try.func56 rfl rfl ?_
  rw [Try.ntmps56]; intro a hE
  have hE := hE.sub (L' := [(0, .agg #[.int .i64 f0, .slice f1A f1.length f1C]), (1, .agg #[.int .i64 g0, .slice g1A g1.length g1C]), (2, .slice imagesA images.length imagesC)]) ⟨rfl, rfl, rfl, trivial⟩
  refine c_seq ?_
  refine c_reg ?_
  refine l_step hE rfl (l_box (v := .agg #[.int .i64 f0, .slice f1A f1.length f1C]) (cs := #[.int .i64 f0, .slice f1A f1.length f1C]) hS3 hE rfl rfl rfl ?_)
  intro b4 w5 hS8 he9 a6 hE7; clear hS3 hE
  refine l_step hE7 rfl (l_box (v := .agg #[.int .i64 g0, .slice g1A g1.length g1C]) (cs := #[.int .i64 g0, .slice g1A g1.length g1C]) hS8 hE7 rfl rfl rfl ?_)
  intro b10 w11 hS14 he15 a12 hE13; clear hS8 hE7
  refine q_step (v := .bool false) hE13 (y_assign rfl) rfl rfl rfl ?_; intro a16 hE17; clear hE13
  refine q_step (v := .int .i64 0) hE17 (y_assign rfl) rfl rfl rfl ?_; intro a18 hE19; clear hE17
  refine c_nil ?_
  have hE20 := hE19.sub (L' := [(2, .slice imagesA images.length imagesC), (3, .pointer (some ⟨b4, 0, none⟩)), (4, .pointer (some ⟨b10, 0, none⟩))]) ⟨rfl, rfl, rfl, trivial⟩; clear hE19
  refine p_tn ?_
  refine c_seq ?_
  refine c_seq ?_
  refine c_reg ?_
  refine q_step (v := .agg #[.int .i64 f0, .slice f1A f1.length f1C]) hE20 (y_loadS Try.underlying30 rfl (by kernel_rfl) rfl (St.row (i := 1) hS14 rfl)) rfl rfl rfl ?_; intro a21 hE22; clear hE20
  refine q_step (v := .agg #[.int .i64 g0, .slice g1A g1.length g1C]) hE22 (y_loadS Try.underlying30 rfl (by kernel_rfl) rfl (St.row (i := 0) hS14 rfl)) rfl rfl rfl ?_; intro a23 hE24; clear hE22
  refine q_step (v := .slice imagesA images.length imagesC) hE24 (y_move rfl) rfl rfl rfl ?_; intro a25 hE26; clear hE24
  refine l_step hE26 rfl (l_call (f := 115) (argv := [.agg #[.int .i64 f0, .slice f1A f1.length f1C], .agg #[.int .i64 g0, .slice g1A g1.length g1C], .slice imagesA images.length imagesC]) hE26 (fun _ => cf_mapCode _ _) rfl rfl (c_mapCode f0 f1A f1.length f1C f1 g0 g1A g1.length g1C g1 imagesA images.length imagesC images w11 (St.rdR (i := 4) hS14 rfl) (St.rdR (i := 3) hS14 rfl) (St.rdR (i := 2) hS14 rfl)) ?_)
  rintro _ w28 ⟨rfl, he32⟩ a29 hE30; clear hE26
  have hS31 := St.go hS14 he32; clear hS14
  refine q_step (v := .int .i64 (F_mapCode f0 f1 g0 g1 images)) hE30 (y_assign rfl) rfl rfl rfl ?_; intro a33 hE34; clear hE30
  refine c_nil ?_
  have hE35 := hE34.sub (L' := [(2, .slice imagesA images.length imagesC), (3, .pointer (some ⟨b4, 0, none⟩)), (4, .pointer (some ⟨b10, 0, none⟩)), (8, .int .i64 (F_mapCode f0 f1 g0 g1 images))]) ⟨rfl, rfl, rfl, rfl, trivial⟩; clear hE34
  refine p_tn ?_
  refine c_seq ?_
  refine c_reg ?_
  refine q_step (v := .int .i64 (F_mapCode f0 f1 g0 g1 images)) hE35 (y_move rfl) rfl rfl rfl ?_; intro a36 hE37; clear hE35
  refine q_step (v := .bool (!decide ((F_mapCode f0 f1 g0 g1 images) = 0))) hE37 (y_neq rfl rfl) rfl rfl rfl ?_; intro a38 hE39; clear hE37
  refine c_nil ?_
  have hE40 := hE39.sub (L' := [(2, .slice imagesA images.length imagesC), (3, .pointer (some ⟨b4, 0, none⟩)), (4, .pointer (some ⟨b10, 0, none⟩)), (8, .int .i64 (F_mapCode f0 f1 g0 g1 images)), (14, .bool (!decide ((F_mapCode f0 f1 g0 g1 images) = 0)))]) ⟨rfl, rfl, rfl, rfl, rfl, trivial⟩; clear hE39
  refine p_tn ?_
  refine c_cond hE40 rfl (fun ht41 => ?_) (fun ht41 => ?_)
  ·
   have ht42 := bn_t ht41
   have hp43 := of_decide_eq_false ht42
   have hE44 := hE40; rw [ht41] at hE44; clear hE40
   refine c_seq ?_
   refine c_reg ?_
   refine q_step (v := .int .i64 (F_mapCode f0 f1 g0 g1 images)) hE44 (y_move rfl) rfl rfl rfl ?_; intro a45 hE46; clear hE44
   refine q_step (v := .bool false) hE46 (y_assign rfl) rfl rfl rfl ?_; intro a47 hE48; clear hE46
   refine q_step (v := .int .i64 (F_mapCode f0 f1 g0 g1 images)) hE48 (y_assign rfl) rfl rfl rfl ?_; intro a49 hE50; clear hE48
   refine c_nil ?_
   have hE51 := hE50.sub (L' := [(6, .bool false), (7, .int .i64 (F_mapCode f0 f1 g0 g1 images))]) ⟨rfl, rfl, trivial⟩; clear hE50
   refine p_tn ?_
   refine wp_ret ?_
   refine p_tr ?_
   have hF : F_IsMorphism f0 f1 g0 g1 images = (false, F_mapCode f0 f1 g0 g1 images) := by unfold F_IsMorphism; rw [ht41]; first | done | rfl
   refine c_ret2 hE51 rfl rfl rfl ?_
   exact ⟨(by rw [hF]; first | done | (dsimp only; done) | rfl), hS31.ext⟩
  ·
   have ht52 := bn_f ht41
   have hp53 := of_decide_eq_true ht52
   have hq54 := mapCode_t hp53
   have hE55 := hE40; rw [ht41] at hE55; clear hE40
   refine wp_skip ?_
   refine p_tn ?_
   refine c_seq ?_
   refine c_reg ?_
   refine q_step (v := .agg #[.int .i64 f0, .slice f1A f1.length f1C]) hE55 (y_loadS Try.underlying30 rfl (by kernel_rfl) rfl (St.row (i := 1) hS31 rfl)) rfl rfl rfl ?_; intro a56 hE57; clear hE55
   refine q_step (v := .agg #[.int .i64 g0, .slice g1A g1.length g1C]) hE57 (y_loadS Try.underlying30 rfl (by kernel_rfl) rfl (St.row (i := 0) hS31 rfl)) rfl rfl rfl ?_; intro a58 hE59; clear hE57
   refine q_step (v := .slice imagesA images.length imagesC) hE59 (y_move rfl) rfl rfl rfl ?_; intro a60 hE61; clear hE59
   refine l_step hE61 rfl (l_call (f := 116) (argv := [.agg #[.int .i64 f0, .slice f1A f1.length f1C], .agg #[.int .i64 g0, .slice g1A g1.length g1C], .slice imagesA images.length imagesC]) hE61 (fun _ => cf_isMorphism _ _) rfl rfl (c_isMorphism f0 f1A f1.length f1C f1 g0 g1A g1.length g1C g1 imagesA images.length imagesC images w28 (St.rdR (i := 4) hS31 rfl) (St.rdR (i := 3) hS31 rfl) (St.rdR (i := 2) hS31 rfl) (by omega) (by omega) (by omega) (by omega) (by omega) (by omega) ((mapCode_t (by assumption)).2.2.2.2.2) (l05Is_m (mapCode_t (by assumption)).2.2.1)) ?_)
   rintro _ w63 ⟨rfl, he67⟩ a64 hE65; clear hE61
   have hS66 := St.go hS31 he67; clear hS31
   refine q_step (v := .bool (F_isMorphism f0 f1 g0 g1 images)) hE65 (y_assign rfl) rfl rfl rfl ?_; intro a68 hE69; clear hE65
   refine q_step (v := .int .i64 0) hE69 (y_assign rfl) rfl rfl rfl ?_; intro a70 hE71; clear hE69
   refine c_nil ?_
   have hE72 := hE71.sub (L' := [(6, .bool (F_isMorphism f0 f1 g0 g1 images)), (7, .int .i64 0)]) ⟨rfl, rfl, trivial⟩; clear hE71
   refine p_tn ?_
   refine wp_ret ?_
   have hF : F_IsMorphism f0 f1 g0 g1 images = (F_isMorphism f0 f1 g0 g1 images, 0) := by unfold F_IsMorphism; rw [ht41]; first | done | rfl
   refine c_ret2 hE72 rfl rfl rfl ?_
   exact ⟨(by rw [hF]; first | done | (dsimp only; done) | rfl), hS66.ext⟩
end Go.Proofs.Ytlbonhloeefnmaa
