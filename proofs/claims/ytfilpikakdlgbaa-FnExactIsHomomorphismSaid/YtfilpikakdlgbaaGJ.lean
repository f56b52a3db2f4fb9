/- GJ: models and contracts, printed by wip/gen/gen.py -/
import Derived.Test.YtfilpikakdlgbaaGE
set_option linter.unusedVariables false
set_option linter.unusedSimpArgs false
namespace Go.Proofs.Ytfilpikakdlgbaa
open Go.RowKit

def F_ModalAlgebra_areElements_k1 (xp : Int) (cap00 : Int) (cap01 : List Int) : Bool :=
  (!(F_ModalAlgebra_isElement cap00 cap01 xp))
theorem cf_ModalAlgebra_areElements_k1 (args : Array Value) (w : World) : (callFunc 119 args).run Try.prog w = .ok (.enter 119 args) w := by kernel_rfl
set_option maxRecDepth 100000 in
theorem c_ModalAlgebra_areElements_k1 (xp : Int) (cap0B : Nat) (cap00 : Int) (cap01A : Option Addr) (cap01N cap01C : Nat) (cap01 : List Int) (w : World) (cap01R : RdS w 1 cap01A cap01N cap01C cap01) (cap0H : w.heap[cap0B]? = some (.cells #[.int .i64 cap00, .slice cap01A cap01N cap01C] 43 (0, 0))) (h0 : 0 ≤ cap00) (h1 : cap00 ≤ 30) :
    Calls Try.prog 119 #[.int .i64 xp, .pointer (some ⟨cap0B, 0, none⟩)] w (Ret fun v w' => v = .bool (F_ModalAlgebra_areElements_k1 xp cap00 cap01) ∧ Ext w w') := by
  obtain rfl : cap01N = cap01.length := cap01R.len1.symm
  have cap01Le := cap01R.le
  have hS := St.nil w
  have hS1 := St.rd0 hS rfl cap01R; clear hS
  have hS2 := St.rb0 hS1 rfl cap0H; clear hS1
  refine enter (args := [.int .i64 xp, .pointer (some ⟨cap0B, 0, none⟩)]) Try.func119 rfl rfl ?_
  rw [Try.ntmps119]; intro a hE
  have hE := hE.sub (L' := [(0, .int .i64 xp), (1, .pointer (some ⟨cap0B, 0, none⟩))]) ⟨rfl, rfl, trivial⟩
  refine c_seq ?_
  refine c_reg ?_
  refine q_step (v := .bool false) hE (y_assign rfl) rfl rfl rfl ?_; intro a3 hE4; clear hE
  refine c_nil ?_
  have hE5 := hE4.sub (L' := [(0, .int .i64 xp), (1, .pointer (some ⟨cap0B, 0, none⟩))]) ⟨rfl, rfl, trivial⟩; clear hE4
  refine p_tn ?_
  refine c_seq ?_
  refine c_reg ?_
  refine q_step (v := .agg #[.int .i64 cap00, .slice cap01A cap01.length cap01C]) hE5 (y_loadS Try.underlying43 rfl (by kernel_rfl) rfl (St.rowR (i := 0) hS2 rfl)) rfl rfl rfl ?_; intro a6 hE7; clear hE5
  refine q_step (v := .int .i64 xp) hE7 (y_move rfl) rfl rfl rfl ?_; intro a8 hE9; clear hE7
  refine l_step hE9 rfl (l_call (f := 118) (argv := [.agg #[.int .i64 cap00, .slice cap01A cap01.length cap01C], .int .i64 xp]) hE9 (fun _ => cf_ModalAlgebra_isElement _ _) rfl rfl (c_ModalAlgebra_isElement cap00 cap01A cap01.length cap01C cap01 xp w (St.rdR (i := 1) hS2 rfl) (by omega) (by omega)) ?_)
  rintro _ w11 ⟨rfl, he15⟩ a12 hE13; clear hE9
  have hS14 := St.go hS2 he15; clear hS2
  refine q_step (v := .bool (!(F_ModalAlgebra_isElement cap00 cap01 xp))) hE13 (y_not rfl) rfl rfl rfl ?_; intro a16 hE17; clear hE13
  refine q_step (v := .bool (!(F_ModalAlgebra_isElement cap00 cap01 xp))) hE17 (y_assign rfl) rfl rfl rfl ?_; intro a18 hE19; clear hE17
  refine c_nil ?_
  have hE20 := hE19.sub (L' := [(3, .bool (!(F_ModalAlgebra_isElement cap00 cap01 xp)))]) ⟨rfl, trivial⟩; clear hE19
  refine p_tn ?_
  refine wp_ret ?_
  have hF : F_ModalAlgebra_areElements_k1 xp cap00 cap01 = (!(F_ModalAlgebra_isElement cap00 cap01 xp)) := by unfold F_ModalAlgebra_areElements_k1; rfl
  refine c_ret1 hE20 rfl rfl ?_
  exact ⟨(by rw [hF]; first | done | rfl), hS14.ext⟩

def F_ModalAlgebra_areElements (ap0 : Int) (ap1 : List Int) (list : List Int) : Bool :=
  (!(F_z_ContainsFunc list (fun x0 => F_ModalAlgebra_areElements_k1 x0 ap0 ap1)))
theorem cf_ModalAlgebra_areElements (args : Array Value) (w : World) : (callFunc 76 args).run Try.prog w = .ok (.enter 76 args) w := by kernel_rfl
set_option maxRecDepth 100000 in
theorem c_ModalAlgebra_areElements (ap0 : Int) (ap1A : Option Addr) (ap1N ap1C : Nat) (ap1 : List Int) (listA : Option Addr) (listN listC : Nat) (list : List Int) (w : World) (ap1R : RdS w 1 ap1A ap1N ap1C ap1) (listR : RdS w 1 listA listN listC list) (h0 : 0 ≤ ap0) (h1 : ap0 ≤ 30) :
    Calls Try.prog 76 #[.agg #[.int .i64 ap0, .slice ap1A ap1N ap1C], .slice listA listN listC] w (Ret fun v w' => v = .bool (F_ModalAlgebra_areElements ap0 ap1 list) ∧ Ext w w') := by
  obtain rfl : ap1N = ap1.length := ap1R.len1.symm
  have ap1Le := ap1R.le
  obtain rfl : listN = list.length := listR.len1.symm
  have listLe := listR.le
  have hS := St.nil w
  have hS1 := St.rd0 hS rfl ap1R; clear hS
  have hS2 := St.rd0 hS1 rfl listR; clear hS1
  refine enter (args := [.agg #[.int .i64 ap0, .slice ap1A ap1.length ap1C], .slice listA list.length listC]) Try.func76 rfl rfl ?_
  rw [Try.ntmps76]; intro a hE
  have hE := hE.sub (L' := [(0, .agg #[.int .i64 ap0, .slice ap1A ap1.length ap1C]), (1, .slice listA list.length listC)]) ⟨rfl, rfl, trivial⟩
  refine c_seq ?_
  refine c_reg ?_
  refine l_step hE rfl (l_box (v := .agg #[.int .i64 ap0, .slice ap1A ap1.length ap1C]) (cs := #[.int .i64 ap0, .slice ap1A ap1.length ap1C]) hS2 hE rfl rfl rfl ?_)
  intro b3 w4 hS7 he8 a5 hE6; clear hS2 hE
  refine q_step (v := .bool false) hE6 (y_assign rfl) rfl rfl rfl ?_; intro a9 hE10; clear hE6
  refine c_nil ?_
  have hE11 := hE10.sub (L' := [(1, .slice listA list.length listC), (2, .pointer (some ⟨b3, 0, none⟩))]) ⟨rfl, rfl, trivial⟩; clear hE10
  refine p_tn ?_
  refine c_seq ?_
  refine c_reg ?_
  refine q_step (v := .slice listA list.length listC) hE11 (y_move rfl) rfl rfl rfl ?_; intro a12 hE13; clear hE11
  refine q_step (v := .func (.func 119) #[] #[.pointer (some ⟨b3, 0, none⟩)]) hE13 (y_makeFunc (vs := [.pointer (some ⟨b3, 0, none⟩)]) rfl) rfl rfl rfl ?_; intro a14 hE15; clear hE13
  refine l_step hE15 rfl (l_call (f := 94) (argv := [.slice listA list.length listC, .func (.func 119) #[] #[.pointer (some ⟨b3, 0, none⟩)]]) hE15 (fun _ => cf_z_ContainsFunc _ _) rfl rfl (c_z_ContainsFunc listA list.length listC list 119 [.pointer (some ⟨b3, 0, none⟩)] (fun x0 => F_ModalAlgebra_areElements_k1 x0 ap0 ap1) (fun _ => True) w4 (St.rdR (i := 1) hS7 rfl) (fun _ _ => cf_ModalAlgebra_areElements_k1 _ _) (fun x0 w' hx he => c_ModalAlgebra_areElements_k1 x0 b3 ap0 ap1A ap1.length ap1C ap1 w' (RdS.ext (St.rdR (i := 2) hS7 rfl) he) (St.row (i := 0) hS7 rfl w' he) (by omega) (by omega)) (fun _ _ _ => trivial)) ?_)
  rintro _ w17 ⟨rfl, he21⟩ a18 hE19; clear hE15
  have hS20 := St.go hS7 he21; clear hS7
  refine q_step (v := .bool (!(F_z_ContainsFunc list (fun x0 => F_ModalAlgebra_areElements_k1 x0 ap0 ap1)))) hE19 (y_not rfl) rfl rfl rfl ?_; intro a22 hE23; clear hE19
  refine q_step (v := .bool (!(F_z_ContainsFunc list (fun x0 => F_ModalAlgebra_areElements_k1 x0 ap0 ap1)))) hE23 (y_assign rfl) rfl rfl rfl ?_; intro a24 hE25; clear hE23
  refine c_nil ?_
  have hE26 := hE25.sub (L' := [(4, .bool (!(F_z_ContainsFunc list (fun x0 => F_ModalAlgebra_areElements_k1 x0 ap0 ap1))))]) ⟨rfl, trivial⟩; clear hE25
  refine p_tn ?_
  refine wp_ret ?_
  have hF : F_ModalAlgebra_areElements ap0 ap1 list = (!(F_z_ContainsFunc list (fun x0 => F_ModalAlgebra_areElements_k1 x0 ap0 ap1))) := by unfold F_ModalAlgebra_areElements; rfl
  refine c_ret1 hE26 rfl rfl ?_
  exact ⟨(by rw [hF]; first | done | rfl), hS20.ext⟩

theorem areElements_eq (bp0 : Int) (bp1 list : List Int) : F_ModalAlgebra_areElements bp0 bp1 list = F_l01Masks bp0 list := by
  unfold F_ModalAlgebra_areElements
  rw [contains_eq, masks_eq, List.all_eq_not_any_not]; rfl
theorem areElements_t {bp0 : Int} {bp1 list : List Int} (h : F_ModalAlgebra_areElements bp0 bp1 list = true) : ∀ m : Int, 0 ≤ m → m < (list.length : Int) → 0 ≤ gI list m ∧ gI list m ≤ fullI bp0 := by
  rw [areElements_eq] at h; exact masks_mem h

def F_l15Keeps_L2b (images : List Int) (x9 : Int) (rec : Int → Except (Bool) (Int)) (y10L2 : Int) : Except (Bool) (Int) :=
  bif (decide (y10L2 < x9)) then (bif (!decide ((gI images (andI x9 y10L2)) = (andI (gI images x9) (gI images y10L2)))) then (.error false) else (rec (y10L2 + 1))) else (.ok y10L2)
def F_l15Keeps_L2 (images : List Int) (x9 : Int) : Nat → Int → Except (Bool) (Int)
  | 0, y10L2 => .ok y10L2
  | r + 1, y10L2 => F_l15Keeps_L2b images x9 (F_l15Keeps_L2 images x9 r) y10L2
def F_l15Keeps_L1b (ap0 : Int) (ap1 : List Int) (bp0 : Int) (bp1 : List Int) (images : List Int) (rec : Int → Except (Bool) (Int)) (x9 : Int) : Except (Bool) (Int) :=
  bif (decide (x9 ≤ (fullI ap0))) then (bif ((!decide ((gI images ((fullI ap0) - x9)) = ((fullI bp0) - (gI images x9)))) || (!decide ((gI images (gI ap1 x9)) = (gI bp1 (gI images x9))))) then (.error false) else (bif (isOk (F_l15Keeps_L2 images x9 (Int.toNat (x9 - 0) + 1) 0)) then (rec (x9 + 1)) else (.error (errD (F_l15Keeps_L2 images x9 (Int.toNat (x9 - 0) + 1) 0))))) else (.ok x9)
def F_l15Keeps_L1 (ap0 : Int) (ap1 : List Int) (bp0 : Int) (bp1 : List Int) (images : List Int) : Nat → Int → Except (Bool) (Int)
  | 0, x9 => .ok x9
  | r + 1, x9 => F_l15Keeps_L1b ap0 ap1 bp0 bp1 images (F_l15Keeps_L1 ap0 ap1 bp0 bp1 images r) x9
def F_l15Keeps (ap0 : Int) (ap1 : List Int) (bp0 : Int) (bp1 : List Int) (images : List Int) : Bool :=
  bif (isOk (F_l15Keeps_L1 ap0 ap1 bp0 bp1 images (Int.toNat ((fullI ap0) + 1 - 0) + 1) 0)) then true else (errD (F_l15Keeps_L1 ap0 ap1 bp0 bp1 images (Int.toNat ((fullI ap0) + 1 - 0) + 1) 0))
theorem cf_l15Keeps (args : Array Value) (w : World) : (callFunc 74 args).run Try.prog w = .ok (.enter 74 args) w := by kernel_rfl
set_option maxRecDepth 100000 in
theorem c_l15Keeps (ap0 : Int) (ap1A : Option Addr) (ap1N ap1C : Nat) (ap1 : List Int) (bp0 : Int) (bp1A : Option Addr) (bp1N bp1C : Nat) (bp1 : List Int) (imagesA : Option Addr) (imagesN imagesC : Nat) (images : List Int) (w : World) (ap1R : RdS w 1 ap1A ap1N ap1C ap1) (bp1R : RdS w 1 bp1A bp1N bp1C bp1) (imagesR : RdS w 1 imagesA imagesN imagesC images) (ha : (0 ≤ ap0 ∧ ap0 ≤ 5) ∧ 0 ≤ fullI ap0 ∧ fullI ap0 ≤ 31) (hb : (0 ≤ bp0 ∧ bp0 ≤ 5) ∧ 0 ≤ fullI bp0 ∧ fullI bp0 ≤ 31) (hla : (ap1.length : Int) = fullI ap0 + 1) (hlb : (bp1.length : Int) = fullI bp0 + 1) (hli : (images.length : Int) = fullI ap0 + 1) (hxa : ∀ m : Int, 0 ≤ m → m < (ap1.length : Int) → 0 ≤ gI ap1 m ∧ gI ap1 m ≤ fullI ap0) (hxi : ∀ m : Int, 0 ≤ m → m < (images.length : Int) → 0 ≤ gI images m ∧ gI images m ≤ fullI bp0) :
    Calls Try.prog 74 #[.agg #[.int .i64 ap0, .slice ap1A ap1N ap1C], .agg #[.int .i64 bp0, .slice bp1A bp1N bp1C], .slice imagesA imagesN imagesC] w (Ret fun v w' => v = .bool (F_l15Keeps ap0 ap1 bp0 bp1 images) ∧ Ext w w') := by
  obtain rfl : ap1N = ap1.length := ap1R.len1.symm
  have ap1Le := ap1R.le
  obtain rfl : bp1N = bp1.length := bp1R.len1.symm
  have bp1Le := bp1R.le
  obtain rfl : imagesN = images.length := imagesR.len1.symm
  have imagesLe := imagesR.le
  have hS := St.nil w
  have hS1 := St.rd0 hS rfl ap1R; clear hS
  have hS2 := St.rd0 hS1 rfl bp1R; clear hS1
  have hS3 := St.rd0 hS2 rfl imagesR; clear hS2
  refine enter (args := [.agg #[.int .i64 ap0, .slice ap1A ap1.length ap1C], .agg #[.int .i64 bp0, .slice bp1A bp1.length bp1C], .slice imagesA images.length imagesC]) Try.func74 rfl rfl ?_
  rw [Try.ntmps74]; intro a hE
  have hE := hE.sub (L' := [(0, .agg #[.int .i64 ap0, .slice ap1A ap1.length ap1C]), (1, .agg #[.int .i64 bp0, .slice bp1A bp1.length bp1C]), (2, .slice imagesA images.length imagesC)]) ⟨rfl, rfl, rfl, trivial⟩
  refine c_seq ?_
  refine c_reg ?_
  refine l_step hE rfl (l_box (v := .agg #[.int .i64 ap0, .slice ap1A ap1.length ap1C]) (cs := #[.int .i64 ap0, .slice ap1A ap1.length ap1C]) hS3 hE rfl rfl rfl ?_)
  intro b4 w5 hS8 he9 a6 hE7; clear hS3 hE
  refine l_step hE7 rfl (l_box (v := .agg #[.int .i64 bp0, .slice bp1A bp1.length bp1C]) (cs := #[.int .i64 bp0, .slice bp1A bp1.length bp1C]) hS8 hE7 rfl rfl rfl ?_)
  intro b10 w11 hS14 he15 a12 hE13; clear hS8 hE7
  refine q_step (v := .bool false) hE13 (y_assign rfl) rfl rfl rfl ?_; intro a16 hE17; clear hE13
  refine c_nil ?_
  have hE18 := hE17.sub (L' := [(2, .slice imagesA images.length imagesC), (3, .pointer (some ⟨b4, 0, none⟩)), (4, .pointer (some ⟨b10, 0, none⟩))]) ⟨rfl, rfl, rfl, trivial⟩; clear hE17
  refine p_tn ?_
  refine c_seq ?_
  refine d_start (fun w' => w'.cell? ⟨b4, 0, none⟩ = some (.int .i64 ap0) ∧ w'.cell? ⟨b10, 0, none⟩ = some (.int .i64 bp0) ∧ True) [1, 4] 8 (by kernel_rfl) rfl ?_
  intro w19 he20; have hS21 := St.go hS14 he20; clear hS14
  refine d_pure (v := .pointer (some ⟨b4, 0, none⟩)) 0 rfl hE18 (y_field rfl (fun _ => by kernel_rfl)) rfl (by kernel_rfl) (by kernel_rfl) (by kernel_rfl) rfl rfl (fun _ _ _ h => h) ?_; intro a22 hE23; clear hE18
  refine d_take (v := .int .i64 ap0) 1 rfl hE23 ⟨(St.cell (i := 1) hS21 rfl rfl _ (Ext.refl _)), (St.cell (i := 0) hS21 rfl rfl _ (Ext.refl _)), trivial⟩ (y_load (fun _ => by kernel_rfl) rfl (fun _ h => h.1)) rfl rfl (by kernel_rfl) (by kernel_rfl) (by kernel_rfl) rfl rfl (fun _ _ _ h => h) ?_; intro a24 hE25; clear hE23
  refine d_pure (v := .pointer (some ⟨b10, 0, none⟩)) 3 rfl hE25 (y_field rfl (fun _ => by kernel_rfl)) rfl (by kernel_rfl) (by kernel_rfl) (by kernel_rfl) rfl rfl (fun _ _ _ h => h) ?_; intro a26 hE27; clear hE25
  refine d_take (v := .int .i64 bp0) 4 rfl hE27 ⟨(St.cell (i := 1) hS21 rfl rfl _ (Ext.refl _)), (St.cell (i := 0) hS21 rfl rfl _ (Ext.refl _)), trivial⟩ (y_load (fun _ => by kernel_rfl) rfl (fun _ h => h.2.1)) rfl rfl (by kernel_rfl) (by kernel_rfl) (by kernel_rfl) rfl rfl (fun _ _ _ h => h) ?_; intro a28 hE29; clear hE27
  refine d_only 2 (by kernel_rfl) rfl hE29 rfl (l_call (f := 85) (argv := [.int .i64 ap0]) hE29 (fun _ => cf_l01Full _ _) rfl rfl (d_l01Full ap0 w19 (by omega) (by omega)) ?_)
  rintro _ _ ⟨rfl, rfl⟩ a32 hE33; clear hE29
  refine ⟨fun _ _ => ⟨(St.cell (i := 1) hS21 rfl rfl _ (Ext.refl _)), (St.cell (i := 0) hS21 rfl rfl _ (Ext.refl _)), trivial⟩, ?_⟩
  refine d_only 5 (by kernel_rfl) rfl hE33 rfl (l_call (f := 85) (argv := [.int .i64 bp0]) hE33 (fun _ => cf_l01Full _ _) rfl rfl (d_l01Full bp0 w19 (by omega) (by omega)) ?_)
  rintro _ _ ⟨rfl, rfl⟩ a38 hE39; clear hE33
  refine ⟨fun _ _ => ⟨(St.cell (i := 1) hS21 rfl rfl _ (Ext.refl _)), (St.cell (i := 0) hS21 rfl rfl _ (Ext.refl _)), trivial⟩, ?_⟩
  refine d_pure (v := .int .i64 (fullI ap0)) 6 rfl hE39 (y_assign rfl) rfl (by kernel_rfl) (by kernel_rfl) (by kernel_rfl) rfl rfl (fun _ _ _ h => h) ?_; intro a42 hE43; clear hE39
  refine d_pure (v := .int .i64 (fullI bp0)) 7 rfl hE43 (y_assign rfl) rfl (by kernel_rfl) (by kernel_rfl) (by kernel_rfl) rfl rfl (fun _ _ _ h => h) ?_; intro a44 hE45; clear hE43
  refine d_done (by kernel_rfl) ?_
  have hE46 := hE45.sub (L' := [(2, .slice imagesA images.length imagesC), (3, .pointer (some ⟨b4, 0, none⟩)), (4, .pointer (some ⟨b10, 0, none⟩)), (7, .int .i64 (fullI ap0)), (8, .int .i64 (fullI bp0))]) ⟨rfl, rfl, rfl, rfl, rfl, trivial⟩; clear hE45
  refine p_tn ?_
  refine c_seq ?_
  refine c_seq ?_
  refine c_reg ?_
  refine q_step (v := .int .i64 0) hE46 (y_assign rfl) rfl rfl rfl ?_; intro a47 hE48; clear hE46
  refine c_nil ?_
  have hE49 := hE48.sub (L' := [(2, .slice imagesA images.length imagesC), (3, .pointer (some ⟨b4, 0, none⟩)), (4, .pointer (some ⟨b10, 0, none⟩)), (7, .int .i64 (fullI ap0)), (8, .int .i64 (fullI bp0)), (9, .int .i64 0)]) ⟨rfl, rfl, rfl, rfl, rfl, rfl, trivial⟩; clear hE48
  refine p_tn ?_
  refine c_cut1 (fun a' w' => isOk (F_l15Keeps_L1 ap0 ap1 bp0 bp1 images (Int.toNat ((fullI ap0) + 1 - 0) + 1) 0) = true ∧ (0 ≤ (okD (F_l15Keeps_L1 ap0 ap1 bp0 bp1 images (Int.toNat ((fullI ap0) + 1 - 0) + 1) 0))) ∧ ((okD (F_l15Keeps_L1 ap0 ap1 bp0 bp1 images (Int.toNat ((fullI ap0) + 1 - 0) + 1) 0)) ≤ fullI ap0 + 1) ∧ E a' 75 [(2, .slice imagesA images.length imagesC), (3, .pointer (some ⟨b4, 0, none⟩)), (4, .pointer (some ⟨b10, 0, none⟩)), (7, .int .i64 (fullI ap0)), (8, .int .i64 (fullI bp0)), (9, .int .i64 (okD (F_l15Keeps_L1 ap0 ap1 bp0 bp1 images (Int.toNat ((fullI ap0) + 1 - 0) + 1) 0)))] ∧ St w w' [.blk b10 #[.int .i64 bp0, .slice bp1A bp1.length bp1C] 43, .blk b4 #[.int .i64 ap0, .slice ap1A ap1.length ap1C] 43, .rd 1 imagesA images.length imagesC images, .rd 1 bp1A bp1.length bp1C bp1, .rd 1 ap1A ap1.length ap1C ap1]) ?_ ?_
  ·
    refine wp_block ?_
    refine c_loop (fun r a' w' => ∃ x9 : Int, F_l15Keeps_L1 ap0 ap1 bp0 bp1 images r x9 = F_l15Keeps_L1 ap0 ap1 bp0 bp1 images (Int.toNat ((fullI ap0) + 1 - 0) + 1) 0 ∧ Int.toNat ((fullI ap0) + 1 - x9) < r ∧ (0 ≤ x9) ∧ (x9 ≤ fullI ap0 + 1) ∧ E a' 75 [(2, .slice imagesA images.length imagesC), (3, .pointer (some ⟨b4, 0, none⟩)), (4, .pointer (some ⟨b10, 0, none⟩)), (7, .int .i64 (fullI ap0)), (8, .int .i64 (fullI bp0)), (9, .int .i64 x9)] ∧ St w w' [.blk b10 #[.int .i64 bp0, .slice bp1A bp1.length bp1C] 43, .blk b4 #[.int .i64 ap0, .slice ap1A ap1.length ap1C] 43, .rd 1 imagesA images.length imagesC images, .rd 1 bp1A bp1.length bp1C bp1, .rd 1 ap1A ap1.length ap1C ap1]) (r := (Int.toNat ((fullI ap0) + 1 - 0) + 1)) ?_ ?_
    · exact ⟨0, rfl, Nat.lt_succ_self _, (by first | omega | (simp only [List.length_append, List.length_cons, List.length_nil, sI_len, cond_true, cond_false]; omega) | (simp only [List.length_append, List.length_cons, List.length_nil, sI_len, cond_eq_ite, apply_ite List.length]; split <;> simp only [List.length_append, List.length_cons, List.length_nil, sI_len] <;> omega) | grind), (by first | omega | (simp only [List.length_append, List.length_cons, List.length_nil, sI_len, cond_true, cond_false]; omega) | (simp only [List.length_append, List.length_cons, List.length_nil, sI_len, cond_eq_ite, apply_ite List.length]; split <;> simp only [List.length_append, List.length_cons, List.length_nil, sI_len] <;> omega) | grind), (hE49.sub (L' := [(2, .slice imagesA images.length imagesC), (3, .pointer (some ⟨b4, 0, none⟩)), (4, .pointer (some ⟨b10, 0, none⟩)), (7, .int .i64 (fullI ap0)), (8, .int .i64 (fullI bp0)), (9, .int .i64 0)]) ⟨rfl, rfl, rfl, rfl, rfl, rfl, trivial⟩), (St.pick (Γ' := [.blk b10 #[.int .i64 bp0, .slice bp1A bp1.length bp1C] 43, .blk b4 #[.int .i64 ap0, .slice ap1A ap1.length ap1C] 43, .rd 1 imagesA images.length imagesC images, .rd 1 bp1A bp1.length bp1C bp1, .rd 1 ap1A ap1.length ap1C ap1]) hS21 [0, 1, 2, 3, 4] (by decide) rfl)⟩
    ·
      clear hE49 hS21
      rintro r59 a51 w52 ⟨x9, hT55, hr56, hi57, hi58, hE53, hS54⟩
      obtain ⟨r59, rfl⟩ : ∃ r', r59 = r' + 1 := ⟨r59 - 1, by omega⟩
      refine c_seq ?_
      refine c_seq ?_
      refine c_reg ?_
      refine q_step (v := .int .i64 x9) hE53 (y_move rfl) rfl rfl rfl ?_; intro a60 hE61; clear hE53
      refine q_step (v := .int .i64 (fullI ap0)) hE61 (y_move rfl) rfl rfl rfl ?_; intro a62 hE63; clear hE61
      refine q_step (v := .bool (decide (x9 ≤ (fullI ap0)))) hE63 (y_leq rfl rfl) rfl rfl rfl ?_; intro a64 hE65; clear hE63
      refine c_nil ?_
      have hE66 := hE65.sub (L' := [(2, .slice imagesA images.length imagesC), (3, .pointer (some ⟨b4, 0, none⟩)), (4, .pointer (some ⟨b10, 0, none⟩)), (7, .int .i64 (fullI ap0)), (8, .int .i64 (fullI bp0)), (9, .int .i64 x9), (19, .bool (decide (x9 ≤ (fullI ap0))))]) ⟨rfl, rfl, rfl, rfl, rfl, rfl, rfl, trivial⟩; clear hE65
      refine p_tn ?_
      refine c_cond hE66 rfl (fun ht67 => ?_) (fun ht67 => ?_)
      ·
        have hp68 := of_decide_eq_true ht67
        have hE69 := hE66; rw [ht67] at hE69; clear hE66
        have hx1 := hxa x9 (by omega) (by omega)
        have hx2 := hxi x9 (by omega) (by omega)
        refine wp_skip ?_
        refine p_tn ?_
        refine c_seq ?_
        refine wp_block ?_
        refine c_seq ?_
        refine c_cut (fun a' w' => E a' 75 [(2, .slice imagesA images.length imagesC), (3, .pointer (some ⟨b4, 0, none⟩)), (4, .pointer (some ⟨b10, 0, none⟩)), (7, .int .i64 (fullI ap0)), (8, .int .i64 (fullI bp0)), (9, .int .i64 x9), (53, .bool ((!decide ((gI images ((fullI ap0) - x9)) = ((fullI bp0) - (gI images x9)))) || (!decide ((gI images (gI ap1 x9)) = (gI bp1 (gI images x9))))))] ∧ St w w' [.rd 1 bp1A bp1.length bp1C bp1, .blk b10 #[.int .i64 bp0, .slice bp1A bp1.length bp1C] 43, .rd 1 ap1A ap1.length ap1C ap1, .blk b4 #[.int .i64 ap0, .slice ap1A ap1.length ap1C] 43, .rd 1 imagesA images.length imagesC images]) ?_ ?_
        ·
          refine d_start (fun w' => w'.cell? (adr imagesA (Int.toNat ((fullI ap0) - x9))) = some (.int .i64 (gI images ((fullI ap0) - x9))) ∧ w'.cell? (adr imagesA (Int.toNat x9)) = some (.int .i64 (gI images x9)) ∧ w'.cell? ⟨b4, 1, none⟩ = some (.slice ap1A ap1.length ap1C) ∧ w'.cell? (adr ap1A (Int.toNat x9)) = some (.int .i64 (gI ap1 x9)) ∧ w'.cell? (adr imagesA (Int.toNat (gI ap1 x9))) = some (.int .i64 (gI images (gI ap1 x9))) ∧ w'.cell? ⟨b10, 1, none⟩ = some (.slice bp1A bp1.length bp1C) ∧ w'.cell? (adr imagesA (Int.toNat x9)) = some (.int .i64 (gI images x9)) ∧ w'.cell? (adr bp1A (Int.toNat (gI images x9))) = some (.int .i64 (gI bp1 (gI images x9))) ∧ True) [5, 10, 16, 19, 21, 23, 27, 29] 32 (by kernel_rfl) rfl ?_
          intro w70 he71; have hS72 := St.go hS54 he71; clear hS54
          refine d_pure (v := .slice imagesA images.length imagesC) 0 rfl hE69 (y_move rfl) rfl (by kernel_rfl) (by kernel_rfl) (by kernel_rfl) rfl rfl (fun _ _ _ h => h) ?_; intro a73 hE74; clear hE69
          refine d_pure (v := .int .i64 (fullI ap0)) 1 rfl hE74 (y_move rfl) rfl (by kernel_rfl) (by kernel_rfl) (by kernel_rfl) rfl rfl (fun _ _ _ h => h) ?_; intro a75 hE76; clear hE74
          refine d_pure (v := .int .i64 x9) 2 rfl hE76 (y_move rfl) rfl (by kernel_rfl) (by kernel_rfl) (by kernel_rfl) rfl rfl (fun _ _ _ h => h) ?_; intro a77 hE78; clear hE76
          refine d_pure (v := .int .i64 ((fullI ap0) - x9)) 3 rfl hE78 (y_sub rfl rfl ⟨(by omega), (by omega)⟩) rfl (by kernel_rfl) (by kernel_rfl) (by kernel_rfl) rfl rfl (fun _ _ _ h => h) ?_; intro a79 hE80; clear hE78
          refine d_pure (v := .pointer (some (adr imagesA (Int.toNat ((fullI ap0) - x9))))) 4 rfl hE80 (y_idx (by kernel_rfl) (fun _ => by kernel_rfl) rfl rfl (RdS.isS (m := (fullI ap0) - x9) (St.rdR (i := 2) hS72 rfl) (by omega) (by omega)) (by omega) (by omega) (Nat.mul_one _).symm) rfl (by kernel_rfl) (by kernel_rfl) (by kernel_rfl) rfl rfl (fun _ _ _ h => h) ?_; intro a81 hE82; clear hE80
          refine d_take (v := .int .i64 (gI images ((fullI ap0) - x9))) 5 rfl hE82 ⟨(RdS.elt (St.rdR (i := 2) hS72 rfl) (by omega) (by omega) _ (Ext.refl _)), (RdS.elt (St.rdR (i := 2) hS72 rfl) (by omega) (by omega) _ (Ext.refl _)), (St.cell (i := 1) hS72 rfl rfl _ (Ext.refl _)), (RdS.elt (St.rdR (i := 4) hS72 rfl) (by omega) (by omega) _ (Ext.refl _)), (RdS.elt (St.rdR (i := 2) hS72 rfl) (by omega) (by omega) _ (Ext.refl _)), (St.cell (i := 0) hS72 rfl rfl _ (Ext.refl _)), (RdS.elt (St.rdR (i := 2) hS72 rfl) (by omega) (by omega) _ (Ext.refl _)), (RdS.elt (St.rdR (i := 3) hS72 rfl) (by omega) (by omega) _ (Ext.refl _)), trivial⟩ (y_load (fun _ => by kernel_rfl) rfl (fun _ h => h.1)) rfl rfl (by kernel_rfl) (by kernel_rfl) (by kernel_rfl) rfl rfl (fun _ _ _ h => h) ?_; intro a83 hE84; clear hE82
          refine d_pure (v := .int .i64 (fullI bp0)) 6 rfl hE84 (y_move rfl) rfl (by kernel_rfl) (by kernel_rfl) (by kernel_rfl) rfl rfl (fun _ _ _ h => h) ?_; intro a85 hE86; clear hE84
          refine d_pure (v := .slice imagesA images.length imagesC) 7 rfl hE86 (y_move rfl) rfl (by kernel_rfl) (by kernel_rfl) (by kernel_rfl) rfl rfl (fun _ _ _ h => h) ?_; intro a87 hE88; clear hE86
          refine d_pure (v := .int .i64 x9) 8 rfl hE88 (y_move rfl) rfl (by kernel_rfl) (by kernel_rfl) (by kernel_rfl) rfl rfl (fun _ _ _ h => h) ?_; intro a89 hE90; clear hE88
          refine d_pure (v := .pointer (some (adr imagesA (Int.toNat x9)))) 9 rfl hE90 (y_idx (by kernel_rfl) (fun _ => by kernel_rfl) rfl rfl (RdS.isS (m := x9) (St.rdR (i := 2) hS72 rfl) (by omega) (by omega)) (by omega) (by omega) (Nat.mul_one _).symm) rfl (by kernel_rfl) (by kernel_rfl) (by kernel_rfl) rfl rfl (fun _ _ _ h => h) ?_; intro a91 hE92; clear hE90
          refine d_take (v := .int .i64 (gI images x9)) 10 rfl hE92 ⟨(RdS.elt (St.rdR (i := 2) hS72 rfl) (by omega) (by omega) _ (Ext.refl _)), (RdS.elt (St.rdR (i := 2) hS72 rfl) (by omega) (by omega) _ (Ext.refl _)), (St.cell (i := 1) hS72 rfl rfl _ (Ext.refl _)), (RdS.elt (St.rdR (i := 4) hS72 rfl) (by omega) (by omega) _ (Ext.refl _)), (RdS.elt (St.rdR (i := 2) hS72 rfl) (by omega) (by omega) _ (Ext.refl _)), (St.cell (i := 0) hS72 rfl rfl _ (Ext.refl _)), (RdS.elt (St.rdR (i := 2) hS72 rfl) (by omega) (by omega) _ (Ext.refl _)), (RdS.elt (St.rdR (i := 3) hS72 rfl) (by omega) (by omega) _ (Ext.refl _)), trivial⟩ (y_load (fun _ => by kernel_rfl) rfl (fun _ h => h.2.1)) rfl rfl (by kernel_rfl) (by kernel_rfl) (by kernel_rfl) rfl rfl (fun _ _ _ h => h) ?_; intro a93 hE94; clear hE92
          refine d_pure (v := .int .i64 ((fullI bp0) - (gI images x9))) 11 rfl hE94 (y_sub rfl rfl ⟨(by omega), (by omega)⟩) rfl (by kernel_rfl) (by kernel_rfl) (by kernel_rfl) rfl rfl (fun _ _ _ h => h) ?_; intro a95 hE96; clear hE94
          refine d_pure (v := .bool (!decide ((gI images ((fullI ap0) - x9)) = ((fullI bp0) - (gI images x9))))) 12 rfl hE96 (y_neq rfl rfl) rfl (by kernel_rfl) (by kernel_rfl) (by kernel_rfl) rfl rfl (fun _ _ _ h => h) ?_; intro a97 hE98; clear hE96
          refine d_pure (v := .bool (!decide ((gI images ((fullI ap0) - x9)) = ((fullI bp0) - (gI images x9))))) 13 rfl hE98 (y_move rfl) rfl (by kernel_rfl) (by kernel_rfl) (by kernel_rfl) rfl rfl (fun _ _ _ h => h) ?_; intro a99 hE100; clear hE98
          rcases Bool.eq_false_or_eq_true (!decide ((gI images ((fullI ap0) - x9)) = ((fullI bp0) - (gI images x9)))) with hb101 | hb101
          ·
            have hE102 := hE100; rw [hb101] at hE102; clear hE100
            have ht103 := bn_t hb101
            have hp104 := of_decide_eq_false ht103
            refine d_skip 14 rfl hE102 rfl (by kernel_rfl) (by kernel_rfl) (by kernel_rfl) rfl rfl (fun _ _ _ h => h) ?_; intro a105 hE106; clear hE102
            refine d_skip 15 rfl hE106 rfl (by kernel_rfl) (by kernel_rfl) (by kernel_rfl) rfl rfl (fun _ _ _ h => h) ?_; intro a107 hE108; clear hE106
            refine d_skip 16 rfl hE108 rfl (by kernel_rfl) (by kernel_rfl) (by kernel_rfl) rfl rfl (fun _ _ _ h => h) ?_; intro a109 hE110; clear hE108
            refine d_skip 17 rfl hE110 rfl (by kernel_rfl) (by kernel_rfl) (by kernel_rfl) rfl rfl (fun _ _ _ h => h) ?_; intro a111 hE112; clear hE110
            refine d_skip 18 rfl hE112 rfl (by kernel_rfl) (by kernel_rfl) (by kernel_rfl) rfl rfl (fun _ _ _ h => h) ?_; intro a113 hE114; clear hE112
            refine d_skip 19 rfl hE114 rfl (by kernel_rfl) (by kernel_rfl) (by kernel_rfl) rfl rfl (fun _ _ _ h => h) ?_; intro a115 hE116; clear hE114
            refine d_skip 20 rfl hE116 rfl (by kernel_rfl) (by kernel_rfl) (by kernel_rfl) rfl rfl (fun _ _ _ h => h) ?_; intro a117 hE118; clear hE116
            refine d_skip 21 rfl hE118 rfl (by kernel_rfl) (by kernel_rfl) (by kernel_rfl) rfl rfl (fun _ _ _ h => h) ?_; intro a119 hE120; clear hE118
            refine d_skip 22 rfl hE120 rfl (by kernel_rfl) (by kernel_rfl) (by kernel_rfl) rfl rfl (fun _ _ _ h => h) ?_; intro a121 hE122; clear hE120
            refine d_skip 23 rfl hE122 rfl (by kernel_rfl) (by kernel_rfl) (by kernel_rfl) rfl rfl (fun _ _ _ h => h) ?_; intro a123 hE124; clear hE122
            refine d_skip 24 rfl hE124 rfl (by kernel_rfl) (by kernel_rfl) (by kernel_rfl) rfl rfl (fun _ _ _ h => h) ?_; intro a125 hE126; clear hE124
            refine d_skip 25 rfl hE126 rfl (by kernel_rfl) (by kernel_rfl) (by kernel_rfl) rfl rfl (fun _ _ _ h => h) ?_; intro a127 hE128; clear hE126
            refine d_skip 26 rfl hE128 rfl (by kernel_rfl) (by kernel_rfl) (by kernel_rfl) rfl rfl (fun _ _ _ h => h) ?_; intro a129 hE130; clear hE128
            refine d_skip 27 rfl hE130 rfl (by kernel_rfl) (by kernel_rfl) (by kernel_rfl) rfl rfl (fun _ _ _ h => h) ?_; intro a131 hE132; clear hE130
            refine d_skip 28 rfl hE132 rfl (by kernel_rfl) (by kernel_rfl) (by kernel_rfl) rfl rfl (fun _ _ _ h => h) ?_; intro a133 hE134; clear hE132
            refine d_skip 29 rfl hE134 rfl (by kernel_rfl) (by kernel_rfl) (by kernel_rfl) rfl rfl (fun _ _ _ h => h) ?_; intro a135 hE136; clear hE134
            refine d_skip 30 rfl hE136 rfl (by kernel_rfl) (by kernel_rfl) (by kernel_rfl) rfl rfl (fun _ _ _ h => h) ?_; intro a137 hE138; clear hE136
            refine d_pure (v := .bool true) 31 rfl hE138 (y_pick (b := true) rfl rfl) rfl (by kernel_rfl) (by kernel_rfl) (by kernel_rfl) rfl rfl (fun _ _ _ h => h) ?_; intro a139 hE140; clear hE138
            refine d_done (by kernel_rfl) ?_
            have hE141 := hE140.sub (L' := [(2, .slice imagesA images.length imagesC), (3, .pointer (some ⟨b4, 0, none⟩)), (4, .pointer (some ⟨b10, 0, none⟩)), (7, .int .i64 (fullI ap0)), (8, .int .i64 (fullI bp0)), (9, .int .i64 x9), (53, .bool true)]) ⟨rfl, rfl, rfl, rfl, rfl, rfl, rfl, trivial⟩; clear hE140
            refine p_tn ?_
            have hE142 := hE141.sub (L' := [(2, .slice imagesA images.length imagesC), (3, .pointer (some ⟨b4, 0, none⟩)), (4, .pointer (some ⟨b10, 0, none⟩)), (7, .int .i64 (fullI ap0)), (8, .int .i64 (fullI bp0)), (9, .int .i64 x9), (53, .bool true)]) ⟨rfl, rfl, rfl, rfl, rfl, rfl, rfl, trivial⟩
            have hS143 := (St.pick (Γ' := [.rd 1 bp1A bp1.length bp1C bp1, .blk b10 #[.int .i64 bp0, .slice bp1A bp1.length bp1C] 43, .rd 1 ap1A ap1.length ap1C ap1, .blk b4 #[.int .i64 ap0, .slice ap1A ap1.length ap1C] 43, .rd 1 imagesA images.length imagesC images]) hS72 [3, 0, 4, 1, 2] (by decide) rfl)
            exact ⟨(by rw [hb101]; exact hE142), hS143⟩
          ·
            have hE144 := hE100; rw [hb101] at hE144; clear hE100
            have ht145 := bn_f hb101
            have hp146 := of_decide_eq_true ht145
            refine d_pure (v := .slice imagesA images.length imagesC) 14 rfl hE144 (y_move rfl) rfl (by kernel_rfl) (by kernel_rfl) (by kernel_rfl) rfl rfl (fun _ _ _ h => h) ?_; intro a147 hE148; clear hE144
            refine d_pure (v := .pointer (some ⟨b4, 1, none⟩)) 15 rfl hE148 (y_field rfl (fun _ => by kernel_rfl)) rfl (by kernel_rfl) (by kernel_rfl) (by kernel_rfl) rfl rfl (fun _ _ _ h => h) ?_; intro a149 hE150; clear hE148
            refine d_take (v := .slice ap1A ap1.length ap1C) 16 rfl hE150 ⟨(RdS.elt (St.rdR (i := 2) hS72 rfl) (by omega) (by omega) _ (Ext.refl _)), (RdS.elt (St.rdR (i := 2) hS72 rfl) (by omega) (by omega) _ (Ext.refl _)), (St.cell (i := 1) hS72 rfl rfl _ (Ext.refl _)), (RdS.elt (St.rdR (i := 4) hS72 rfl) (by omega) (by omega) _ (Ext.refl _)), (RdS.elt (St.rdR (i := 2) hS72 rfl) (by omega) (by omega) _ (Ext.refl _)), (St.cell (i := 0) hS72 rfl rfl _ (Ext.refl _)), (RdS.elt (St.rdR (i := 2) hS72 rfl) (by omega) (by omega) _ (Ext.refl _)), (RdS.elt (St.rdR (i := 3) hS72 rfl) (by omega) (by omega) _ (Ext.refl _)), trivial⟩ (y_load (fun _ => by kernel_rfl) rfl (fun _ h => h.2.2.1)) rfl rfl (by kernel_rfl) (by kernel_rfl) (by kernel_rfl) rfl rfl (fun _ _ _ h => h) ?_; intro a151 hE152; clear hE150
            refine d_pure (v := .int .i64 x9) 17 rfl hE152 (y_move rfl) rfl (by kernel_rfl) (by kernel_rfl) (by kernel_rfl) rfl rfl (fun _ _ _ h => h) ?_; intro a153 hE154; clear hE152
            refine d_pure (v := .pointer (some (adr ap1A (Int.toNat x9)))) 18 rfl hE154 (y_idx (by kernel_rfl) (fun _ => by kernel_rfl) rfl rfl (RdS.isS (m := x9) (St.rdR (i := 4) hS72 rfl) (by omega) (by omega)) (by omega) (by omega) (Nat.mul_one _).symm) rfl (by kernel_rfl) (by kernel_rfl) (by kernel_rfl) rfl rfl (fun _ _ _ h => h) ?_; intro a155 hE156; clear hE154
            refine d_take (v := .int .i64 (gI ap1 x9)) 19 rfl hE156 ⟨(RdS.elt (St.rdR (i := 2) hS72 rfl) (by omega) (by omega) _ (Ext.refl _)), (RdS.elt (St.rdR (i := 2) hS72 rfl) (by omega) (by omega) _ (Ext.refl _)), (St.cell (i := 1) hS72 rfl rfl _ (Ext.refl _)), (RdS.elt (St.rdR (i := 4) hS72 rfl) (by omega) (by omega) _ (Ext.refl _)), (RdS.elt (St.rdR (i := 2) hS72 rfl) (by omega) (by omega) _ (Ext.refl _)), (St.cell (i := 0) hS72 rfl rfl _ (Ext.refl _)), (RdS.elt (St.rdR (i := 2) hS72 rfl) (by omega) (by omega) _ (Ext.refl _)), (RdS.elt (St.rdR (i := 3) hS72 rfl) (by omega) (by omega) _ (Ext.refl _)), trivial⟩ (y_load (fun _ => by kernel_rfl) rfl (fun _ h => h.2.2.2.1)) rfl rfl (by kernel_rfl) (by kernel_rfl) (by kernel_rfl) rfl rfl (fun _ _ _ h => h) ?_; intro a157 hE158; clear hE156
            refine d_pure (v := .pointer (some (adr imagesA (Int.toNat (gI ap1 x9))))) 20 rfl hE158 (y_idx (by kernel_rfl) (fun _ => by kernel_rfl) rfl rfl (RdS.isS (m := gI ap1 x9) (St.rdR (i := 2) hS72 rfl) (by omega) (by omega)) (by omega) (by omega) (Nat.mul_one _).symm) rfl (by kernel_rfl) (by kernel_rfl) (by kernel_rfl) rfl rfl (fun _ _ _ h => h) ?_; intro a159 hE160; clear hE158
            refine d_take (v := .int .i64 (gI images (gI ap1 x9))) 21 rfl hE160 ⟨(RdS.elt (St.rdR (i := 2) hS72 rfl) (by omega) (by omega) _ (Ext.refl _)), (RdS.elt (St.rdR (i := 2) hS72 rfl) (by omega) (by omega) _ (Ext.refl _)), (St.cell (i := 1) hS72 rfl rfl _ (Ext.refl _)), (RdS.elt (St.rdR (i := 4) hS72 rfl) (by omega) (by omega) _ (Ext.refl _)), (RdS.elt (St.rdR (i := 2) hS72 rfl) (by omega) (by omega) _ (Ext.refl _)), (St.cell (i := 0) hS72 rfl rfl _ (Ext.refl _)), (RdS.elt (St.rdR (i := 2) hS72 rfl) (by omega) (by omega) _ (Ext.refl _)), (RdS.elt (St.rdR (i := 3) hS72 rfl) (by omega) (by omega) _ (Ext.refl _)), trivial⟩ (y_load (fun _ => by kernel_rfl) rfl (fun _ h => h.2.2.2.2.1)) rfl rfl (by kernel_rfl) (by kernel_rfl) (by kernel_rfl) rfl rfl (fun _ _ _ h => h) ?_; intro a161 hE162; clear hE160
            refine d_pure (v := .pointer (some ⟨b10, 1, none⟩)) 22 rfl hE162 (y_field rfl (fun _ => by kernel_rfl)) rfl (by kernel_rfl) (by kernel_rfl) (by kernel_rfl) rfl rfl (fun _ _ _ h => h) ?_; intro a163 hE164; clear hE162
            refine d_take (v := .slice bp1A bp1.length bp1C) 23 rfl hE164 ⟨(RdS.elt (St.rdR (i := 2) hS72 rfl) (by omega) (by omega) _ (Ext.refl _)), (RdS.elt (St.rdR (i := 2) hS72 rfl) (by omega) (by omega) _ (Ext.refl _)), (St.cell (i := 1) hS72 rfl rfl _ (Ext.refl _)), (RdS.elt (St.rdR (i := 4) hS72 rfl) (by omega) (by omega) _ (Ext.refl _)), (RdS.elt (St.rdR (i := 2) hS72 rfl) (by omega) (by omega) _ (Ext.refl _)), (St.cell (i := 0) hS72 rfl rfl _ (Ext.refl _)), (RdS.elt (St.rdR (i := 2) hS72 rfl) (by omega) (by omega) _ (Ext.refl _)), (RdS.elt (St.rdR (i := 3) hS72 rfl) (by omega) (by omega) _ (Ext.refl _)), trivial⟩ (y_load (fun _ => by kernel_rfl) rfl (fun _ h => h.2.2.2.2.2.1)) rfl rfl (by kernel_rfl) (by kernel_rfl) (by kernel_rfl) rfl rfl (fun _ _ _ h => h) ?_; intro a165 hE166; clear hE164
            refine d_pure (v := .slice imagesA images.length imagesC) 24 rfl hE166 (y_move rfl) rfl (by kernel_rfl) (by kernel_rfl) (by kernel_rfl) rfl rfl (fun _ _ _ h => h) ?_; intro a167 hE168; clear hE166
            refine d_pure (v := .int .i64 x9) 25 rfl hE168 (y_move rfl) rfl (by kernel_rfl) (by kernel_rfl) (by kernel_rfl) rfl rfl (fun _ _ _ h => h) ?_; intro a169 hE170; clear hE168
            refine d_pure (v := .pointer (some (adr imagesA (Int.toNat x9)))) 26 rfl hE170 (y_idx (by kernel_rfl) (fun _ => by kernel_rfl) rfl rfl (RdS.isS (m := x9) (St.rdR (i := 2) hS72 rfl) (by omega) (by omega)) (by omega) (by omega) (Nat.mul_one _).symm) rfl (by kernel_rfl) (by kernel_rfl) (by kernel_rfl) rfl rfl (fun _ _ _ h => h) ?_; intro a171 hE172; clear hE170
            refine d_take (v := .int .i64 (gI images x9)) 27 rfl hE172 ⟨(RdS.elt (St.rdR (i := 2) hS72 rfl) (by omega) (by omega) _ (Ext.refl _)), (RdS.elt (St.rdR (i := 2) hS72 rfl) (by omega) (by omega) _ (Ext.refl _)), (St.cell (i := 1) hS72 rfl rfl _ (Ext.refl _)), (RdS.elt (St.rdR (i := 4) hS72 rfl) (by omega) (by omega) _ (Ext.refl _)), (RdS.elt (St.rdR (i := 2) hS72 rfl) (by omega) (by omega) _ (Ext.refl _)), (St.cell (i := 0) hS72 rfl rfl _ (Ext.refl _)), (RdS.elt (St.rdR (i := 2) hS72 rfl) (by omega) (by omega) _ (Ext.refl _)), (RdS.elt (St.rdR (i := 3) hS72 rfl) (by omega) (by omega) _ (Ext.refl _)), trivial⟩ (y_load (fun _ => by kernel_rfl) rfl (fun _ h => h.2.2.2.2.2.2.1)) rfl rfl (by kernel_rfl) (by kernel_rfl) (by kernel_rfl) rfl rfl (fun _ _ _ h => h) ?_; intro a173 hE174; clear hE172
            refine d_pure (v := .pointer (some (adr bp1A (Int.toNat (gI images x9))))) 28 rfl hE174 (y_idx (by kernel_rfl) (fun _ => by kernel_rfl) rfl rfl (RdS.isS (m := gI images x9) (St.rdR (i := 3) hS72 rfl) (by omega) (by omega)) (by omega) (by omega) (Nat.mul_one _).symm) rfl (by kernel_rfl) (by kernel_rfl) (by kernel_rfl) rfl rfl (fun _ _ _ h => h) ?_; intro a175 hE176; clear hE174
            refine d_take (v := .int .i64 (gI bp1 (gI images x9))) 29 rfl hE176 ⟨(RdS.elt (St.rdR (i := 2) hS72 rfl) (by omega) (by omega) _ (Ext.refl _)), (RdS.elt (St.rdR (i := 2) hS72 rfl) (by omega) (by omega) _ (Ext.refl _)), (St.cell (i := 1) hS72 rfl rfl _ (Ext.refl _)), (RdS.elt (St.rdR (i := 4) hS72 rfl) (by omega) (by omega) _ (Ext.refl _)), (RdS.elt (St.rdR (i := 2) hS72 rfl) (by omega) (by omega) _ (Ext.refl _)), (St.cell (i := 0) hS72 rfl rfl _ (Ext.refl _)), (RdS.elt (St.rdR (i := 2) hS72 rfl) (by omega) (by omega) _ (Ext.refl _)), (RdS.elt (St.rdR (i := 3) hS72 rfl) (by omega) (by omega) _ (Ext.refl _)), trivial⟩ (y_load (fun _ => by kernel_rfl) rfl (fun _ h => h.2.2.2.2.2.2.2.1)) rfl rfl (by kernel_rfl) (by kernel_rfl) (by kernel_rfl) rfl rfl (fun _ _ _ h => h) ?_; intro a177 hE178; clear hE176
            refine d_pure (v := .bool (!decide ((gI images (gI ap1 x9)) = (gI bp1 (gI images x9))))) 30 rfl hE178 (y_neq rfl rfl) rfl (by kernel_rfl) (by kernel_rfl) (by kernel_rfl) rfl rfl (fun _ _ _ h => h) ?_; intro a179 hE180; clear hE178
            refine d_pure (v := .bool (!decide ((gI images (gI ap1 x9)) = (gI bp1 (gI images x9))))) 31 rfl hE180 (y_pick (b := false) rfl rfl) rfl (by kernel_rfl) (by kernel_rfl) (by kernel_rfl) rfl rfl (fun _ _ _ h => h) ?_; intro a181 hE182; clear hE180
            refine d_done (by kernel_rfl) ?_
            have hE183 := hE182.sub (L' := [(2, .slice imagesA images.length imagesC), (3, .pointer (some ⟨b4, 0, none⟩)), (4, .pointer (some ⟨b10, 0, none⟩)), (7, .int .i64 (fullI ap0)), (8, .int .i64 (fullI bp0)), (9, .int .i64 x9), (53, .bool (!decide ((gI images (gI ap1 x9)) = (gI bp1 (gI images x9)))))]) ⟨rfl, rfl, rfl, rfl, rfl, rfl, rfl, trivial⟩; clear hE182
            refine p_tn ?_
            have hE184 := hE183.sub (L' := [(2, .slice imagesA images.length imagesC), (3, .pointer (some ⟨b4, 0, none⟩)), (4, .pointer (some ⟨b10, 0, none⟩)), (7, .int .i64 (fullI ap0)), (8, .int .i64 (fullI bp0)), (9, .int .i64 x9), (53, .bool (!decide ((gI images (gI ap1 x9)) = (gI bp1 (gI images x9)))))]) ⟨rfl, rfl, rfl, rfl, rfl, rfl, rfl, trivial⟩
            have hS185 := (St.pick (Γ' := [.rd 1 bp1A bp1.length bp1C bp1, .blk b10 #[.int .i64 bp0, .slice bp1A bp1.length bp1C] 43, .rd 1 ap1A ap1.length ap1C ap1, .blk b4 #[.int .i64 ap0, .slice ap1A ap1.length ap1C] 43, .rd 1 imagesA images.length imagesC images]) hS72 [3, 0, 4, 1, 2] (by decide) rfl)
            exact ⟨(by rw [hb101]; exact hE184), hS185⟩
        ·
          rintro a186 w187 ⟨hE188, hS189⟩; clear hE69 hS54
          refine c_cond hE188 rfl (fun ht190 => ?_) (fun ht190 => ?_)
          ·
            have hE191 := hE188; rw [ht190] at hE191; clear hE188
            refine c_seq ?_
            refine c_reg ?_
            refine q_step (v := .bool false) hE191 (y_assign rfl) rfl rfl rfl ?_; intro a192 hE193; clear hE191
            refine c_nil ?_
            have hE194 := hE193.sub (L' := [(6, .bool false)]) ⟨rfl, trivial⟩; clear hE193
            refine p_tn ?_
            refine wp_ret ?_
            refine p_tr ?_
            refine p_br ?_
            refine p_tr ?_
            have hX195 : F_l15Keeps_L1 ap0 ap1 bp0 bp1 images (Int.toNat ((fullI ap0) + 1 - 0) + 1) 0 = .error false := hT55.symm.trans (show F_l15Keeps_L1b ap0 ap1 bp0 bp1 images (F_l15Keeps_L1 ap0 ap1 bp0 bp1 images r59) x9 = .error false by unfold F_l15Keeps_L1b; rw [ht190, ht67]; first | done | rfl)
            refine p_tr (p_br (p_tr ?_))
            refine p_tr ?_
            have hF : F_l15Keeps ap0 ap1 bp0 bp1 images = false := by unfold F_l15Keeps; rw [hX195]; first | done | rfl
            refine c_ret1 hE194 rfl rfl ?_
            exact ⟨(by rw [hF]; first | done | rfl), hS189.ext⟩
          ·
            obtain ⟨ht196, ht197⟩ := bor_f ht190
            have ht198 := bn_f ht196
            have hp199 := of_decide_eq_true ht198
            have ht200 := bn_f ht197
            have hp201 := of_decide_eq_true ht200
            have hE202 := hE188; rw [ht190] at hE202; clear hE188
            refine wp_skip ?_
            refine p_tn ?_
            refine c_seq ?_
            refine c_reg ?_
            refine q_step (v := .int .i64 0) hE202 (y_assign rfl) rfl rfl rfl ?_; intro a203 hE204; clear hE202
            refine c_nil ?_
            have hE205 := hE204.sub (L' := [(2, .slice imagesA images.length imagesC), (3, .pointer (some ⟨b4, 0, none⟩)), (4, .pointer (some ⟨b10, 0, none⟩)), (7, .int .i64 (fullI ap0)), (8, .int .i64 (fullI bp0)), (9, .int .i64 x9), (10, .int .i64 0)]) ⟨rfl, rfl, rfl, rfl, rfl, rfl, rfl, trivial⟩; clear hE204
            refine p_tn ?_
            refine c_cut1 (fun a' w' => isOk (F_l15Keeps_L2 images x9 (Int.toNat (x9 - 0) + 1) 0) = true ∧ (0 ≤ (okD (F_l15Keeps_L2 images x9 (Int.toNat (x9 - 0) + 1) 0))) ∧ ((okD (F_l15Keeps_L2 images x9 (Int.toNat (x9 - 0) + 1) 0)) ≤ x9) ∧ E a' 75 [(2, .slice imagesA images.length imagesC), (3, .pointer (some ⟨b4, 0, none⟩)), (4, .pointer (some ⟨b10, 0, none⟩)), (7, .int .i64 (fullI ap0)), (8, .int .i64 (fullI bp0)), (9, .int .i64 x9), (10, .int .i64 (okD (F_l15Keeps_L2 images x9 (Int.toNat (x9 - 0) + 1) 0)))] ∧ St w w' [.rd 1 bp1A bp1.length bp1C bp1, .blk b10 #[.int .i64 bp0, .slice bp1A bp1.length bp1C] 43, .rd 1 ap1A ap1.length ap1C ap1, .blk b4 #[.int .i64 ap0, .slice ap1A ap1.length ap1C] 43, .rd 1 imagesA images.length imagesC images]) ?_ ?_
            ·
              refine wp_block ?_
              refine c_loop (fun r a' w' => ∃ y10L2 : Int, F_l15Keeps_L2 images x9 r y10L2 = F_l15Keeps_L2 images x9 (Int.toNat (x9 - 0) + 1) 0 ∧ Int.toNat (x9 - y10L2) < r ∧ (0 ≤ y10L2) ∧ (y10L2 ≤ x9) ∧ E a' 75 [(2, .slice imagesA images.length imagesC), (3, .pointer (some ⟨b4, 0, none⟩)), (4, .pointer (some ⟨b10, 0, none⟩)), (7, .int .i64 (fullI ap0)), (8, .int .i64 (fullI bp0)), (9, .int .i64 x9), (10, .int .i64 y10L2)] ∧ St w w' [.rd 1 bp1A bp1.length bp1C bp1, .blk b10 #[.int .i64 bp0, .slice bp1A bp1.length bp1C] 43, .rd 1 ap1A ap1.length ap1C ap1, .blk b4 #[.int .i64 ap0, .slice ap1A ap1.length ap1C] 43, .rd 1 imagesA images.length imagesC images]) (r := (Int.toNat (x9 - 0) + 1)) ?_ ?_
              · exact ⟨0, rfl, Nat.lt_succ_self _, (by first | omega | (simp only [List.length_append, List.length_cons, List.length_nil, sI_len, cond_true, cond_false]; omega) | (simp only [List.length_append, List.length_cons, List.length_nil, sI_len, cond_eq_ite, apply_ite List.length]; split <;> simp only [List.length_append, List.length_cons, List.length_nil, sI_len] <;> omega) | grind), (by first | omega | (simp only [List.length_append, List.length_cons, List.length_nil, sI_len, cond_true, cond_false]; omega) | (simp only [List.length_append, List.length_cons, List.length_nil, sI_len, cond_eq_ite, apply_ite List.length]; split <;> simp only [List.length_append, List.length_cons, List.length_nil, sI_len] <;> omega) | grind), (hE205.sub (L' := [(2, .slice imagesA images.length imagesC), (3, .pointer (some ⟨b4, 0, none⟩)), (4, .pointer (some ⟨b10, 0, none⟩)), (7, .int .i64 (fullI ap0)), (8, .int .i64 (fullI bp0)), (9, .int .i64 x9), (10, .int .i64 0)]) ⟨rfl, rfl, rfl, rfl, rfl, rfl, rfl, trivial⟩), (St.pick (Γ' := [.rd 1 bp1A bp1.length bp1C bp1, .blk b10 #[.int .i64 bp0, .slice bp1A bp1.length bp1C] 43, .rd 1 ap1A ap1.length ap1C ap1, .blk b4 #[.int .i64 ap0, .slice ap1A ap1.length ap1C] 43, .rd 1 imagesA images.length imagesC images]) hS189 [0, 1, 2, 3, 4] (by decide) rfl)⟩
              ·
                clear hE205 hS189
                rintro r215 a207 w208 ⟨y10L2, hT211, hr212, hi213, hi214, hE209, hS210⟩
                obtain ⟨r215, rfl⟩ : ∃ r', r215 = r' + 1 := ⟨r215 - 1, by omega⟩
                have hand := andI_le (m := x9) (k := y10L2) (by omega) (by omega) (by omega) (by omega)
                refine c_seq ?_
                refine c_seq ?_
                refine c_reg ?_
                refine q_step (v := .int .i64 y10L2) hE209 (y_move rfl) rfl rfl rfl ?_; intro a216 hE217; clear hE209
                refine q_step (v := .int .i64 x9) hE217 (y_move rfl) rfl rfl rfl ?_; intro a218 hE219; clear hE217
                refine q_step (v := .bool (decide (y10L2 < x9))) hE219 (y_lss rfl rfl) rfl rfl rfl ?_; intro a220 hE221; clear hE219
                refine c_nil ?_
                have hE222 := hE221.sub (L' := [(2, .slice imagesA images.length imagesC), (3, .pointer (some ⟨b4, 0, none⟩)), (4, .pointer (some ⟨b10, 0, none⟩)), (7, .int .i64 (fullI ap0)), (8, .int .i64 (fullI bp0)), (9, .int .i64 x9), (10, .int .i64 y10L2), (56, .bool (decide (y10L2 < x9)))]) ⟨rfl, rfl, rfl, rfl, rfl, rfl, rfl, rfl, trivial⟩; clear hE221
                refine p_tn ?_
                refine c_cond hE222 rfl (fun ht223 => ?_) (fun ht223 => ?_)
                ·
                  have hp224 := of_decide_eq_true ht223
                  have hE225 := hE222; rw [ht223] at hE225; clear hE222
                  refine wp_skip ?_
                  refine p_tn ?_
                  refine c_seq ?_
                  refine wp_block ?_
                  refine c_seq ?_
                  refine d_start (fun w' => w'.cell? (adr imagesA (Int.toNat (andI x9 y10L2))) = some (.int .i64 (gI images (andI x9 y10L2))) ∧ w'.cell? (adr imagesA (Int.toNat x9)) = some (.int .i64 (gI images x9)) ∧ w'.cell? (adr imagesA (Int.toNat y10L2)) = some (.int .i64 (gI images y10L2)) ∧ True) [5, 9, 13] 16 (by kernel_rfl) rfl ?_
                  intro w226 he227; have hS228 := St.go hS210 he227; clear hS210
                  refine d_pure (v := .slice imagesA images.length imagesC) 0 rfl hE225 (y_move rfl) rfl (by kernel_rfl) (by kernel_rfl) (by kernel_rfl) rfl rfl (fun _ _ _ h => h) ?_; intro a229 hE230; clear hE225
                  refine d_pure (v := .int .i64 x9) 1 rfl hE230 (y_move rfl) rfl (by kernel_rfl) (by kernel_rfl) (by kernel_rfl) rfl rfl (fun _ _ _ h => h) ?_; intro a231 hE232; clear hE230
                  refine d_pure (v := .int .i64 y10L2) 2 rfl hE232 (y_move rfl) rfl (by kernel_rfl) (by kernel_rfl) (by kernel_rfl) rfl rfl (fun _ _ _ h => h) ?_; intro a233 hE234; clear hE232
                  refine d_pure (v := .int .i64 (andI x9 y10L2)) 3 rfl hE234 (y_and rfl rfl) rfl (by kernel_rfl) (by kernel_rfl) (by kernel_rfl) rfl rfl (fun _ _ _ h => h) ?_; intro a235 hE236; clear hE234
                  refine d_pure (v := .pointer (some (adr imagesA (Int.toNat (andI x9 y10L2))))) 4 rfl hE236 (y_idx (by kernel_rfl) (fun _ => by kernel_rfl) rfl rfl (RdS.isS (m := andI x9 y10L2) (St.rdR (i := 4) hS228 rfl) (by omega) (by omega)) (by omega) (by omega) (Nat.mul_one _).symm) rfl (by kernel_rfl) (by kernel_rfl) (by kernel_rfl) rfl rfl (fun _ _ _ h => h) ?_; intro a237 hE238; clear hE236
                  refine d_take (v := .int .i64 (gI images (andI x9 y10L2))) 5 rfl hE238 ⟨(RdS.elt (St.rdR (i := 4) hS228 rfl) (by omega) (by omega) _ (Ext.refl _)), (RdS.elt (St.rdR (i := 4) hS228 rfl) (by omega) (by omega) _ (Ext.refl _)), (RdS.elt (St.rdR (i := 4) hS228 rfl) (by omega) (by omega) _ (Ext.refl _)), trivial⟩ (y_load (fun _ => by kernel_rfl) rfl (fun _ h => h.1)) rfl rfl (by kernel_rfl) (by kernel_rfl) (by kernel_rfl) rfl rfl (fun _ _ _ h => h) ?_; intro a239 hE240; clear hE238
                  refine d_pure (v := .slice imagesA images.length imagesC) 6 rfl hE240 (y_move rfl) rfl (by kernel_rfl) (by kernel_rfl) (by kernel_rfl) rfl rfl (fun _ _ _ h => h) ?_; intro a241 hE242; clear hE240
                  refine d_pure (v := .int .i64 x9) 7 rfl hE242 (y_move rfl) rfl (by kernel_rfl) (by kernel_rfl) (by kernel_rfl) rfl rfl (fun _ _ _ h => h) ?_; intro a243 hE244; clear hE242
                  refine d_pure (v := .pointer (some (adr imagesA (Int.toNat x9)))) 8 rfl hE244 (y_idx (by kernel_rfl) (fun _ => by kernel_rfl) rfl rfl (RdS.isS (m := x9) (St.rdR (i := 4) hS228 rfl) (by omega) (by omega)) (by omega) (by omega) (Nat.mul_one _).symm) rfl (by kernel_rfl) (by kernel_rfl) (by kernel_rfl) rfl rfl (fun _ _ _ h => h) ?_; intro a245 hE246; clear hE244
                  refine d_take (v := .int .i64 (gI images x9)) 9 rfl hE246 ⟨(RdS.elt (St.rdR (i := 4) hS228 rfl) (by omega) (by omega) _ (Ext.refl _)), (RdS.elt (St.rdR (i := 4) hS228 rfl) (by omega) (by omega) _ (Ext.refl _)), (RdS.elt (St.rdR (i := 4) hS228 rfl) (by omega) (by omega) _ (Ext.refl _)), trivial⟩ (y_load (fun _ => by kernel_rfl) rfl (fun _ h => h.2.1)) rfl rfl (by kernel_rfl) (by kernel_rfl) (by kernel_rfl) rfl rfl (fun _ _ _ h => h) ?_; intro a247 hE248; clear hE246
                  refine d_pure (v := .slice imagesA images.length imagesC) 10 rfl hE248 (y_move rfl) rfl (by kernel_rfl) (by kernel_rfl) (by kernel_rfl) rfl rfl (fun _ _ _ h => h) ?_; intro a249 hE250; clear hE248
                  refine d_pure (v := .int .i64 y10L2) 11 rfl hE250 (y_move rfl) rfl (by kernel_rfl) (by kernel_rfl) (by kernel_rfl) rfl rfl (fun _ _ _ h => h) ?_; intro a251 hE252; clear hE250
                  refine d_pure (v := .pointer (some (adr imagesA (Int.toNat y10L2)))) 12 rfl hE252 (y_idx (by kernel_rfl) (fun _ => by kernel_rfl) rfl rfl (RdS.isS (m := y10L2) (St.rdR (i := 4) hS228 rfl) (by omega) (by omega)) (by omega) (by omega) (Nat.mul_one _).symm) rfl (by kernel_rfl) (by kernel_rfl) (by kernel_rfl) rfl rfl (fun _ _ _ h => h) ?_; intro a253 hE254; clear hE252
                  refine d_take (v := .int .i64 (gI images y10L2)) 13 rfl hE254 ⟨(RdS.elt (St.rdR (i := 4) hS228 rfl) (by omega) (by omega) _ (Ext.refl _)), (RdS.elt (St.rdR (i := 4) hS228 rfl) (by omega) (by omega) _ (Ext.refl _)), (RdS.elt (St.rdR (i := 4) hS228 rfl) (by omega) (by omega) _ (Ext.refl _)), trivial⟩ (y_load (fun _ => by kernel_rfl) rfl (fun _ h => h.2.2.1)) rfl rfl (by kernel_rfl) (by kernel_rfl) (by kernel_rfl) rfl rfl (fun _ _ _ h => h) ?_; intro a255 hE256; clear hE254
                  refine d_pure (v := .int .i64 (andI (gI images x9) (gI images y10L2))) 14 rfl hE256 (y_and rfl rfl) rfl (by kernel_rfl) (by kernel_rfl) (by kernel_rfl) rfl rfl (fun _ _ _ h => h) ?_; intro a257 hE258; clear hE256
                  refine d_pure (v := .bool (!decide ((gI images (andI x9 y10L2)) = (andI (gI images x9) (gI images y10L2))))) 15 rfl hE258 (y_neq rfl rfl) rfl (by kernel_rfl) (by kernel_rfl) (by kernel_rfl) rfl rfl (fun _ _ _ h => h) ?_; intro a259 hE260; clear hE258
                  refine d_done (by kernel_rfl) ?_
                  have hE261 := hE260.sub (L' := [(2, .slice imagesA images.length imagesC), (3, .pointer (some ⟨b4, 0, none⟩)), (4, .pointer (some ⟨b10, 0, none⟩)), (7, .int .i64 (fullI ap0)), (8, .int .i64 (fullI bp0)), (9, .int .i64 x9), (10, .int .i64 y10L2), (74, .bool (!decide ((gI images (andI x9 y10L2)) = (andI (gI images x9) (gI images y10L2)))))]) ⟨rfl, rfl, rfl, rfl, rfl, rfl, rfl, rfl, trivial⟩; clear hE260
                  refine p_tn ?_
                  refine c_cond hE261 rfl (fun ht262 => ?_) (fun ht262 => ?_)
                  ·
                    have ht263 := bn_t ht262
                    have hp264 := of_decide_eq_false ht263
                    have hE265 := hE261; rw [ht262] at hE265; clear hE261
                    refine c_seq ?_
                    refine c_reg ?_
                    refine q_step (v := .bool false) hE265 (y_assign rfl) rfl rfl rfl ?_; intro a266 hE267; clear hE265
                    refine c_nil ?_
                    have hE268 := hE267.sub (L' := [(6, .bool false)]) ⟨rfl, trivial⟩; clear hE267
                    refine p_tn ?_
                    refine wp_ret ?_
                    refine p_br ?_
                    refine p_tr ?_
                    have hX269 : F_l15Keeps_L2 images x9 (Int.toNat (x9 - 0) + 1) 0 = .error false := hT211.symm.trans (show F_l15Keeps_L2b images x9 (F_l15Keeps_L2 images x9 r215) y10L2 = .error false by unfold F_l15Keeps_L2b; rw [ht262, ht223]; first | done | rfl)
                    refine p_tr (p_br (p_tr ?_))
                    refine p_br ?_
                    refine p_tr ?_
                    have hX270 : F_l15Keeps_L1 ap0 ap1 bp0 bp1 images (Int.toNat ((fullI ap0) + 1 - 0) + 1) 0 = .error false := hT55.symm.trans (show F_l15Keeps_L1b ap0 ap1 bp0 bp1 images (F_l15Keeps_L1 ap0 ap1 bp0 bp1 images r59) x9 = .error false by unfold F_l15Keeps_L1b; rw [hX269, ht190, ht67]; first | done | rfl)
                    refine p_tr (p_br (p_tr ?_))
                    refine p_tr ?_
                    have hF : F_l15Keeps ap0 ap1 bp0 bp1 images = false := by unfold F_l15Keeps; rw [hX270]; first | done | rfl
                    refine c_ret1 hE268 rfl rfl ?_
                    exact ⟨(by rw [hF]; first | done | rfl), hS228.ext⟩
                  ·
                    have ht271 := bn_f ht262
                    have hp272 := of_decide_eq_true ht271
                    have hE273 := hE261; rw [ht262] at hE273; clear hE261
                    refine wp_skip ?_
                    refine p_bn ?_
                    refine p_tn ?_
                    refine c_reg ?_
                    refine q_step (v := .int .i64 y10L2) hE273 (y_move rfl) rfl rfl rfl ?_; intro a274 hE275; clear hE273
                    refine q_step (v := .int .i64 (y10L2 + 1)) hE275 (y_add rfl rfl ⟨(by omega), (by omega)⟩) rfl rfl rfl ?_; intro a276 hE277; clear hE275
                    refine q_step (v := .int .i64 (y10L2 + 1)) hE277 (y_assign rfl) rfl rfl rfl ?_; intro a278 hE279; clear hE277
                    refine c_nil ?_
                    have hE280 := hE279.sub (L' := [(2, .slice imagesA images.length imagesC), (3, .pointer (some ⟨b4, 0, none⟩)), (4, .pointer (some ⟨b10, 0, none⟩)), (7, .int .i64 (fullI ap0)), (8, .int .i64 (fullI bp0)), (9, .int .i64 x9), (10, .int .i64 (y10L2 + 1))]) ⟨rfl, rfl, rfl, rfl, rfl, rfl, rfl, trivial⟩; clear hE279
                    refine p_tn ⟨r215, Nat.lt_succ_self _, y10L2 + 1, (hT211.symm.trans (show F_l15Keeps_L2b images x9 (F_l15Keeps_L2 images x9 r215) y10L2 = F_l15Keeps_L2 images x9 r215 (y10L2 + 1) by unfold F_l15Keeps_L2b; rw [ht262, ht223]; first | done | rfl)).symm, (by omega), (by first | omega | (simp only [List.length_append, List.length_cons, List.length_nil, sI_len, cond_true, cond_false]; omega) | (simp only [List.length_append, List.length_cons, List.length_nil, sI_len, cond_eq_ite, apply_ite List.length]; split <;> simp only [List.length_append, List.length_cons, List.length_nil, sI_len] <;> omega) | grind), (by first | omega | (simp only [List.length_append, List.length_cons, List.length_nil, sI_len, cond_true, cond_false]; omega) | (simp only [List.length_append, List.length_cons, List.length_nil, sI_len, cond_eq_ite, apply_ite List.length]; split <;> simp only [List.length_append, List.length_cons, List.length_nil, sI_len] <;> omega) | grind), (hE280.sub (L' := [(2, .slice imagesA images.length imagesC), (3, .pointer (some ⟨b4, 0, none⟩)), (4, .pointer (some ⟨b10, 0, none⟩)), (7, .int .i64 (fullI ap0)), (8, .int .i64 (fullI bp0)), (9, .int .i64 x9), (10, .int .i64 (y10L2 + 1))]) ⟨rfl, rfl, rfl, rfl, rfl, rfl, rfl, trivial⟩), (St.pick (Γ' := [.rd 1 bp1A bp1.length bp1C bp1, .blk b10 #[.int .i64 bp0, .slice bp1A bp1.length bp1C] 43, .rd 1 ap1A ap1.length ap1C ap1, .blk b4 #[.int .i64 ap0, .slice ap1A ap1.length ap1C] 43, .rd 1 imagesA images.length imagesC images]) hS228 [0, 1, 2, 3, 4] (by decide) rfl)⟩
                ·
                  have hp281 := of_decide_eq_false ht223
                  have hE282 := hE222; rw [ht223] at hE282; clear hE222
                  refine wp_exit ?_
                  refine p_te ?_
                  have hX283 : F_l15Keeps_L2 images x9 (Int.toNat (x9 - 0) + 1) 0 = .ok y10L2 := hT211.symm.trans (show F_l15Keeps_L2b images x9 (F_l15Keeps_L2 images x9 r215) y10L2 = .ok y10L2 by unfold F_l15Keeps_L2b; rw [ht223]; first | done | rfl)
                  refine p_te (p_be (p_tn ?_))
                  exact ⟨(by rw [hX283]; rfl), (by rw [hX283]; exact (show 0 ≤ y10L2 from (by first | omega | (simp only [List.length_append, List.length_cons, List.length_nil, sI_len, cond_true, cond_false]; omega) | (simp only [List.length_append, List.length_cons, List.length_nil, sI_len, cond_eq_ite, apply_ite List.length]; split <;> simp only [List.length_append, List.length_cons, List.length_nil, sI_len] <;> omega) | grind))), (by rw [hX283]; exact (show y10L2 ≤ x9 from (by first | omega | (simp only [List.length_append, List.length_cons, List.length_nil, sI_len, cond_true, cond_false]; omega) | (simp only [List.length_append, List.length_cons, List.length_nil, sI_len, cond_eq_ite, apply_ite List.length]; split <;> simp only [List.length_append, List.length_cons, List.length_nil, sI_len] <;> omega) | grind))), (by rw [hX283]; exact (hE282.sub (L' := [(2, .slice imagesA images.length imagesC), (3, .pointer (some ⟨b4, 0, none⟩)), (4, .pointer (some ⟨b10, 0, none⟩)), (7, .int .i64 (fullI ap0)), (8, .int .i64 (fullI bp0)), (9, .int .i64 x9), (10, .int .i64 y10L2)]) ⟨rfl, rfl, rfl, rfl, rfl, rfl, rfl, trivial⟩)), (St.pick (Γ' := [.rd 1 bp1A bp1.length bp1C bp1, .blk b10 #[.int .i64 bp0, .slice bp1A bp1.length bp1C] 43, .rd 1 ap1A ap1.length ap1C ap1, .blk b4 #[.int .i64 ap0, .slice ap1A ap1.length ap1C] 43, .rd 1 imagesA images.length imagesC images]) hS210 [0, 1, 2, 3, 4] (by decide) rfl)⟩
            ·
              rintro a284 w285 ⟨hO288, hi289, hi290, hE286, hS287⟩; clear hE205 hS189
              refine p_bn ?_
              refine p_tn ?_
              refine c_reg ?_
              refine q_step (v := .int .i64 x9) hE286 (y_move rfl) rfl rfl rfl ?_; intro a291 hE292; clear hE286
              refine q_step (v := .int .i64 (x9 + 1)) hE292 (y_add rfl rfl ⟨(by omega), (by omega)⟩) rfl rfl rfl ?_; intro a293 hE294; clear hE292
              refine q_step (v := .int .i64 (x9 + 1)) hE294 (y_assign rfl) rfl rfl rfl ?_; intro a295 hE296; clear hE294
              refine c_nil ?_
              have hE297 := hE296.sub (L' := [(2, .slice imagesA images.length imagesC), (3, .pointer (some ⟨b4, 0, none⟩)), (4, .pointer (some ⟨b10, 0, none⟩)), (7, .int .i64 (fullI ap0)), (8, .int .i64 (fullI bp0)), (9, .int .i64 (x9 + 1))]) ⟨rfl, rfl, rfl, rfl, rfl, rfl, trivial⟩; clear hE296
              refine p_tn ⟨r59, Nat.lt_succ_self _, x9 + 1, (hT55.symm.trans (show F_l15Keeps_L1b ap0 ap1 bp0 bp1 images (F_l15Keeps_L1 ap0 ap1 bp0 bp1 images r59) x9 = F_l15Keeps_L1 ap0 ap1 bp0 bp1 images r59 (x9 + 1) by unfold F_l15Keeps_L1b; rw [hO288, ht190, ht67]; first | done | rfl)).symm, (by omega), (by first | omega | (simp only [List.length_append, List.length_cons, List.length_nil, sI_len, cond_true, cond_false]; omega) | (simp only [List.length_append, List.length_cons, List.length_nil, sI_len, cond_eq_ite, apply_ite List.length]; split <;> simp only [List.length_append, List.length_cons, List.length_nil, sI_len] <;> omega) | grind), (by first | omega | (simp only [List.length_append, List.length_cons, List.length_nil, sI_len, cond_true, cond_false]; omega) | (simp only [List.length_append, List.length_cons, List.length_nil, sI_len, cond_eq_ite, apply_ite List.length]; split <;> simp only [List.length_append, List.length_cons, List.length_nil, sI_len] <;> omega) | grind), (hE297.sub (L' := [(2, .slice imagesA images.length imagesC), (3, .pointer (some ⟨b4, 0, none⟩)), (4, .pointer (some ⟨b10, 0, none⟩)), (7, .int .i64 (fullI ap0)), (8, .int .i64 (fullI bp0)), (9, .int .i64 (x9 + 1))]) ⟨rfl, rfl, rfl, rfl, rfl, rfl, trivial⟩), (St.pick (Γ' := [.blk b10 #[.int .i64 bp0, .slice bp1A bp1.length bp1C] 43, .blk b4 #[.int .i64 ap0, .slice ap1A ap1.length ap1C] 43, .rd 1 imagesA images.length imagesC images, .rd 1 bp1A bp1.length bp1C bp1, .rd 1 ap1A ap1.length ap1C ap1]) hS287 [1, 3, 4, 0, 2] (by decide) rfl)⟩
      ·
        have hp298 := of_decide_eq_false ht67
        have hE299 := hE66; rw [ht67] at hE299; clear hE66
        refine wp_exit ?_
        refine p_te ?_
        have hX300 : F_l15Keeps_L1 ap0 ap1 bp0 bp1 images (Int.toNat ((fullI ap0) + 1 - 0) + 1) 0 = .ok x9 := hT55.symm.trans (show F_l15Keeps_L1b ap0 ap1 bp0 bp1 images (F_l15Keeps_L1 ap0 ap1 bp0 bp1 images r59) x9 = .ok x9 by unfold F_l15Keeps_L1b; rw [ht67]; first | done | rfl)
        refine p_te (p_be (p_tn ?_))
        exact ⟨(by rw [hX300]; rfl), (by rw [hX300]; exact (show 0 ≤ x9 from (by first | omega | (simp only [List.length_append, List.length_cons, List.length_nil, sI_len, cond_true, cond_false]; omega) | (simp only [List.length_append, List.length_cons, List.length_nil, sI_len, cond_eq_ite, apply_ite List.length]; split <;> simp only [List.length_append, List.length_cons, List.length_nil, sI_len] <;> omega) | grind))), (by rw [hX300]; exact (show x9 ≤ fullI ap0 + 1 from (by first | omega | (simp only [List.length_append, List.length_cons, List.length_nil, sI_len, cond_true, cond_false]; omega) | (simp only [List.length_append, List.length_cons, List.length_nil, sI_len, cond_eq_ite, apply_ite List.length]; split <;> simp only [List.length_append, List.length_cons, List.length_nil, sI_len] <;> omega) | grind))), (by rw [hX300]; exact (hE299.sub (L' := [(2, .slice imagesA images.length imagesC), (3, .pointer (some ⟨b4, 0, none⟩)), (4, .pointer (some ⟨b10, 0, none⟩)), (7, .int .i64 (fullI ap0)), (8, .int .i64 (fullI bp0)), (9, .int .i64 x9)]) ⟨rfl, rfl, rfl, rfl, rfl, rfl, trivial⟩)), (St.pick (Γ' := [.blk b10 #[.int .i64 bp0, .slice bp1A bp1.length bp1C] 43, .blk b4 #[.int .i64 ap0, .slice ap1A ap1.length ap1C] 43, .rd 1 imagesA images.length imagesC images, .rd 1 bp1A bp1.length bp1C bp1, .rd 1 ap1A ap1.length ap1C ap1]) hS54 [0, 1, 2, 3, 4] (by decide) rfl)⟩
  ·
    rintro a301 w302 ⟨hO305, hi306, hi307, hE303, hS304⟩; clear hE49 hS21
    refine p_tn ?_
    refine c_seq ?_
    refine c_reg ?_
    refine q_step (v := .bool true) hE303 (y_assign rfl) rfl rfl rfl ?_; intro a308 hE309; clear hE303
    refine c_nil ?_
    have hE310 := hE309.sub (L' := [(6, .bool true)]) ⟨rfl, trivial⟩; clear hE309
    refine p_tn ?_
    refine wp_ret ?_
    have hF : F_l15Keeps ap0 ap1 bp0 bp1 images = true := by unfold F_l15Keeps; rw [hO305]; first | done | rfl
    refine c_ret1 hE310 rfl rfl ?_
    exact ⟨(by rw [hF]; first | done | rfl), hS304.ext⟩

def F_isHomomorphism_L2b (images : List Int) (t12 : Int) (rec : Int → Except (Bool) (Int)) (t46L2 : Int) : Except (Bool) (Int) :=
  bif (decide (t46L2 < t12)) then (bif (!decide ((gI images (andI t12 t46L2)) = (andI (gI images t12) (gI images t46L2)))) then (.error false) else (rec (t46L2 + 1))) else (.ok t46L2)
def F_isHomomorphism_L2 (images : List Int) (t12 : Int) : Nat → Int → Except (Bool) (Int)
  | 0, t46L2 => .ok t46L2
  | r + 1, t46L2 => F_isHomomorphism_L2b images t12 (F_isHomomorphism_L2 images t12 r) t46L2
def F_isHomomorphism_L1b (ap0 : Int) (ap1 : List Int) (bp0 : Int) (bp1 : List Int) (images : List Int) (rec : Int → Except (Bool) (Int)) (t12 : Int) : Except (Bool) (Int) :=
  bif (decide (t12 < (images.length : Int))) then (bif ((!decide ((gI images (anI (fullI ap0) t12)) = (anI (fullI bp0) (gI images t12)))) || (!decide ((gI images (gI ap1 t12)) = (gI bp1 (gI images t12))))) then (.error false) else (bif (isOk (F_isHomomorphism_L2 images t12 (Int.toNat (t12 - 0) + 1) 0)) then (rec (t12 + 1)) else (.error (errD (F_isHomomorphism_L2 images t12 (Int.toNat (t12 - 0) + 1) 0))))) else (.ok t12)
def F_isHomomorphism_L1 (ap0 : Int) (ap1 : List Int) (bp0 : Int) (bp1 : List Int) (images : List Int) : Nat → Int → Except (Bool) (Int)
  | 0, t12 => .ok t12
  | r + 1, t12 => F_isHomomorphism_L1b ap0 ap1 bp0 bp1 images (F_isHomomorphism_L1 ap0 ap1 bp0 bp1 images r) t12
def F_isHomomorphism (ap0 : Int) (ap1 : List Int) (bp0 : Int) (bp1 : List Int) (images : List Int) : Bool :=
  bif (isOk (F_isHomomorphism_L1 ap0 ap1 bp0 bp1 images (Int.toNat ((images.length : Int) - 0) + 1) 0)) then true else (errD (F_isHomomorphism_L1 ap0 ap1 bp0 bp1 images (Int.toNat ((images.length : Int) - 0) + 1) 0))
theorem cf_isHomomorphism (args : Array Value) (w : World) : (callFunc 77 args).run Try.prog w = .ok (.enter 77 args) w := by kernel_rfl
set_option maxRecDepth 100000 in
theorem c_isHomomorphism (ap0 : Int) (ap1A : Option Addr) (ap1N ap1C : Nat) (ap1 : List Int) (bp0 : Int) (bp1A : Option Addr) (bp1N bp1C : Nat) (bp1 : List Int) (imagesA : Option Addr) (imagesN imagesC : Nat) (images : List Int) (w : World) (ap1R : RdS w 1 ap1A ap1N ap1C ap1) (bp1R : RdS w 1 bp1A bp1N bp1C bp1) (imagesR : RdS w 1 imagesA imagesN imagesC images) (ha : (0 ≤ ap0 ∧ ap0 ≤ 5) ∧ 0 ≤ fullI ap0 ∧ fullI ap0 ≤ 31) (hb : (0 ≤ bp0 ∧ bp0 ≤ 5) ∧ 0 ≤ fullI bp0 ∧ fullI bp0 ≤ 31) (hla : (ap1.length : Int) = fullI ap0 + 1) (hlb : (bp1.length : Int) = fullI bp0 + 1) (hli : (images.length : Int) = fullI ap0 + 1) (hxa : ∀ m : Int, 0 ≤ m → m < (ap1.length : Int) → 0 ≤ gI ap1 m ∧ gI ap1 m ≤ fullI ap0) (hxi : ∀ m : Int, 0 ≤ m → m < (images.length : Int) → 0 ≤ gI images m ∧ gI images m ≤ fullI bp0) :
    Calls Try.prog 77 #[.agg #[.int .i64 ap0, .slice ap1A ap1N ap1C], .agg #[.int .i64 bp0, .slice bp1A bp1N bp1C], .slice imagesA imagesN imagesC] w (Ret fun v w' => v = .bool (F_isHomomorphism ap0 ap1 bp0 bp1 images) ∧ Ext w w') := by
  obtain rfl : ap1N = ap1.length := ap1R.len1.symm
  have ap1Le := ap1R.le
  obtain rfl : bp1N = bp1.length := bp1R.len1.symm
  have bp1Le := bp1R.le
  obtain rfl : imagesN = images.length := imagesR.len1.symm
  have imagesLe := imagesR.le
  have hS := St.nil w
  have hS1 := St.rd0 hS rfl ap1R; clear hS
  have hS2 := St.rd0 hS1 rfl bp1R; clear hS1
  have hS3 := St.rd0 hS2 rfl imagesR; clear hS2
  refine enter (args := [.agg #[.int .i64 ap0, .slice ap1A ap1.length ap1C], .agg #[.int .i64 bp0, .slice bp1A bp1.length bp1C], .slice imagesA images.length imagesC]) Try.func77 rfl rfl ?_
  rw [Try.ntmps77]; intro a hE
  have hE := hE.sub (L' := [(0, .agg #[.int .i64 ap0, .slice ap1A ap1.length ap1C]), (1, .agg #[.int .i64 bp0, .slice bp1A bp1.length bp1C]), (2, .slice imagesA images.length imagesC)]) ⟨rfl, rfl, rfl, trivial⟩
  refine c_seq ?_
  refine c_reg ?_
  refine l_step hE rfl (l_box (v := .agg #[.int .i64 ap0, .slice ap1A ap1.length ap1C]) (cs := #[.int .i64 ap0, .slice ap1A ap1.length ap1C]) hS3 hE rfl rfl rfl ?_)
  intro b4 w5 hS8 he9 a6 hE7; clear hS3 hE
  refine l_step hE7 rfl (l_box (v := .agg #[.int .i64 bp0, .slice bp1A bp1.length bp1C]) (cs := #[.int .i64 bp0, .slice bp1A bp1.length bp1C]) hS8 hE7 rfl rfl rfl ?_)
  intro b10 w11 hS14 he15 a12 hE13; clear hS8 hE7
  refine q_step (v := .bool false) hE13 (y_assign rfl) rfl rfl rfl ?_; intro a16 hE17; clear hE13
  refine c_nil ?_
  have hE18 := hE17.sub (L' := [(2, .slice imagesA images.length imagesC), (3, .pointer (some ⟨b4, 0, none⟩)), (4, .pointer (some ⟨b10, 0, none⟩))]) ⟨rfl, rfl, rfl, trivial⟩; clear hE17
  refine p_tn ?_
  refine c_seq ?_
  refine c_seq ?_
  refine c_reg ?_
  refine q_step (v := .slice imagesA images.length imagesC) hE18 (y_move rfl) rfl rfl rfl ?_; intro a19 hE20; clear hE18
  refine q_step (v := .int .i64 (images.length : Int)) hE20 (y_len (e := 2) (by kernel_rfl) rfl) rfl rfl rfl ?_; intro a21 hE22; clear hE20
  refine q_step (v := .int .i64 0) hE22 (y_move rfl) rfl rfl rfl ?_; intro a23 hE24; clear hE22
  refine c_nil ?_
  have hE25 := hE24.sub (L' := [(2, .slice imagesA images.length imagesC), (3, .pointer (some ⟨b4, 0, none⟩)), (4, .pointer (some ⟨b10, 0, none⟩)), (10, .slice imagesA images.length imagesC), (11, .int .i64 (images.length : Int)), (12, .int .i64 0)]) ⟨rfl, rfl, rfl, rfl, rfl, rfl, trivial⟩; clear hE24
  refine p_tn ?_
  refine c_cut1 (fun a' w' => isOk (F_isHomomorphism_L1 ap0 ap1 bp0 bp1 images (Int.toNat ((images.length : Int) - 0) + 1) 0) = true ∧ (0 ≤ (okD (F_isHomomorphism_L1 ap0 ap1 bp0 bp1 images (Int.toNat ((images.length : Int) - 0) + 1) 0))) ∧ ((okD (F_isHomomorphism_L1 ap0 ap1 bp0 bp1 images (Int.toNat ((images.length : Int) - 0) + 1) 0)) ≤ (images.length : Int)) ∧ E a' 64 [(2, .slice imagesA images.length imagesC), (3, .pointer (some ⟨b4, 0, none⟩)), (4, .pointer (some ⟨b10, 0, none⟩)), (10, .slice imagesA images.length imagesC), (11, .int .i64 (images.length : Int)), (12, .int .i64 (okD (F_isHomomorphism_L1 ap0 ap1 bp0 bp1 images (Int.toNat ((images.length : Int) - 0) + 1) 0)))] ∧ St w w' [.blk b10 #[.int .i64 bp0, .slice bp1A bp1.length bp1C] 43, .blk b4 #[.int .i64 ap0, .slice ap1A ap1.length ap1C] 43, .rd 1 imagesA images.length imagesC images, .rd 1 bp1A bp1.length bp1C bp1, .rd 1 ap1A ap1.length ap1C ap1]) ?_ ?_
  ·
    refine wp_block ?_
    refine c_loop (fun r a' w' => ∃ t12 : Int, F_isHomomorphism_L1 ap0 ap1 bp0 bp1 images r t12 = F_isHomomorphism_L1 ap0 ap1 bp0 bp1 images (Int.toNat ((images.length : Int) - 0) + 1) 0 ∧ Int.toNat ((images.length : Int) - t12) < r ∧ (0 ≤ t12) ∧ (t12 ≤ (images.length : Int)) ∧ E a' 64 [(2, .slice imagesA images.length imagesC), (3, .pointer (some ⟨b4, 0, none⟩)), (4, .pointer (some ⟨b10, 0, none⟩)), (10, .slice imagesA images.length imagesC), (11, .int .i64 (images.length : Int)), (12, .int .i64 t12)] ∧ St w w' [.blk b10 #[.int .i64 bp0, .slice bp1A bp1.length bp1C] 43, .blk b4 #[.int .i64 ap0, .slice ap1A ap1.length ap1C] 43, .rd 1 imagesA images.length imagesC images, .rd 1 bp1A bp1.length bp1C bp1, .rd 1 ap1A ap1.length ap1C ap1]) (r := (Int.toNat ((images.length : Int) - 0) + 1)) ?_ ?_
    · exact ⟨0, rfl, Nat.lt_succ_self _, (by first | omega | (simp only [List.length_append, List.length_cons, List.length_nil, sI_len, cond_true, cond_false]; omega) | (simp only [List.length_append, List.length_cons, List.length_nil, sI_len, cond_eq_ite, apply_ite List.length]; split <;> simp only [List.length_append, List.length_cons, List.length_nil, sI_len] <;> omega) | grind), (by first | omega | (simp only [List.length_append, List.length_cons, List.length_nil, sI_len, cond_true, cond_false]; omega) | (simp only [List.length_append, List.length_cons, List.length_nil, sI_len, cond_eq_ite, apply_ite List.length]; split <;> simp only [List.length_append, List.length_cons, List.length_nil, sI_len] <;> omega) | grind), (hE25.sub (L' := [(2, .slice imagesA images.length imagesC), (3, .pointer (some ⟨b4, 0, none⟩)), (4, .pointer (some ⟨b10, 0, none⟩)), (10, .slice imagesA images.length imagesC), (11, .int .i64 (images.length : Int)), (12, .int .i64 0)]) ⟨rfl, rfl, rfl, rfl, rfl, rfl, trivial⟩), (St.pick (Γ' := [.blk b10 #[.int .i64 bp0, .slice bp1A bp1.length bp1C] 43, .blk b4 #[.int .i64 ap0, .slice ap1A ap1.length ap1C] 43, .rd 1 imagesA images.length imagesC images, .rd 1 bp1A bp1.length bp1C bp1, .rd 1 ap1A ap1.length ap1C ap1]) hS14 [0, 1, 2, 3, 4] (by decide) rfl)⟩
    ·
      clear hE25 hS14
      rintro r35 a27 w28 ⟨t12, hT31, hr32, hi33, hi34, hE29, hS30⟩
      obtain ⟨r35, rfl⟩ : ∃ r', r35 = r' + 1 := ⟨r35 - 1, by omega⟩
      refine c_seq ?_
      refine c_reg ?_
      refine q_step (v := .bool (decide (t12 < (images.length : Int)))) hE29 (y_lss rfl rfl) rfl rfl rfl ?_; intro a36 hE37; clear hE29
      refine c_nil ?_
      have hE38 := hE37.sub (L' := [(2, .slice imagesA images.length imagesC), (3, .pointer (some ⟨b4, 0, none⟩)), (4, .pointer (some ⟨b10, 0, none⟩)), (10, .slice imagesA images.length imagesC), (11, .int .i64 (images.length : Int)), (12, .int .i64 t12), (13, .bool (decide (t12 < (images.length : Int))))]) ⟨rfl, rfl, rfl, rfl, rfl, rfl, rfl, trivial⟩; clear hE37
      refine p_tn ?_
      refine c_seq ?_
      refine c_cond hE38 rfl (fun ht39 => ?_) (fun ht39 => ?_)
      ·
        have hp40 := of_decide_eq_true ht39
        have hE41 := hE38; rw [ht39] at hE41; clear hE38
        have hx1 := hxa t12 (by omega) (by omega)
        have hx2 := hxi t12 (by omega) (by omega)
        have hx3 := anI_le (m := fullI ap0) (k := t12) (by omega) (by omega) (by omega) (by omega)
        refine wp_skip ?_
        refine p_tn ?_
        refine c_seq ?_
        refine wp_block ?_
        refine c_seq ?_
        refine c_reg ?_
        refine q_step (v := .int .i64 t12) hE41 (y_move rfl) rfl rfl rfl ?_; intro a42 hE43; clear hE41
        refine q_step (v := .pointer (some (adr imagesA (Int.toNat t12)))) hE43 (y_idx (by kernel_rfl) (fun _ => by kernel_rfl) rfl rfl (RdS.isS (m := t12) (St.rdR (i := 2) hS30 rfl) (by omega) (by omega)) (by omega) (by omega) (Nat.mul_one _).symm) rfl rfl rfl ?_; intro a44 hE45; clear hE43
        refine q_step (v := .int .i64 (gI images t12)) hE45 (y_load (fun _ => by kernel_rfl) rfl (RdS.elt (St.rdR (i := 2) hS30 rfl) (by omega) (by omega))) rfl rfl rfl ?_; intro a46 hE47; clear hE45
        refine q_step (v := .int .i64 t12) hE47 (y_assign rfl) rfl rfl rfl ?_; intro a48 hE49; clear hE47
        refine q_step (v := .int .i64 (gI images t12)) hE49 (y_assign rfl) rfl rfl rfl ?_; intro a50 hE51; clear hE49
        refine c_nil ?_
        have hE52 := hE51.sub (L' := [(2, .slice imagesA images.length imagesC), (3, .pointer (some ⟨b4, 0, none⟩)), (4, .pointer (some ⟨b10, 0, none⟩)), (7, .int .i64 t12), (8, .int .i64 (gI images t12)), (10, .slice imagesA images.length imagesC), (11, .int .i64 (images.length : Int)), (12, .int .i64 t12)]) ⟨rfl, rfl, rfl, rfl, rfl, rfl, rfl, rfl, trivial⟩; clear hE51
        refine p_tn ?_
        refine c_seq ?_
        refine c_cut (fun a' w' => E a' 64 [(2, .slice imagesA images.length imagesC), (3, .pointer (some ⟨b4, 0, none⟩)), (4, .pointer (some ⟨b10, 0, none⟩)), (7, .int .i64 t12), (8, .int .i64 (gI images t12)), (10, .slice imagesA images.length imagesC), (11, .int .i64 (images.length : Int)), (12, .int .i64 t12), (44, .bool ((!decide ((gI images (anI (fullI ap0) t12)) = (anI (fullI bp0) (gI images t12)))) || (!decide ((gI images (gI ap1 t12)) = (gI bp1 (gI images t12))))))] ∧ St w w' [.rd 1 bp1A bp1.length bp1C bp1, .blk b10 #[.int .i64 bp0, .slice bp1A bp1.length bp1C] 43, .rd 1 ap1A ap1.length ap1C ap1, .blk b4 #[.int .i64 ap0, .slice ap1A ap1.length ap1C] 43, .rd 1 imagesA images.length imagesC images]) ?_ ?_
        ·
          refine d_start (fun w' => w'.heap[b4]? = some (.cells #[.int .i64 ap0, .slice ap1A ap1.length ap1C] 43 (0, 0)) ∧ w'.cell? (adr imagesA (Int.toNat (anI (fullI ap0) t12))) = some (.int .i64 (gI images (anI (fullI ap0) t12))) ∧ w'.heap[b10]? = some (.cells #[.int .i64 bp0, .slice bp1A bp1.length bp1C] 43 (0, 0)) ∧ w'.cell? ⟨b4, 1, none⟩ = some (.slice ap1A ap1.length ap1C) ∧ w'.cell? (adr ap1A (Int.toNat t12)) = some (.int .i64 (gI ap1 t12)) ∧ w'.cell? (adr imagesA (Int.toNat (gI ap1 t12))) = some (.int .i64 (gI images (gI ap1 t12))) ∧ w'.cell? ⟨b10, 1, none⟩ = some (.slice bp1A bp1.length bp1C) ∧ w'.cell? (adr bp1A (Int.toNat (gI images t12))) = some (.int .i64 (gI bp1 (gI images t12))) ∧ True) [1, 6, 7, 15, 18, 20, 22, 25] 28 (by kernel_rfl) rfl ?_
          intro w53 he54; have hS55 := St.go hS30 he54; clear hS30
          refine d_pure (v := .slice imagesA images.length imagesC) 0 rfl hE52 (y_move rfl) rfl (by kernel_rfl) (by kernel_rfl) (by kernel_rfl) rfl rfl (fun _ _ _ h => h) ?_; intro a56 hE57; clear hE52
          refine d_take (v := .agg #[.int .i64 ap0, .slice ap1A ap1.length ap1C]) 1 rfl hE57 ⟨(St.row (i := 1) hS55 rfl _ (Ext.refl _)), (RdS.elt (St.rdR (i := 2) hS55 rfl) (by omega) (by omega) _ (Ext.refl _)), (St.row (i := 0) hS55 rfl _ (Ext.refl _)), (St.cell (i := 1) hS55 rfl rfl _ (Ext.refl _)), (RdS.elt (St.rdR (i := 4) hS55 rfl) (by omega) (by omega) _ (Ext.refl _)), (RdS.elt (St.rdR (i := 2) hS55 rfl) (by omega) (by omega) _ (Ext.refl _)), (St.cell (i := 0) hS55 rfl rfl _ (Ext.refl _)), (RdS.elt (St.rdR (i := 3) hS55 rfl) (by omega) (by omega) _ (Ext.refl _)), trivial⟩ (y_loadS Try.underlying43 rfl (by kernel_rfl) rfl (fun _ h => h.1)) rfl rfl (by kernel_rfl) (by kernel_rfl) (by kernel_rfl) rfl rfl (fun _ _ _ h => h) ?_; intro a58 hE59; clear hE57
          refine d_pure (v := .int .i64 t12) 3 rfl hE59 (y_move rfl) rfl (by kernel_rfl) (by kernel_rfl) (by kernel_rfl) rfl rfl (fun _ _ _ h => h) ?_; intro a60 hE61; clear hE59
          refine d_take (v := .agg #[.int .i64 bp0, .slice bp1A bp1.length bp1C]) 7 rfl hE61 ⟨(St.row (i := 1) hS55 rfl _ (Ext.refl _)), (RdS.elt (St.rdR (i := 2) hS55 rfl) (by omega) (by omega) _ (Ext.refl _)), (St.row (i := 0) hS55 rfl _ (Ext.refl _)), (St.cell (i := 1) hS55 rfl rfl _ (Ext.refl _)), (RdS.elt (St.rdR (i := 4) hS55 rfl) (by omega) (by omega) _ (Ext.refl _)), (RdS.elt (St.rdR (i := 2) hS55 rfl) (by omega) (by omega) _ (Ext.refl _)), (St.cell (i := 0) hS55 rfl rfl _ (Ext.refl _)), (RdS.elt (St.rdR (i := 3) hS55 rfl) (by omega) (by omega) _ (Ext.refl _)), trivial⟩ (y_loadS Try.underlying43 rfl (by kernel_rfl) rfl (fun _ h => h.2.2.1)) rfl rfl (by kernel_rfl) (by kernel_rfl) (by kernel_rfl) rfl rfl (fun _ _ _ h => h) ?_; intro a62 hE63; clear hE61
          refine d_pure (v := .int .i64 (gI images t12)) 9 rfl hE63 (y_move rfl) rfl (by kernel_rfl) (by kernel_rfl) (by kernel_rfl) rfl rfl (fun _ _ _ h => h) ?_; intro a64 hE65; clear hE63
          refine d_only 2 (by kernel_rfl) rfl hE65 rfl (l_call (f := 78) (argv := [.agg #[.int .i64 ap0, .slice ap1A ap1.length ap1C]]) hE65 (fun _ => cf_ModalAlgebra_full _ _) rfl rfl (d_ModalAlgebra_full ap0 ap1A ap1.length ap1C ap1 w53 (St.rdR (i := 4) hS55 rfl) (by omega) (by omega)) ?_)
          rintro _ w67 ⟨rfl, he71⟩ a68 hE69; clear hE65
          have hf72 := fullI_bd (n := ap0) (by omega) (by omega)
          have hS70 := St.go hS55 he71; clear hS55
          refine ⟨fun _ _ => ⟨(St.row (i := 1) hS70 rfl _ (Ext.refl _)), (RdS.elt (St.rdR (i := 2) hS70 rfl) (by omega) (by omega) _ (Ext.refl _)), (St.row (i := 0) hS70 rfl _ (Ext.refl _)), (St.cell (i := 1) hS70 rfl rfl _ (Ext.refl _)), (RdS.elt (St.rdR (i := 4) hS70 rfl) (by omega) (by omega) _ (Ext.refl _)), (RdS.elt (St.rdR (i := 2) hS70 rfl) (by omega) (by omega) _ (Ext.refl _)), (St.cell (i := 0) hS70 rfl rfl _ (Ext.refl _)), (RdS.elt (St.rdR (i := 3) hS70 rfl) (by omega) (by omega) _ (Ext.refl _)), trivial⟩, ?_⟩
          refine d_pure (v := .int .i64 (anI (fullI ap0) t12)) 4 rfl hE69 (y_andNot rfl rfl) rfl (by kernel_rfl) (by kernel_rfl) (by kernel_rfl) rfl rfl (fun _ _ _ h => h) ?_; intro a73 hE74; clear hE69
          refine d_pure (v := .pointer (some (adr imagesA (Int.toNat (anI (fullI ap0) t12))))) 5 rfl hE74 (y_idx (by kernel_rfl) (fun _ => by kernel_rfl) rfl rfl (RdS.isS (m := anI (fullI ap0) t12) (St.rdR (i := 2) hS70 rfl) (by omega) (by omega)) (by omega) (by omega) (Nat.mul_one _).symm) rfl (by kernel_rfl) (by kernel_rfl) (by kernel_rfl) rfl rfl (fun _ _ _ h => h) ?_; intro a75 hE76; clear hE74
          refine d_take (v := .int .i64 (gI images (anI (fullI ap0) t12))) 6 rfl hE76 ⟨(St.row (i := 1) hS70 rfl _ (Ext.refl _)), (RdS.elt (St.rdR (i := 2) hS70 rfl) (by omega) (by omega) _ (Ext.refl _)), (St.row (i := 0) hS70 rfl _ (Ext.refl _)), (St.cell (i := 1) hS70 rfl rfl _ (Ext.refl _)), (RdS.elt (St.rdR (i := 4) hS70 rfl) (by omega) (by omega) _ (Ext.refl _)), (RdS.elt (St.rdR (i := 2) hS70 rfl) (by omega) (by omega) _ (Ext.refl _)), (St.cell (i := 0) hS70 rfl rfl _ (Ext.refl _)), (RdS.elt (St.rdR (i := 3) hS70 rfl) (by omega) (by omega) _ (Ext.refl _)), trivial⟩ (y_load (fun _ => by kernel_rfl) rfl (fun _ h => h.2.1)) rfl rfl (by kernel_rfl) (by kernel_rfl) (by kernel_rfl) rfl rfl (fun _ _ _ h => h) ?_; intro a77 hE78; clear hE76
          refine d_only 8 (by kernel_rfl) rfl hE78 rfl (l_call (f := 78) (argv := [.agg #[.int .i64 bp0, .slice bp1A bp1.length bp1C]]) hE78 (fun _ => cf_ModalAlgebra_full _ _) rfl rfl (d_ModalAlgebra_full bp0 bp1A bp1.length bp1C bp1 w67 (St.rdR (i := 3) hS70 rfl) (by omega) (by omega)) ?_)
          rintro _ w80 ⟨rfl, he84⟩ a81 hE82; clear hE78
          have hf85 := fullI_bd (n := bp0) (by omega) (by omega)
          have hS83 := St.go hS70 he84; clear hS70
          refine ⟨fun _ _ => ⟨(St.row (i := 1) hS83 rfl _ (Ext.refl _)), (RdS.elt (St.rdR (i := 2) hS83 rfl) (by omega) (by omega) _ (Ext.refl _)), (St.row (i := 0) hS83 rfl _ (Ext.refl _)), (St.cell (i := 1) hS83 rfl rfl _ (Ext.refl _)), (RdS.elt (St.rdR (i := 4) hS83 rfl) (by omega) (by omega) _ (Ext.refl _)), (RdS.elt (St.rdR (i := 2) hS83 rfl) (by omega) (by omega) _ (Ext.refl _)), (St.cell (i := 0) hS83 rfl rfl _ (Ext.refl _)), (RdS.elt (St.rdR (i := 3) hS83 rfl) (by omega) (by omega) _ (Ext.refl _)), trivial⟩, ?_⟩
          refine d_pure (v := .int .i64 (anI (fullI bp0) (gI images t12))) 10 rfl hE82 (y_andNot rfl rfl) rfl (by kernel_rfl) (by kernel_rfl) (by kernel_rfl) rfl rfl (fun _ _ _ h => h) ?_; intro a86 hE87; clear hE82
          refine d_pure (v := .bool (!decide ((gI images (anI (fullI ap0) t12)) = (anI (fullI bp0) (gI images t12))))) 11 rfl hE87 (y_neq rfl rfl) rfl (by kernel_rfl) (by kernel_rfl) (by kernel_rfl) rfl rfl (fun _ _ _ h => h) ?_; intro a88 hE89; clear hE87
          refine d_pure (v := .bool (!decide ((gI images (anI (fullI ap0) t12)) = (anI (fullI bp0) (gI images t12))))) 12 rfl hE89 (y_move rfl) rfl (by kernel_rfl) (by kernel_rfl) (by kernel_rfl) rfl rfl (fun _ _ _ h => h) ?_; intro a90 hE91; clear hE89
          rcases Bool.eq_false_or_eq_true (!decide ((gI images (anI (fullI ap0) t12)) = (anI (fullI bp0) (gI images t12)))) with hb92 | hb92
          ·
            have hE93 := hE91; rw [hb92] at hE93; clear hE91
            have ht94 := bn_t hb92
            have hp95 := of_decide_eq_false ht94
            refine d_skip 13 rfl hE93 rfl (by kernel_rfl) (by kernel_rfl) (by kernel_rfl) rfl rfl (fun _ _ _ h => h) ?_; intro a96 hE97; clear hE93
            refine d_skip 14 rfl hE97 rfl (by kernel_rfl) (by kernel_rfl) (by kernel_rfl) rfl rfl (fun _ _ _ h => h) ?_; intro a98 hE99; clear hE97
            refine d_skip 15 rfl hE99 rfl (by kernel_rfl) (by kernel_rfl) (by kernel_rfl) rfl rfl (fun _ _ _ h => h) ?_; intro a100 hE101; clear hE99
            refine d_skip 16 rfl hE101 rfl (by kernel_rfl) (by kernel_rfl) (by kernel_rfl) rfl rfl (fun _ _ _ h => h) ?_; intro a102 hE103; clear hE101
            refine d_skip 17 rfl hE103 rfl (by kernel_rfl) (by kernel_rfl) (by kernel_rfl) rfl rfl (fun _ _ _ h => h) ?_; intro a104 hE105; clear hE103
            refine d_skip 18 rfl hE105 rfl (by kernel_rfl) (by kernel_rfl) (by kernel_rfl) rfl rfl (fun _ _ _ h => h) ?_; intro a106 hE107; clear hE105
            refine d_skip 19 rfl hE107 rfl (by kernel_rfl) (by kernel_rfl) (by kernel_rfl) rfl rfl (fun _ _ _ h => h) ?_; intro a108 hE109; clear hE107
            refine d_skip 20 rfl hE109 rfl (by kernel_rfl) (by kernel_rfl) (by kernel_rfl) rfl rfl (fun _ _ _ h => h) ?_; intro a110 hE111; clear hE109
            refine d_skip 21 rfl hE111 rfl (by kernel_rfl) (by kernel_rfl) (by kernel_rfl) rfl rfl (fun _ _ _ h => h) ?_; intro a112 hE113; clear hE111
            refine d_skip 22 rfl hE113 rfl (by kernel_rfl) (by kernel_rfl) (by kernel_rfl) rfl rfl (fun _ _ _ h => h) ?_; intro a114 hE115; clear hE113
            refine d_skip 23 rfl hE115 rfl (by kernel_rfl) (by kernel_rfl) (by kernel_rfl) rfl rfl (fun _ _ _ h => h) ?_; intro a116 hE117; clear hE115
            refine d_skip 24 rfl hE117 rfl (by kernel_rfl) (by kernel_rfl) (by kernel_rfl) rfl rfl (fun _ _ _ h => h) ?_; intro a118 hE119; clear hE117
            refine d_skip 25 rfl hE119 rfl (by kernel_rfl) (by kernel_rfl) (by kernel_rfl) rfl rfl (fun _ _ _ h => h) ?_; intro a120 hE121; clear hE119
            refine d_skip 26 rfl hE121 rfl (by kernel_rfl) (by kernel_rfl) (by kernel_rfl) rfl rfl (fun _ _ _ h => h) ?_; intro a122 hE123; clear hE121
            refine d_pure (v := .bool true) 27 rfl hE123 (y_pick (b := true) rfl rfl) rfl (by kernel_rfl) (by kernel_rfl) (by kernel_rfl) rfl rfl (fun _ _ _ h => h) ?_; intro a124 hE125; clear hE123
            refine d_done (by kernel_rfl) ?_
            have hE126 := hE125.sub (L' := [(2, .slice imagesA images.length imagesC), (3, .pointer (some ⟨b4, 0, none⟩)), (4, .pointer (some ⟨b10, 0, none⟩)), (7, .int .i64 t12), (8, .int .i64 (gI images t12)), (10, .slice imagesA images.length imagesC), (11, .int .i64 (images.length : Int)), (12, .int .i64 t12), (44, .bool true)]) ⟨rfl, rfl, rfl, rfl, rfl, rfl, rfl, rfl, rfl, trivial⟩; clear hE125
            refine p_tn ?_
            have hE127 := hE126.sub (L' := [(2, .slice imagesA images.length imagesC), (3, .pointer (some ⟨b4, 0, none⟩)), (4, .pointer (some ⟨b10, 0, none⟩)), (7, .int .i64 t12), (8, .int .i64 (gI images t12)), (10, .slice imagesA images.length imagesC), (11, .int .i64 (images.length : Int)), (12, .int .i64 t12), (44, .bool true)]) ⟨rfl, rfl, rfl, rfl, rfl, rfl, rfl, rfl, rfl, trivial⟩
            have hS128 := (St.pick (Γ' := [.rd 1 bp1A bp1.length bp1C bp1, .blk b10 #[.int .i64 bp0, .slice bp1A bp1.length bp1C] 43, .rd 1 ap1A ap1.length ap1C ap1, .blk b4 #[.int .i64 ap0, .slice ap1A ap1.length ap1C] 43, .rd 1 imagesA images.length imagesC images]) hS83 [3, 0, 4, 1, 2] (by decide) rfl)
            exact ⟨(by rw [hb92]; exact hE127), hS128⟩
          ·
            have hE129 := hE91; rw [hb92] at hE129; clear hE91
            have ht130 := bn_f hb92
            have hp131 := of_decide_eq_true ht130
            refine d_pure (v := .slice imagesA images.length imagesC) 13 rfl hE129 (y_move rfl) rfl (by kernel_rfl) (by kernel_rfl) (by kernel_rfl) rfl rfl (fun _ _ _ h => h) ?_; intro a132 hE133; clear hE129
            refine d_pure (v := .pointer (some ⟨b4, 1, none⟩)) 14 rfl hE133 (y_field rfl (fun _ => by kernel_rfl)) rfl (by kernel_rfl) (by kernel_rfl) (by kernel_rfl) rfl rfl (fun _ _ _ h => h) ?_; intro a134 hE135; clear hE133
            refine d_take (v := .slice ap1A ap1.length ap1C) 15 rfl hE135 ⟨(St.row (i := 1) hS83 rfl _ (Ext.refl _)), (RdS.elt (St.rdR (i := 2) hS83 rfl) (by omega) (by omega) _ (Ext.refl _)), (St.row (i := 0) hS83 rfl _ (Ext.refl _)), (St.cell (i := 1) hS83 rfl rfl _ (Ext.refl _)), (RdS.elt (St.rdR (i := 4) hS83 rfl) (by omega) (by omega) _ (Ext.refl _)), (RdS.elt (St.rdR (i := 2) hS83 rfl) (by omega) (by omega) _ (Ext.refl _)), (St.cell (i := 0) hS83 rfl rfl _ (Ext.refl _)), (RdS.elt (St.rdR (i := 3) hS83 rfl) (by omega) (by omega) _ (Ext.refl _)), trivial⟩ (y_load (fun _ => by kernel_rfl) rfl (fun _ h => h.2.2.2.1)) rfl rfl (by kernel_rfl) (by kernel_rfl) (by kernel_rfl) rfl rfl (fun _ _ _ h => h) ?_; intro a136 hE137; clear hE135
            refine d_pure (v := .int .i64 t12) 16 rfl hE137 (y_move rfl) rfl (by kernel_rfl) (by kernel_rfl) (by kernel_rfl) rfl rfl (fun _ _ _ h => h) ?_; intro a138 hE139; clear hE137
            refine d_pure (v := .pointer (some (adr ap1A (Int.toNat t12)))) 17 rfl hE139 (y_idx (by kernel_rfl) (fun _ => by kernel_rfl) rfl rfl (RdS.isS (m := t12) (St.rdR (i := 4) hS83 rfl) (by omega) (by omega)) (by omega) (by omega) (Nat.mul_one _).symm) rfl (by kernel_rfl) (by kernel_rfl) (by kernel_rfl) rfl rfl (fun _ _ _ h => h) ?_; intro a140 hE141; clear hE139
            refine d_take (v := .int .i64 (gI ap1 t12)) 18 rfl hE141 ⟨(St.row (i := 1) hS83 rfl _ (Ext.refl _)), (RdS.elt (St.rdR (i := 2) hS83 rfl) (by omega) (by omega) _ (Ext.refl _)), (St.row (i := 0) hS83 rfl _ (Ext.refl _)), (St.cell (i := 1) hS83 rfl rfl _ (Ext.refl _)), (RdS.elt (St.rdR (i := 4) hS83 rfl) (by omega) (by omega) _ (Ext.refl _)), (RdS.elt (St.rdR (i := 2) hS83 rfl) (by omega) (by omega) _ (Ext.refl _)), (St.cell (i := 0) hS83 rfl rfl _ (Ext.refl _)), (RdS.elt (St.rdR (i := 3) hS83 rfl) (by omega) (by omega) _ (Ext.refl _)), trivial⟩ (y_load (fun _ => by kernel_rfl) rfl (fun _ h => h.2.2.2.2.1)) rfl rfl (by kernel_rfl) (by kernel_rfl) (by kernel_rfl) rfl rfl (fun _ _ _ h => h) ?_; intro a142 hE143; clear hE141
            refine d_pure (v := .pointer (some (adr imagesA (Int.toNat (gI ap1 t12))))) 19 rfl hE143 (y_idx (by kernel_rfl) (fun _ => by kernel_rfl) rfl rfl (RdS.isS (m := gI ap1 t12) (St.rdR (i := 2) hS83 rfl) (by omega) (by omega)) (by omega) (by omega) (Nat.mul_one _).symm) rfl (by kernel_rfl) (by kernel_rfl) (by kernel_rfl) rfl rfl (fun _ _ _ h => h) ?_; intro a144 hE145; clear hE143
            refine d_take (v := .int .i64 (gI images (gI ap1 t12))) 20 rfl hE145 ⟨(St.row (i := 1) hS83 rfl _ (Ext.refl _)), (RdS.elt (St.rdR (i := 2) hS83 rfl) (by omega) (by omega) _ (Ext.refl _)), (St.row (i := 0) hS83 rfl _ (Ext.refl _)), (St.cell (i := 1) hS83 rfl rfl _ (Ext.refl _)), (RdS.elt (St.rdR (i := 4) hS83 rfl) (by omega) (by omega) _ (Ext.refl _)), (RdS.elt (St.rdR (i := 2) hS83 rfl) (by omega) (by omega) _ (Ext.refl _)), (St.cell (i := 0) hS83 rfl rfl _ (Ext.refl _)), (RdS.elt (St.rdR (i := 3) hS83 rfl) (by omega) (by omega) _ (Ext.refl _)), trivial⟩ (y_load (fun _ => by kernel_rfl) rfl (fun _ h => h.2.2.2.2.2.1)) rfl rfl (by kernel_rfl) (by kernel_rfl) (by kernel_rfl) rfl rfl (fun _ _ _ h => h) ?_; intro a146 hE147; clear hE145
            refine d_pure (v := .pointer (some ⟨b10, 1, none⟩)) 21 rfl hE147 (y_field rfl (fun _ => by kernel_rfl)) rfl (by kernel_rfl) (by kernel_rfl) (by kernel_rfl) rfl rfl (fun _ _ _ h => h) ?_; intro a148 hE149; clear hE147
            refine d_take (v := .slice bp1A bp1.length bp1C) 22 rfl hE149 ⟨(St.row (i := 1) hS83 rfl _ (Ext.refl _)), (RdS.elt (St.rdR (i := 2) hS83 rfl) (by omega) (by omega) _ (Ext.refl _)), (St.row (i := 0) hS83 rfl _ (Ext.refl _)), (St.cell (i := 1) hS83 rfl rfl _ (Ext.refl _)), (RdS.elt (St.rdR (i := 4) hS83 rfl) (by omega) (by omega) _ (Ext.refl _)), (RdS.elt (St.rdR (i := 2) hS83 rfl) (by omega) (by omega) _ (Ext.refl _)), (St.cell (i := 0) hS83 rfl rfl _ (Ext.refl _)), (RdS.elt (St.rdR (i := 3) hS83 rfl) (by omega) (by omega) _ (Ext.refl _)), trivial⟩ (y_load (fun _ => by kernel_rfl) rfl (fun _ h => h.2.2.2.2.2.2.1)) rfl rfl (by kernel_rfl) (by kernel_rfl) (by kernel_rfl) rfl rfl (fun _ _ _ h => h) ?_; intro a150 hE151; clear hE149
            refine d_pure (v := .int .i64 (gI images t12)) 23 rfl hE151 (y_move rfl) rfl (by kernel_rfl) (by kernel_rfl) (by kernel_rfl) rfl rfl (fun _ _ _ h => h) ?_; intro a152 hE153; clear hE151
            refine d_pure (v := .pointer (some (adr bp1A (Int.toNat (gI images t12))))) 24 rfl hE153 (y_idx (by kernel_rfl) (fun _ => by kernel_rfl) rfl rfl (RdS.isS (m := gI images t12) (St.rdR (i := 3) hS83 rfl) (by omega) (by omega)) (by omega) (by omega) (Nat.mul_one _).symm) rfl (by kernel_rfl) (by kernel_rfl) (by kernel_rfl) rfl rfl (fun _ _ _ h => h) ?_; intro a154 hE155; clear hE153
            refine d_take (v := .int .i64 (gI bp1 (gI images t12))) 25 rfl hE155 ⟨(St.row (i := 1) hS83 rfl _ (Ext.refl _)), (RdS.elt (St.rdR (i := 2) hS83 rfl) (by omega) (by omega) _ (Ext.refl _)), (St.row (i := 0) hS83 rfl _ (Ext.refl _)), (St.cell (i := 1) hS83 rfl rfl _ (Ext.refl _)), (RdS.elt (St.rdR (i := 4) hS83 rfl) (by omega) (by omega) _ (Ext.refl _)), (RdS.elt (St.rdR (i := 2) hS83 rfl) (by omega) (by omega) _ (Ext.refl _)), (St.cell (i := 0) hS83 rfl rfl _ (Ext.refl _)), (RdS.elt (St.rdR (i := 3) hS83 rfl) (by omega) (by omega) _ (Ext.refl _)), trivial⟩ (y_load (fun _ => by kernel_rfl) rfl (fun _ h => h.2.2.2.2.2.2.2.1)) rfl rfl (by kernel_rfl) (by kernel_rfl) (by kernel_rfl) rfl rfl (fun _ _ _ h => h) ?_; intro a156 hE157; clear hE155
            refine d_pure (v := .bool (!decide ((gI images (gI ap1 t12)) = (gI bp1 (gI images t12))))) 26 rfl hE157 (y_neq rfl rfl) rfl (by kernel_rfl) (by kernel_rfl) (by kernel_rfl) rfl rfl (fun _ _ _ h => h) ?_; intro a158 hE159; clear hE157
            refine d_pure (v := .bool (!decide ((gI images (gI ap1 t12)) = (gI bp1 (gI images t12))))) 27 rfl hE159 (y_pick (b := false) rfl rfl) rfl (by kernel_rfl) (by kernel_rfl) (by kernel_rfl) rfl rfl (fun _ _ _ h => h) ?_; intro a160 hE161; clear hE159
            refine d_done (by kernel_rfl) ?_
            have hE162 := hE161.sub (L' := [(2, .slice imagesA images.length imagesC), (3, .pointer (some ⟨b4, 0, none⟩)), (4, .pointer (some ⟨b10, 0, none⟩)), (7, .int .i64 t12), (8, .int .i64 (gI images t12)), (10, .slice imagesA images.length imagesC), (11, .int .i64 (images.length : Int)), (12, .int .i64 t12), (44, .bool (!decide ((gI images (gI ap1 t12)) = (gI bp1 (gI images t12)))))]) ⟨rfl, rfl, rfl, rfl, rfl, rfl, rfl, rfl, rfl, trivial⟩; clear hE161
            refine p_tn ?_
            have hE163 := hE162.sub (L' := [(2, .slice imagesA images.length imagesC), (3, .pointer (some ⟨b4, 0, none⟩)), (4, .pointer (some ⟨b10, 0, none⟩)), (7, .int .i64 t12), (8, .int .i64 (gI images t12)), (10, .slice imagesA images.length imagesC), (11, .int .i64 (images.length : Int)), (12, .int .i64 t12), (44, .bool (!decide ((gI images (gI ap1 t12)) = (gI bp1 (gI images t12)))))]) ⟨rfl, rfl, rfl, rfl, rfl, rfl, rfl, rfl, rfl, trivial⟩
            have hS164 := (St.pick (Γ' := [.rd 1 bp1A bp1.length bp1C bp1, .blk b10 #[.int .i64 bp0, .slice bp1A bp1.length bp1C] 43, .rd 1 ap1A ap1.length ap1C ap1, .blk b4 #[.int .i64 ap0, .slice ap1A ap1.length ap1C] 43, .rd 1 imagesA images.length imagesC images]) hS83 [3, 0, 4, 1, 2] (by decide) rfl)
            exact ⟨(by rw [hb92]; exact hE163), hS164⟩
        ·
          rintro a165 w166 ⟨hE167, hS168⟩; clear hE52 hS30
          refine c_cond hE167 rfl (fun ht169 => ?_) (fun ht169 => ?_)
          ·
            have hE170 := hE167; rw [ht169] at hE170; clear hE167
            refine c_seq ?_
            refine c_reg ?_
            refine q_step (v := .bool false) hE170 (y_assign rfl) rfl rfl rfl ?_; intro a171 hE172; clear hE170
            refine c_nil ?_
            have hE173 := hE172.sub (L' := [(6, .bool false)]) ⟨rfl, trivial⟩; clear hE172
            refine p_tn ?_
            refine wp_ret ?_
            refine p_tr ?_
            refine p_br ?_
            refine p_tr ?_
            have hX174 : F_isHomomorphism_L1 ap0 ap1 bp0 bp1 images (Int.toNat ((images.length : Int) - 0) + 1) 0 = .error false := hT31.symm.trans (show F_isHomomorphism_L1b ap0 ap1 bp0 bp1 images (F_isHomomorphism_L1 ap0 ap1 bp0 bp1 images r35) t12 = .error false by unfold F_isHomomorphism_L1b; rw [ht169, ht39]; first | done | rfl)
            refine p_tr (p_br (p_tr ?_))
            refine p_tr ?_
            have hF : F_isHomomorphism ap0 ap1 bp0 bp1 images = false := by unfold F_isHomomorphism; rw [hX174]; first | done | rfl
            refine c_ret1 hE173 rfl rfl ?_
            exact ⟨(by rw [hF]; first | done | rfl), hS168.ext⟩
          ·
            obtain ⟨ht175, ht176⟩ := bor_f ht169
            have ht177 := bn_f ht175
            have hp178 := of_decide_eq_true ht177
            have ht179 := bn_f ht176
            have hp180 := of_decide_eq_true ht179
            have hE181 := hE167; rw [ht169] at hE181; clear hE167
            refine wp_skip ?_
            refine p_tn ?_
            refine c_seq ?_
            refine c_reg ?_
            refine q_step (v := .int .i64 t12) hE181 (y_move rfl) rfl rfl rfl ?_; intro a182 hE183; clear hE181
            refine q_step (v := .int .i64 0) hE183 (y_move rfl) rfl rfl rfl ?_; intro a184 hE185; clear hE183
            refine c_nil ?_
            have hE186 := hE185.sub (L' := [(2, .slice imagesA images.length imagesC), (3, .pointer (some ⟨b4, 0, none⟩)), (4, .pointer (some ⟨b10, 0, none⟩)), (7, .int .i64 t12), (8, .int .i64 (gI images t12)), (10, .slice imagesA images.length imagesC), (11, .int .i64 (images.length : Int)), (12, .int .i64 t12), (45, .int .i64 t12), (46, .int .i64 0)]) ⟨rfl, rfl, rfl, rfl, rfl, rfl, rfl, rfl, rfl, rfl, trivial⟩; clear hE185
            refine p_tn ?_
            refine c_cut1 (fun a' w' => isOk (F_isHomomorphism_L2 images t12 (Int.toNat (t12 - 0) + 1) 0) = true ∧ (0 ≤ (okD (F_isHomomorphism_L2 images t12 (Int.toNat (t12 - 0) + 1) 0))) ∧ ((okD (F_isHomomorphism_L2 images t12 (Int.toNat (t12 - 0) + 1) 0)) ≤ t12) ∧ E a' 64 [(2, .slice imagesA images.length imagesC), (3, .pointer (some ⟨b4, 0, none⟩)), (4, .pointer (some ⟨b10, 0, none⟩)), (7, .int .i64 t12), (8, .int .i64 (gI images t12)), (10, .slice imagesA images.length imagesC), (11, .int .i64 (images.length : Int)), (12, .int .i64 t12), (45, .int .i64 t12), (46, .int .i64 (okD (F_isHomomorphism_L2 images t12 (Int.toNat (t12 - 0) + 1) 0)))] ∧ St w w' [.rd 1 bp1A bp1.length bp1C bp1, .blk b10 #[.int .i64 bp0, .slice bp1A bp1.length bp1C] 43, .rd 1 ap1A ap1.length ap1C ap1, .blk b4 #[.int .i64 ap0, .slice ap1A ap1.length ap1C] 43, .rd 1 imagesA images.length imagesC images]) ?_ ?_
            ·
              refine wp_block ?_
              refine c_loop (fun r a' w' => ∃ t46L2 : Int, F_isHomomorphism_L2 images t12 r t46L2 = F_isHomomorphism_L2 images t12 (Int.toNat (t12 - 0) + 1) 0 ∧ Int.toNat (t12 - t46L2) < r ∧ (0 ≤ t46L2) ∧ (t46L2 ≤ t12) ∧ E a' 64 [(2, .slice imagesA images.length imagesC), (3, .pointer (some ⟨b4, 0, none⟩)), (4, .pointer (some ⟨b10, 0, none⟩)), (7, .int .i64 t12), (8, .int .i64 (gI images t12)), (10, .slice imagesA images.length imagesC), (11, .int .i64 (images.length : Int)), (12, .int .i64 t12), (45, .int .i64 t12), (46, .int .i64 t46L2)] ∧ St w w' [.rd 1 bp1A bp1.length bp1C bp1, .blk b10 #[.int .i64 bp0, .slice bp1A bp1.length bp1C] 43, .rd 1 ap1A ap1.length ap1C ap1, .blk b4 #[.int .i64 ap0, .slice ap1A ap1.length ap1C] 43, .rd 1 imagesA images.length imagesC images]) (r := (Int.toNat (t12 - 0) + 1)) ?_ ?_
              · exact ⟨0, rfl, Nat.lt_succ_self _, (by first | omega | (simp only [List.length_append, List.length_cons, List.length_nil, sI_len, cond_true, cond_false]; omega) | (simp only [List.length_append, List.length_cons, List.length_nil, sI_len, cond_eq_ite, apply_ite List.length]; split <;> simp only [List.length_append, List.length_cons, List.length_nil, sI_len] <;> omega) | grind), (by first | omega | (simp only [List.length_append, List.length_cons, List.length_nil, sI_len, cond_true, cond_false]; omega) | (simp only [List.length_append, List.length_cons, List.length_nil, sI_len, cond_eq_ite, apply_ite List.length]; split <;> simp only [List.length_append, List.length_cons, List.length_nil, sI_len] <;> omega) | grind), (hE186.sub (L' := [(2, .slice imagesA images.length imagesC), (3, .pointer (some ⟨b4, 0, none⟩)), (4, .pointer (some ⟨b10, 0, none⟩)), (7, .int .i64 t12), (8, .int .i64 (gI images t12)), (10, .slice imagesA images.length imagesC), (11, .int .i64 (images.length : Int)), (12, .int .i64 t12), (45, .int .i64 t12), (46, .int .i64 0)]) ⟨rfl, rfl, rfl, rfl, rfl, rfl, rfl, rfl, rfl, rfl, trivial⟩), (St.pick (Γ' := [.rd 1 bp1A bp1.length bp1C bp1, .blk b10 #[.int .i64 bp0, .slice bp1A bp1.length bp1C] 43, .rd 1 ap1A ap1.length ap1C ap1, .blk b4 #[.int .i64 ap0, .slice ap1A ap1.length ap1C] 43, .rd 1 imagesA images.length imagesC images]) hS168 [0, 1, 2, 3, 4] (by decide) rfl)⟩
              ·
                clear hE186 hS168
                rintro r196 a188 w189 ⟨t46L2, hT192, hr193, hi194, hi195, hE190, hS191⟩
                obtain ⟨r196, rfl⟩ : ∃ r', r196 = r' + 1 := ⟨r196 - 1, by omega⟩
                have hand := andI_le (m := t12) (k := t46L2) (by omega) (by omega) (by omega) (by omega)
                refine c_seq ?_
                refine c_reg ?_
                refine q_step (v := .bool (decide (t46L2 < t12))) hE190 (y_lss rfl rfl) rfl rfl rfl ?_; intro a197 hE198; clear hE190
                refine c_nil ?_
                have hE199 := hE198.sub (L' := [(2, .slice imagesA images.length imagesC), (3, .pointer (some ⟨b4, 0, none⟩)), (4, .pointer (some ⟨b10, 0, none⟩)), (7, .int .i64 t12), (8, .int .i64 (gI images t12)), (10, .slice imagesA images.length imagesC), (11, .int .i64 (images.length : Int)), (12, .int .i64 t12), (45, .int .i64 t12), (46, .int .i64 t46L2), (47, .bool (decide (t46L2 < t12)))]) ⟨rfl, rfl, rfl, rfl, rfl, rfl, rfl, rfl, rfl, rfl, rfl, trivial⟩; clear hE198
                refine p_tn ?_
                refine c_seq ?_
                refine c_cond hE199 rfl (fun ht200 => ?_) (fun ht200 => ?_)
                ·
                  have hp201 := of_decide_eq_true ht200
                  have hE202 := hE199; rw [ht200] at hE202; clear hE199
                  refine wp_skip ?_
                  refine p_tn ?_
                  refine c_seq ?_
                  refine wp_block ?_
                  refine c_seq ?_
                  refine c_reg ?_
                  refine q_step (v := .int .i64 t46L2) hE202 (y_move rfl) rfl rfl rfl ?_; intro a203 hE204; clear hE202
                  refine q_step (v := .int .i64 t46L2) hE204 (y_assign rfl) rfl rfl rfl ?_; intro a205 hE206; clear hE204
                  refine c_nil ?_
                  have hE207 := hE206.sub (L' := [(2, .slice imagesA images.length imagesC), (3, .pointer (some ⟨b4, 0, none⟩)), (4, .pointer (some ⟨b10, 0, none⟩)), (7, .int .i64 t12), (8, .int .i64 (gI images t12)), (9, .int .i64 t46L2), (10, .slice imagesA images.length imagesC), (11, .int .i64 (images.length : Int)), (12, .int .i64 t12), (45, .int .i64 t12), (46, .int .i64 t46L2)]) ⟨rfl, rfl, rfl, rfl, rfl, rfl, rfl, rfl, rfl, rfl, rfl, trivial⟩; clear hE206
                  refine p_tn ?_
                  refine c_seq ?_
                  refine d_start (fun w' => w'.cell? (adr imagesA (Int.toNat (andI t12 t46L2))) = some (.int .i64 (gI images (andI t12 t46L2))) ∧ w'.cell? (adr imagesA (Int.toNat t46L2)) = some (.int .i64 (gI images t46L2)) ∧ True) [5, 10] 13 (by kernel_rfl) rfl ?_
                  intro w208 he209; have hS210 := St.go hS191 he209; clear hS191
                  refine d_pure (v := .slice imagesA images.length imagesC) 0 rfl hE207 (y_move rfl) rfl (by kernel_rfl) (by kernel_rfl) (by kernel_rfl) rfl rfl (fun _ _ _ h => h) ?_; intro a211 hE212; clear hE207
                  refine d_pure (v := .int .i64 t12) 1 rfl hE212 (y_move rfl) rfl (by kernel_rfl) (by kernel_rfl) (by kernel_rfl) rfl rfl (fun _ _ _ h => h) ?_; intro a213 hE214; clear hE212
                  refine d_pure (v := .int .i64 t46L2) 2 rfl hE214 (y_move rfl) rfl (by kernel_rfl) (by kernel_rfl) (by kernel_rfl) rfl rfl (fun _ _ _ h => h) ?_; intro a215 hE216; clear hE214
                  refine d_pure (v := .int .i64 (andI t12 t46L2)) 3 rfl hE216 (y_and rfl rfl) rfl (by kernel_rfl) (by kernel_rfl) (by kernel_rfl) rfl rfl (fun _ _ _ h => h) ?_; intro a217 hE218; clear hE216
                  refine d_pure (v := .pointer (some (adr imagesA (Int.toNat (andI t12 t46L2))))) 4 rfl hE218 (y_idx (by kernel_rfl) (fun _ => by kernel_rfl) rfl rfl (RdS.isS (m := andI t12 t46L2) (St.rdR (i := 4) hS210 rfl) (by omega) (by omega)) (by omega) (by omega) (Nat.mul_one _).symm) rfl (by kernel_rfl) (by kernel_rfl) (by kernel_rfl) rfl rfl (fun _ _ _ h => h) ?_; intro a219 hE220; clear hE218
                  refine d_take (v := .int .i64 (gI images (andI t12 t46L2))) 5 rfl hE220 ⟨(RdS.elt (St.rdR (i := 4) hS210 rfl) (by omega) (by omega) _ (Ext.refl _)), (RdS.elt (St.rdR (i := 4) hS210 rfl) (by omega) (by omega) _ (Ext.refl _)), trivial⟩ (y_load (fun _ => by kernel_rfl) rfl (fun _ h => h.1)) rfl rfl (by kernel_rfl) (by kernel_rfl) (by kernel_rfl) rfl rfl (fun _ _ _ h => h) ?_; intro a221 hE222; clear hE220
                  refine d_pure (v := .int .i64 (gI images t12)) 6 rfl hE222 (y_move rfl) rfl (by kernel_rfl) (by kernel_rfl) (by kernel_rfl) rfl rfl (fun _ _ _ h => h) ?_; intro a223 hE224; clear hE222
                  refine d_pure (v := .slice imagesA images.length imagesC) 7 rfl hE224 (y_move rfl) rfl (by kernel_rfl) (by kernel_rfl) (by kernel_rfl) rfl rfl (fun _ _ _ h => h) ?_; intro a225 hE226; clear hE224
                  refine d_pure (v := .int .i64 t46L2) 8 rfl hE226 (y_move rfl) rfl (by kernel_rfl) (by kernel_rfl) (by kernel_rfl) rfl rfl (fun _ _ _ h => h) ?_; intro a227 hE228; clear hE226
                  refine d_pure (v := .pointer (some (adr imagesA (Int.toNat t46L2)))) 9 rfl hE228 (y_idx (by kernel_rfl) (fun _ => by kernel_rfl) rfl rfl (RdS.isS (m := t46L2) (St.rdR (i := 4) hS210 rfl) (by omega) (by omega)) (by omega) (by omega) (Nat.mul_one _).symm) rfl (by kernel_rfl) (by kernel_rfl) (by kernel_rfl) rfl rfl (fun _ _ _ h => h) ?_; intro a229 hE230; clear hE228
                  refine d_take (v := .int .i64 (gI images t46L2)) 10 rfl hE230 ⟨(RdS.elt (St.rdR (i := 4) hS210 rfl) (by omega) (by omega) _ (Ext.refl _)), (RdS.elt (St.rdR (i := 4) hS210 rfl) (by omega) (by omega) _ (Ext.refl _)), trivial⟩ (y_load (fun _ => by kernel_rfl) rfl (fun _ h => h.2.1)) rfl rfl (by kernel_rfl) (by kernel_rfl) (by kernel_rfl) rfl rfl (fun _ _ _ h => h) ?_; intro a231 hE232; clear hE230
                  refine d_pure (v := .int .i64 (andI (gI images t12) (gI images t46L2))) 11 rfl hE232 (y_and rfl rfl) rfl (by kernel_rfl) (by kernel_rfl) (by kernel_rfl) rfl rfl (fun _ _ _ h => h) ?_; intro a233 hE234; clear hE232
                  refine d_pure (v := .bool (!decide ((gI images (andI t12 t46L2)) = (andI (gI images t12) (gI images t46L2))))) 12 rfl hE234 (y_neq rfl rfl) rfl (by kernel_rfl) (by kernel_rfl) (by kernel_rfl) rfl rfl (fun _ _ _ h => h) ?_; intro a235 hE236; clear hE234
                  refine d_done (by kernel_rfl) ?_
                  have hE237 := hE236.sub (L' := [(2, .slice imagesA images.length imagesC), (3, .pointer (some ⟨b4, 0, none⟩)), (4, .pointer (some ⟨b10, 0, none⟩)), (7, .int .i64 t12), (8, .int .i64 (gI images t12)), (10, .slice imagesA images.length imagesC), (11, .int .i64 (images.length : Int)), (12, .int .i64 t12), (45, .int .i64 t12), (46, .int .i64 t46L2), (61, .bool (!decide ((gI images (andI t12 t46L2)) = (andI (gI images t12) (gI images t46L2)))))]) ⟨rfl, rfl, rfl, rfl, rfl, rfl, rfl, rfl, rfl, rfl, rfl, trivial⟩; clear hE236
                  refine p_tn ?_
                  refine c_cond hE237 rfl (fun ht238 => ?_) (fun ht238 => ?_)
                  ·
                    have ht239 := bn_t ht238
                    have hp240 := of_decide_eq_false ht239
                    have hE241 := hE237; rw [ht238] at hE241; clear hE237
                    refine c_seq ?_
                    refine c_reg ?_
                    refine q_step (v := .bool false) hE241 (y_assign rfl) rfl rfl rfl ?_; intro a242 hE243; clear hE241
                    refine c_nil ?_
                    have hE244 := hE243.sub (L' := [(6, .bool false)]) ⟨rfl, trivial⟩; clear hE243
                    refine p_tn ?_
                    refine wp_ret ?_
                    refine p_br ?_
                    refine p_tr ?_
                    have hX245 : F_isHomomorphism_L2 images t12 (Int.toNat (t12 - 0) + 1) 0 = .error false := hT192.symm.trans (show F_isHomomorphism_L2b images t12 (F_isHomomorphism_L2 images t12 r196) t46L2 = .error false by unfold F_isHomomorphism_L2b; rw [ht238, ht200]; first | done | rfl)
                    refine p_tr (p_br (p_tr ?_))
                    refine p_br ?_
                    refine p_tr ?_
                    have hX246 : F_isHomomorphism_L1 ap0 ap1 bp0 bp1 images (Int.toNat ((images.length : Int) - 0) + 1) 0 = .error false := hT31.symm.trans (show F_isHomomorphism_L1b ap0 ap1 bp0 bp1 images (F_isHomomorphism_L1 ap0 ap1 bp0 bp1 images r35) t12 = .error false by unfold F_isHomomorphism_L1b; rw [hX245, ht169, ht39]; first | done | rfl)
                    refine p_tr (p_br (p_tr ?_))
                    refine p_tr ?_
                    have hF : F_isHomomorphism ap0 ap1 bp0 bp1 images = false := by unfold F_isHomomorphism; rw [hX246]; first | done | rfl
                    refine c_ret1 hE244 rfl rfl ?_
                    exact ⟨(by rw [hF]; first | done | rfl), hS210.ext⟩
                  ·
                    have ht247 := bn_f ht238
                    have hp248 := of_decide_eq_true ht247
                    have hE249 := hE237; rw [ht238] at hE249; clear hE237
                    refine wp_skip ?_
                    refine p_bn ?_
                    refine p_tn ?_
                    refine c_reg ?_
                    refine q_step (v := .int .i64 (t46L2 + 1)) hE249 (y_add rfl rfl ⟨(by omega), (by omega)⟩) rfl rfl rfl ?_; intro a250 hE251; clear hE249
                    refine q_step (v := .int .i64 (t46L2 + 1)) hE251 (y_move rfl) rfl rfl rfl ?_; intro a252 hE253; clear hE251
                    refine c_nil ?_
                    have hE254 := hE253.sub (L' := [(2, .slice imagesA images.length imagesC), (3, .pointer (some ⟨b4, 0, none⟩)), (4, .pointer (some ⟨b10, 0, none⟩)), (7, .int .i64 t12), (8, .int .i64 (gI images t12)), (10, .slice imagesA images.length imagesC), (11, .int .i64 (images.length : Int)), (12, .int .i64 t12), (45, .int .i64 t12), (46, .int .i64 (t46L2 + 1))]) ⟨rfl, rfl, rfl, rfl, rfl, rfl, rfl, rfl, rfl, rfl, trivial⟩; clear hE253
                    refine p_tn ⟨r196, Nat.lt_succ_self _, t46L2 + 1, (hT192.symm.trans (show F_isHomomorphism_L2b images t12 (F_isHomomorphism_L2 images t12 r196) t46L2 = F_isHomomorphism_L2 images t12 r196 (t46L2 + 1) by unfold F_isHomomorphism_L2b; rw [ht238, ht200]; first | done | rfl)).symm, (by omega), (by first | omega | (simp only [List.length_append, List.length_cons, List.length_nil, sI_len, cond_true, cond_false]; omega) | (simp only [List.length_append, List.length_cons, List.length_nil, sI_len, cond_eq_ite, apply_ite List.length]; split <;> simp only [List.length_append, List.length_cons, List.length_nil, sI_len] <;> omega) | grind), (by first | omega | (simp only [List.length_append, List.length_cons, List.length_nil, sI_len, cond_true, cond_false]; omega) | (simp only [List.length_append, List.length_cons, List.length_nil, sI_len, cond_eq_ite, apply_ite List.length]; split <;> simp only [List.length_append, List.length_cons, List.length_nil, sI_len] <;> omega) | grind), (hE254.sub (L' := [(2, .slice imagesA images.length imagesC), (3, .pointer (some ⟨b4, 0, none⟩)), (4, .pointer (some ⟨b10, 0, none⟩)), (7, .int .i64 t12), (8, .int .i64 (gI images t12)), (10, .slice imagesA images.length imagesC), (11, .int .i64 (images.length : Int)), (12, .int .i64 t12), (45, .int .i64 t12), (46, .int .i64 (t46L2 + 1))]) ⟨rfl, rfl, rfl, rfl, rfl, rfl, rfl, rfl, rfl, rfl, trivial⟩), (St.pick (Γ' := [.rd 1 bp1A bp1.length bp1C bp1, .blk b10 #[.int .i64 bp0, .slice bp1A bp1.length bp1C] 43, .rd 1 ap1A ap1.length ap1C ap1, .blk b4 #[.int .i64 ap0, .slice ap1A ap1.length ap1C] 43, .rd 1 imagesA images.length imagesC images]) hS210 [0, 1, 2, 3, 4] (by decide) rfl)⟩
                ·
                  have hp255 := of_decide_eq_false ht200
                  have hE256 := hE199; rw [ht200] at hE256; clear hE199
                  refine wp_exit ?_
                  refine p_te ?_
                  have hX257 : F_isHomomorphism_L2 images t12 (Int.toNat (t12 - 0) + 1) 0 = .ok t46L2 := hT192.symm.trans (show F_isHomomorphism_L2b images t12 (F_isHomomorphism_L2 images t12 r196) t46L2 = .ok t46L2 by unfold F_isHomomorphism_L2b; rw [ht200]; first | done | rfl)
                  refine p_te (p_be (p_tn ?_))
                  exact ⟨(by rw [hX257]; rfl), (by rw [hX257]; exact (show 0 ≤ t46L2 from (by first | omega | (simp only [List.length_append, List.length_cons, List.length_nil, sI_len, cond_true, cond_false]; omega) | (simp only [List.length_append, List.length_cons, List.length_nil, sI_len, cond_eq_ite, apply_ite List.length]; split <;> simp only [List.length_append, List.length_cons, List.length_nil, sI_len] <;> omega) | grind))), (by rw [hX257]; exact (show t46L2 ≤ t12 from (by first | omega | (simp only [List.length_append, List.length_cons, List.length_nil, sI_len, cond_true, cond_false]; omega) | (simp only [List.length_append, List.length_cons, List.length_nil, sI_len, cond_eq_ite, apply_ite List.length]; split <;> simp only [List.length_append, List.length_cons, List.length_nil, sI_len] <;> omega) | grind))), (by rw [hX257]; exact (hE256.sub (L' := [(2, .slice imagesA images.length imagesC), (3, .pointer (some ⟨b4, 0, none⟩)), (4, .pointer (some ⟨b10, 0, none⟩)), (7, .int .i64 t12), (8, .int .i64 (gI images t12)), (10, .slice imagesA images.length imagesC), (11, .int .i64 (images.length : Int)), (12, .int .i64 t12), (45, .int .i64 t12), (46, .int .i64 t46L2)]) ⟨rfl, rfl, rfl, rfl, rfl, rfl, rfl, rfl, rfl, rfl, trivial⟩)), (St.pick (Γ' := [.rd 1 bp1A bp1.length bp1C bp1, .blk b10 #[.int .i64 bp0, .slice bp1A bp1.length bp1C] 43, .rd 1 ap1A ap1.length ap1C ap1, .blk b4 #[.int .i64 ap0, .slice ap1A ap1.length ap1C] 43, .rd 1 imagesA images.length imagesC images]) hS191 [0, 1, 2, 3, 4] (by decide) rfl)⟩
            ·
              rintro a258 w259 ⟨hO262, hi263, hi264, hE260, hS261⟩; clear hE186 hS168
              refine p_bn ?_
              refine p_tn ?_
              refine c_reg ?_
              refine q_step (v := .int .i64 (t12 + 1)) hE260 (y_add rfl rfl ⟨(by omega), (by omega)⟩) rfl rfl rfl ?_; intro a265 hE266; clear hE260
              refine q_step (v := .int .i64 (t12 + 1)) hE266 (y_move rfl) rfl rfl rfl ?_; intro a267 hE268; clear hE266
              refine c_nil ?_
              have hE269 := hE268.sub (L' := [(2, .slice imagesA images.length imagesC), (3, .pointer (some ⟨b4, 0, none⟩)), (4, .pointer (some ⟨b10, 0, none⟩)), (10, .slice imagesA images.length imagesC), (11, .int .i64 (images.length : Int)), (12, .int .i64 (t12 + 1))]) ⟨rfl, rfl, rfl, rfl, rfl, rfl, trivial⟩; clear hE268
              refine p_tn ⟨r35, Nat.lt_succ_self _, t12 + 1, (hT31.symm.trans (show F_isHomomorphism_L1b ap0 ap1 bp0 bp1 images (F_isHomomorphism_L1 ap0 ap1 bp0 bp1 images r35) t12 = F_isHomomorphism_L1 ap0 ap1 bp0 bp1 images r35 (t12 + 1) by unfold F_isHomomorphism_L1b; rw [hO262, ht169, ht39]; first | done | rfl)).symm, (by omega), (by first | omega | (simp only [List.length_append, List.length_cons, List.length_nil, sI_len, cond_true, cond_false]; omega) | (simp only [List.length_append, List.length_cons, List.length_nil, sI_len, cond_eq_ite, apply_ite List.length]; split <;> simp only [List.length_append, List.length_cons, List.length_nil, sI_len] <;> omega) | grind), (by first | omega | (simp only [List.length_append, List.length_cons, List.length_nil, sI_len, cond_true, cond_false]; omega) | (simp only [List.length_append, List.length_cons, List.length_nil, sI_len, cond_eq_ite, apply_ite List.length]; split <;> simp only [List.length_append, List.length_cons, List.length_nil, sI_len] <;> omega) | grind), (hE269.sub (L' := [(2, .slice imagesA images.length imagesC), (3, .pointer (some ⟨b4, 0, none⟩)), (4, .pointer (some ⟨b10, 0, none⟩)), (10, .slice imagesA images.length imagesC), (11, .int .i64 (images.length : Int)), (12, .int .i64 (t12 + 1))]) ⟨rfl, rfl, rfl, rfl, rfl, rfl, trivial⟩), (St.pick (Γ' := [.blk b10 #[.int .i64 bp0, .slice bp1A bp1.length bp1C] 43, .blk b4 #[.int .i64 ap0, .slice ap1A ap1.length ap1C] 43, .rd 1 imagesA images.length imagesC images, .rd 1 bp1A bp1.length bp1C bp1, .rd 1 ap1A ap1.length ap1C ap1]) hS261 [1, 3, 4, 0, 2] (by decide) rfl)⟩
      ·
        have hp270 := of_decide_eq_false ht39
        have hE271 := hE38; rw [ht39] at hE271; clear hE38
        refine wp_exit ?_
        refine p_te ?_
        have hX272 : F_isHomomorphism_L1 ap0 ap1 bp0 bp1 images (Int.toNat ((images.length : Int) - 0) + 1) 0 = .ok t12 := hT31.symm.trans (show F_isHomomorphism_L1b ap0 ap1 bp0 bp1 images (F_isHomomorphism_L1 ap0 ap1 bp0 bp1 images r35) t12 = .ok t12 by unfold F_isHomomorphism_L1b; rw [ht39]; first | done | rfl)
        refine p_te (p_be (p_tn ?_))
        exact ⟨(by rw [hX272]; rfl), (by rw [hX272]; exact (show 0 ≤ t12 from (by first | omega | (simp only [List.length_append, List.length_cons, List.length_nil, sI_len, cond_true, cond_false]; omega) | (simp only [List.length_append, List.length_cons, List.length_nil, sI_len, cond_eq_ite, apply_ite List.length]; split <;> simp only [List.length_append, List.length_cons, List.length_nil, sI_len] <;> omega) | grind))), (by rw [hX272]; exact (show t12 ≤ (images.length : Int) from (by first | omega | (simp only [List.length_append, List.length_cons, List.length_nil, sI_len, cond_true, cond_false]; omega) | (simp only [List.length_append, List.length_cons, List.length_nil, sI_len, cond_eq_ite, apply_ite List.length]; split <;> simp only [List.length_append, List.length_cons, List.length_nil, sI_len] <;> omega) | grind))), (by rw [hX272]; exact (hE271.sub (L' := [(2, .slice imagesA images.length imagesC), (3, .pointer (some ⟨b4, 0, none⟩)), (4, .pointer (some ⟨b10, 0, none⟩)), (10, .slice imagesA images.length imagesC), (11, .int .i64 (images.length : Int)), (12, .int .i64 t12)]) ⟨rfl, rfl, rfl, rfl, rfl, rfl, trivial⟩)), (St.pick (Γ' := [.blk b10 #[.int .i64 bp0, .slice bp1A bp1.length bp1C] 43, .blk b4 #[.int .i64 ap0, .slice ap1A ap1.length ap1C] 43, .rd 1 imagesA images.length imagesC images, .rd 1 bp1A bp1.length bp1C bp1, .rd 1 ap1A ap1.length ap1C ap1]) hS30 [0, 1, 2, 3, 4] (by decide) rfl)⟩
  ·
    rintro a273 w274 ⟨hO277, hi278, hi279, hE275, hS276⟩; clear hE25 hS14
    refine p_tn ?_
    refine c_seq ?_
    refine c_reg ?_
    refine q_step (v := .bool true) hE275 (y_assign rfl) rfl rfl rfl ?_; intro a280 hE281; clear hE275
    refine c_nil ?_
    have hE282 := hE281.sub (L' := [(6, .bool true)]) ⟨rfl, trivial⟩; clear hE281
    refine p_tn ?_
    refine wp_ret ?_
    have hF : F_isHomomorphism ap0 ap1 bp0 bp1 images = true := by unfold F_isHomomorphism; rw [hO277]; first | done | rfl
    refine c_ret1 hE282 rfl rfl ?_
    exact ⟨(by rw [hF]; first | done | rfl), hS276.ext⟩

def F_s_IsHomomorphism (ap0 : Int) (ap1 : List Int) (bp0 : Int) (bp1 : List Int) (images : List Int) : (Bool) × (Int) :=
  bif ((!(F_l15Is ap0 ap1)) || ((!(F_l15Is bp0 bp1)) || ((!decide ((images.length : Int) = (ap1.length : Int))) || (!(F_l01Masks bp0 images))))) then (false, 1) else (F_l15Keeps ap0 ap1 bp0 bp1 images, 0)
theorem cf_s_IsHomomorphism (args : Array Value) (w : World) : (callFunc 29 args).run Try.prog w = .ok (.enter 29 args) w := by kernel_rfl
set_option maxRecDepth 100000 in
theorem c_s_IsHomomorphism (ap0 : Int) (ap1A : Option Addr) (ap1N ap1C : Nat) (ap1 : List Int) (bp0 : Int) (bp1A : Option Addr) (bp1N bp1C : Nat) (bp1 : List Int) (imagesA : Option Addr) (imagesN imagesC : Nat) (images : List Int) (w : World) (ap1R : RdS w 1 ap1A ap1N ap1C ap1) (bp1R : RdS w 1 bp1A bp1N bp1C bp1) (imagesR : RdS w 1 imagesA imagesN imagesC images) :
    Calls Try.prog 29 #[.agg #[.int .i64 ap0, .slice ap1A ap1N ap1C], .agg #[.int .i64 bp0, .slice bp1A bp1N bp1C], .slice imagesA imagesN imagesC] w (Ret fun v w' => v = .tuple #[.bool ((F_s_IsHomomorphism ap0 ap1 bp0 bp1 images).1), .int .i64 ((F_s_IsHomomorphism ap0 ap1 bp0 bp1 images).2)] ∧ Ext w w') := by
  obtain rfl : ap1N = ap1.length := ap1R.len1.symm
  have ap1Le := ap1R.le
  obtain rfl : bp1N = bp1.length := bp1R.len1.symm
  have bp1Le := bp1R.le
  obtain rfl : imagesN = images.length := imagesR.len1.symm
  have imagesLe := imagesR.le
  have hS := St.nil w
  have hS1 := St.rd0 hS rfl ap1R; clear hS
  have hS2 := St.rd0 hS1 rfl bp1R; clear hS1
  have hS3 := St.rd0 hS2 rfl imagesR; clear hS2
  refine enter (args := [.agg #[.int .i64 ap0, .slice ap1A ap1.length ap1C], .agg #[.int .i64 bp0, .slice bp1A bp1.length bp1C], .slice imagesA images.length imagesC]) Try.func29 rfl rfl ?_
  rw [Try.ntmps29]; intro a hE
  have hE := hE.sub (L' := [(0, .agg #[.int .i64 ap0, .slice ap1A ap1.length ap1C]), (1, .agg #[.int .i64 bp0, .slice bp1A bp1.length bp1C]), (2, .slice imagesA images.length imagesC)]) ⟨rfl, rfl, rfl, trivial⟩
  refine c_seq ?_
  refine c_reg ?_
  refine l_step hE rfl (l_box (v := .agg #[.int .i64 ap0, .slice ap1A ap1.length ap1C]) (cs := #[.int .i64 ap0, .slice ap1A ap1.length ap1C]) hS3 hE rfl rfl rfl ?_)
  intro b4 w5 hS8 he9 a6 hE7; clear hS3 hE
  refine l_step hE7 rfl (l_box (v := .agg #[.int .i64 bp0, .slice bp1A bp1.length bp1C]) (cs := #[.int .i64 bp0, .slice bp1A bp1.length bp1C]) hS8 hE7 rfl rfl rfl ?_)
  intro b10 w11 hS14 he15 a12 hE13; clear hS8 hE7
  refine q_step (v := .bool false) hE13 (y_assign rfl) rfl rfl rfl ?_; intro a16 hE17; clear hE13
  refine q_step (v := .int .i64 0) hE17 (y_assign rfl) rfl rfl rfl ?_; intro a18 hE19; clear hE17
  refine c_nil ?_
  have hE20 := hE19.sub (L' := [(2, .slice imagesA images.length imagesC), (3, .pointer (some ⟨b4, 0, none⟩)), (4, .pointer (some ⟨b10, 0, none⟩))]) ⟨rfl, rfl, rfl, trivial⟩; clear hE19
  refine p_tn ?_
  refine c_seq ?_
  refine c_cut (fun a' w' => E a' 35 [(2, .slice imagesA images.length imagesC), (3, .pointer (some ⟨b4, 0, none⟩)), (4, .pointer (some ⟨b10, 0, none⟩)), (30, .bool ((!(F_l15Is ap0 ap1)) || ((!(F_l15Is bp0 bp1)) || ((!decide ((images.length : Int) = (ap1.length : Int))) || (!(F_l01Masks bp0 images))))))] ∧ St w w' [.rd 1 bp1A bp1.length bp1C bp1, .blk b10 #[.int .i64 bp0, .slice bp1A bp1.length bp1C] 43, .rd 1 ap1A ap1.length ap1C ap1, .blk b4 #[.int .i64 ap0, .slice ap1A ap1.length ap1C] 43, .rd 1 imagesA images.length imagesC images]) ?_ ?_
  ·
    refine c_reg ?_
    refine q_step (v := .agg #[.int .i64 ap0, .slice ap1A ap1.length ap1C]) hE20 (y_loadS Try.underlying43 rfl (by kernel_rfl) rfl (St.row (i := 1) hS14 rfl)) rfl rfl rfl ?_; intro a21 hE22; clear hE20
    refine l_step hE22 rfl (l_call (f := 72) (argv := [.agg #[.int .i64 ap0, .slice ap1A ap1.length ap1C]]) hE22 (fun _ => cf_l15Is _ _) rfl rfl (c_l15Is ap0 ap1A ap1.length ap1C ap1 w11 (St.rdR (i := 4) hS14 rfl)) ?_)
    rintro _ w24 ⟨rfl, he28⟩ a25 hE26; clear hE22
    have hS27 := St.go hS14 he28; clear hS14
    refine q_step (v := .bool (!(F_l15Is ap0 ap1))) hE26 (y_not rfl) rfl rfl rfl ?_; intro a29 hE30; clear hE26
    refine q_step (v := .bool (!(F_l15Is ap0 ap1))) hE30 (y_move rfl) rfl rfl rfl ?_; intro a31 hE32; clear hE30
    rcases Bool.eq_false_or_eq_true (!(F_l15Is ap0 ap1)) with hb33 | hb33
    ·
      have hE34 := hE32; rw [hb33] at hE34; clear hE32
      have ht35 := bn_t hb33
      refine q_skip hE34 rfl rfl rfl ?_; intro a36 hE37; clear hE34
      refine q_skip hE37 rfl rfl rfl ?_; intro a38 hE39; clear hE37
      refine q_skip hE39 rfl rfl rfl ?_; intro a40 hE41; clear hE39
      refine q_step (v := .bool true) hE41 (y_pick (b := true) rfl rfl) rfl rfl rfl ?_; intro a42 hE43; clear hE41
      refine q_step (v := .bool true) hE43 (y_move rfl) rfl rfl rfl ?_; intro a44 hE45; clear hE43
      refine q_skip hE45 rfl rfl rfl ?_; intro a46 hE47; clear hE45
      refine q_skip hE47 rfl rfl rfl ?_; intro a48 hE49; clear hE47
      refine q_skip hE49 rfl rfl rfl ?_; intro a50 hE51; clear hE49
      refine q_skip hE51 rfl rfl rfl ?_; intro a52 hE53; clear hE51
      refine q_skip hE53 rfl rfl rfl ?_; intro a54 hE55; clear hE53
      refine q_skip hE55 rfl rfl rfl ?_; intro a56 hE57; clear hE55
      refine q_step (v := .bool true) hE57 (y_pick (b := true) rfl rfl) rfl rfl rfl ?_; intro a58 hE59; clear hE57
      refine q_step (v := .bool true) hE59 (y_move rfl) rfl rfl rfl ?_; intro a60 hE61; clear hE59
      refine q_skip hE61 rfl rfl rfl ?_; intro a62 hE63; clear hE61
      refine q_skip hE63 rfl rfl rfl ?_; intro a64 hE65; clear hE63
      refine q_skip hE65 rfl rfl rfl ?_; intro a66 hE67; clear hE65
      refine q_skip hE67 rfl rfl rfl ?_; intro a68 hE69; clear hE67
      refine q_skip hE69 rfl rfl rfl ?_; intro a70 hE71; clear hE69
      refine q_step (v := .bool true) hE71 (y_pick (b := true) rfl rfl) rfl rfl rfl ?_; intro a72 hE73; clear hE71
      refine c_nil ?_
      have hE74 := hE73.sub (L' := [(2, .slice imagesA images.length imagesC), (3, .pointer (some ⟨b4, 0, none⟩)), (4, .pointer (some ⟨b10, 0, none⟩)), (30, .bool true)]) ⟨rfl, rfl, rfl, rfl, trivial⟩; clear hE73
      refine p_tn ?_
      have hE75 := hE74.sub (L' := [(2, .slice imagesA images.length imagesC), (3, .pointer (some ⟨b4, 0, none⟩)), (4, .pointer (some ⟨b10, 0, none⟩)), (30, .bool true)]) ⟨rfl, rfl, rfl, rfl, trivial⟩
      have hS76 := (St.pick (Γ' := [.rd 1 bp1A bp1.length bp1C bp1, .blk b10 #[.int .i64 bp0, .slice bp1A bp1.length bp1C] 43, .rd 1 ap1A ap1.length ap1C ap1, .blk b4 #[.int .i64 ap0, .slice ap1A ap1.length ap1C] 43, .rd 1 imagesA images.length imagesC images]) hS27 [3, 0, 4, 1, 2] (by decide) rfl)
      exact ⟨(by rw [hb33]; exact hE75), hS76⟩
    ·
      have hE77 := hE32; rw [hb33] at hE77; clear hE32
      have ht78 := bn_f hb33
      have hp79 := l15Is_t ht78
      refine q_step (v := .agg #[.int .i64 bp0, .slice bp1A bp1.length bp1C]) hE77 (y_loadS Try.underlying43 rfl (by kernel_rfl) rfl (St.row (i := 0) hS27 rfl)) rfl rfl rfl ?_; intro a80 hE81; clear hE77
      refine l_step hE81 rfl (l_call (f := 72) (argv := [.agg #[.int .i64 bp0, .slice bp1A bp1.length bp1C]]) hE81 (fun _ => cf_l15Is _ _) rfl rfl (c_l15Is bp0 bp1A bp1.length bp1C bp1 w24 (St.rdR (i := 3) hS27 rfl)) ?_)
      rintro _ w83 ⟨rfl, he87⟩ a84 hE85; clear hE81
      have hS86 := St.go hS27 he87; clear hS27
      refine q_step (v := .bool (!(F_l15Is bp0 bp1))) hE85 (y_not rfl) rfl rfl rfl ?_; intro a88 hE89; clear hE85
      refine q_step (v := .bool (!(F_l15Is bp0 bp1))) hE89 (y_pick (b := false) rfl rfl) rfl rfl rfl ?_; intro a90 hE91; clear hE89
      refine q_step (v := .bool (!(F_l15Is bp0 bp1))) hE91 (y_move rfl) rfl rfl rfl ?_; intro a92 hE93; clear hE91
      rcases Bool.eq_false_or_eq_true (!(F_l15Is bp0 bp1)) with hb94 | hb94
      ·
        have hE95 := hE93; rw [hb94] at hE95; clear hE93
        have ht96 := bn_t hb94
        refine q_skip hE95 rfl rfl rfl ?_; intro a97 hE98; clear hE95
        refine q_skip hE98 rfl rfl rfl ?_; intro a99 hE100; clear hE98
        refine q_skip hE100 rfl rfl rfl ?_; intro a101 hE102; clear hE100
        refine q_skip hE102 rfl rfl rfl ?_; intro a103 hE104; clear hE102
        refine q_skip hE104 rfl rfl rfl ?_; intro a105 hE106; clear hE104
        refine q_skip hE106 rfl rfl rfl ?_; intro a107 hE108; clear hE106
        refine q_step (v := .bool true) hE108 (y_pick (b := true) rfl rfl) rfl rfl rfl ?_; intro a109 hE110; clear hE108
        refine q_step (v := .bool true) hE110 (y_move rfl) rfl rfl rfl ?_; intro a111 hE112; clear hE110
        refine q_skip hE112 rfl rfl rfl ?_; intro a113 hE114; clear hE112
        refine q_skip hE114 rfl rfl rfl ?_; intro a115 hE116; clear hE114
        refine q_skip hE116 rfl rfl rfl ?_; intro a117 hE118; clear hE116
        refine q_skip hE118 rfl rfl rfl ?_; intro a119 hE120; clear hE118
        refine q_skip hE120 rfl rfl rfl ?_; intro a121 hE122; clear hE120
        refine q_step (v := .bool true) hE122 (y_pick (b := true) rfl rfl) rfl rfl rfl ?_; intro a123 hE124; clear hE122
        refine c_nil ?_
        have hE125 := hE124.sub (L' := [(2, .slice imagesA images.length imagesC), (3, .pointer (some ⟨b4, 0, none⟩)), (4, .pointer (some ⟨b10, 0, none⟩)), (30, .bool true)]) ⟨rfl, rfl, rfl, rfl, trivial⟩; clear hE124
        refine p_tn ?_
        have hE126 := hE125.sub (L' := [(2, .slice imagesA images.length imagesC), (3, .pointer (some ⟨b4, 0, none⟩)), (4, .pointer (some ⟨b10, 0, none⟩)), (30, .bool true)]) ⟨rfl, rfl, rfl, rfl, trivial⟩
        have hS127 := (St.pick (Γ' := [.rd 1 bp1A bp1.length bp1C bp1, .blk b10 #[.int .i64 bp0, .slice bp1A bp1.length bp1C] 43, .rd 1 ap1A ap1.length ap1C ap1, .blk b4 #[.int .i64 ap0, .slice ap1A ap1.length ap1C] 43, .rd 1 imagesA images.length imagesC images]) hS86 [3, 0, 4, 1, 2] (by decide) rfl)
        exact ⟨(by rw [hb94, hb33]; exact hE126), hS127⟩
      ·
        have hE128 := hE93; rw [hb94] at hE128; clear hE93
        have ht129 := bn_f hb94
        have hp130 := l15Is_t ht129
        refine q_step (v := .slice imagesA images.length imagesC) hE128 (y_move rfl) rfl rfl rfl ?_; intro a131 hE132; clear hE128
        refine q_step (v := .int .i64 (images.length : Int)) hE132 (y_len (e := 2) (by kernel_rfl) rfl) rfl rfl rfl ?_; intro a133 hE134; clear hE132
        refine q_step (v := .pointer (some ⟨b4, 1, none⟩)) hE134 (y_field rfl (fun _ => by kernel_rfl)) rfl rfl rfl ?_; intro a135 hE136; clear hE134
        refine q_step (v := .slice ap1A ap1.length ap1C) hE136 (y_load (fun _ => by kernel_rfl) rfl (St.cell (i := 1) hS86 rfl rfl)) rfl rfl rfl ?_; intro a137 hE138; clear hE136
        refine q_step (v := .int .i64 (ap1.length : Int)) hE138 (y_len (e := 2) (by kernel_rfl) rfl) rfl rfl rfl ?_; intro a139 hE140; clear hE138
        refine q_step (v := .bool (!decide ((images.length : Int) = (ap1.length : Int)))) hE140 (y_neq rfl rfl) rfl rfl rfl ?_; intro a141 hE142; clear hE140
        refine q_step (v := .bool (!decide ((images.length : Int) = (ap1.length : Int)))) hE142 (y_pick (b := false) rfl rfl) rfl rfl rfl ?_; intro a143 hE144; clear hE142
        refine q_step (v := .bool (!decide ((images.length : Int) = (ap1.length : Int)))) hE144 (y_move rfl) rfl rfl rfl ?_; intro a145 hE146; clear hE144
        rcases Bool.eq_false_or_eq_true (!decide ((images.length : Int) = (ap1.length : Int))) with hb147 | hb147
        ·
          have hE148 := hE146; rw [hb147] at hE148; clear hE146
          have ht149 := bn_t hb147
          have hp150 := of_decide_eq_false ht149
          refine q_skip hE148 rfl rfl rfl ?_; intro a151 hE152; clear hE148
          refine q_skip hE152 rfl rfl rfl ?_; intro a153 hE154; clear hE152
          refine q_skip hE154 rfl rfl rfl ?_; intro a155 hE156; clear hE154
          refine q_skip hE156 rfl rfl rfl ?_; intro a157 hE158; clear hE156
          refine q_skip hE158 rfl rfl rfl ?_; intro a159 hE160; clear hE158
          refine q_step (v := .bool true) hE160 (y_pick (b := true) rfl rfl) rfl rfl rfl ?_; intro a161 hE162; clear hE160
          refine c_nil ?_
          have hE163 := hE162.sub (L' := [(2, .slice imagesA images.length imagesC), (3, .pointer (some ⟨b4, 0, none⟩)), (4, .pointer (some ⟨b10, 0, none⟩)), (30, .bool true)]) ⟨rfl, rfl, rfl, rfl, trivial⟩; clear hE162
          refine p_tn ?_
          have hE164 := hE163.sub (L' := [(2, .slice imagesA images.length imagesC), (3, .pointer (some ⟨b4, 0, none⟩)), (4, .pointer (some ⟨b10, 0, none⟩)), (30, .bool true)]) ⟨rfl, rfl, rfl, rfl, trivial⟩
          have hS165 := (St.pick (Γ' := [.rd 1 bp1A bp1.length bp1C bp1, .blk b10 #[.int .i64 bp0, .slice bp1A bp1.length bp1C] 43, .rd 1 ap1A ap1.length ap1C ap1, .blk b4 #[.int .i64 ap0, .slice ap1A ap1.length ap1C] 43, .rd 1 imagesA images.length imagesC images]) hS86 [3, 0, 4, 1, 2] (by decide) rfl)
          exact ⟨(by rw [hb147, hb94, hb33]; exact hE164), hS165⟩
        ·
          have hE166 := hE146; rw [hb147] at hE166; clear hE146
          have ht167 := bn_f hb147
          have hp168 := of_decide_eq_true ht167
          refine q_step (v := .pointer (some ⟨b10, 0, none⟩)) hE166 (y_field rfl (fun _ => by kernel_rfl)) rfl rfl rfl ?_; intro a169 hE170; clear hE166
          refine q_step (v := .int .i64 bp0) hE170 (y_load (fun _ => by kernel_rfl) rfl (St.cell (i := 0) hS86 rfl rfl)) rfl rfl rfl ?_; intro a171 hE172; clear hE170
          refine q_step (v := .slice imagesA images.length imagesC) hE172 (y_move rfl) rfl rfl rfl ?_; intro a173 hE174; clear hE172
          refine l_step hE174 rfl (l_call (f := 73) (argv := [.int .i64 bp0, .slice imagesA images.length imagesC]) hE174 (fun _ => cf_l01Masks _ _) rfl rfl (c_l01Masks bp0 imagesA images.length imagesC images w83 (St.rdR (i := 2) hS86 rfl) (by omega) (by omega)) ?_)
          rintro _ w176 ⟨rfl, he180⟩ a177 hE178; clear hE174
          have hS179 := St.go hS86 he180; clear hS86
          refine q_step (v := .bool (!(F_l01Masks bp0 images))) hE178 (y_not rfl) rfl rfl rfl ?_; intro a181 hE182; clear hE178
          refine q_step (v := .bool (!(F_l01Masks bp0 images))) hE182 (y_pick (b := false) rfl rfl) rfl rfl rfl ?_; intro a183 hE184; clear hE182
          refine c_nil ?_
          have hE185 := hE184.sub (L' := [(2, .slice imagesA images.length imagesC), (3, .pointer (some ⟨b4, 0, none⟩)), (4, .pointer (some ⟨b10, 0, none⟩)), (30, .bool (!(F_l01Masks bp0 images)))]) ⟨rfl, rfl, rfl, rfl, trivial⟩; clear hE184
          refine p_tn ?_
          have hE186 := hE185.sub (L' := [(2, .slice imagesA images.length imagesC), (3, .pointer (some ⟨b4, 0, none⟩)), (4, .pointer (some ⟨b10, 0, none⟩)), (30, .bool (!(F_l01Masks bp0 images)))]) ⟨rfl, rfl, rfl, rfl, trivial⟩
          have hS187 := (St.pick (Γ' := [.rd 1 bp1A bp1.length bp1C bp1, .blk b10 #[.int .i64 bp0, .slice bp1A bp1.length bp1C] 43, .rd 1 ap1A ap1.length ap1C ap1, .blk b4 #[.int .i64 ap0, .slice ap1A ap1.length ap1C] 43, .rd 1 imagesA images.length imagesC images]) hS179 [3, 0, 4, 1, 2] (by decide) rfl)
          exact ⟨(by rw [hb147, hb94, hb33]; exact hE186), hS187⟩
  ·
    rintro a188 w189 ⟨hE190, hS191⟩; clear hE20 hS14
    refine c_cond hE190 rfl (fun ht192 => ?_) (fun ht192 => ?_)
    ·
      have hE193 := hE190; rw [ht192] at hE193; clear hE190
      refine c_seq ?_
      refine c_reg ?_
      refine q_step (v := .bool false) hE193 (y_assign rfl) rfl rfl rfl ?_; intro a194 hE195; clear hE193
      refine q_step (v := .int .i64 1) hE195 (y_assign rfl) rfl rfl rfl ?_; intro a196 hE197; clear hE195
      refine c_nil ?_
      have hE198 := hE197.sub (L' := [(6, .bool false), (7, .int .i64 1)]) ⟨rfl, rfl, trivial⟩; clear hE197
      refine p_tn ?_
      refine wp_ret ?_
      refine p_tr ?_
      have hF : F_s_IsHomomorphism ap0 ap1 bp0 bp1 images = (false, 1) := by unfold F_s_IsHomomorphism; rw [ht192]; first | done | rfl
      refine c_ret2 hE198 rfl rfl rfl ?_
      exact ⟨(by rw [hF]; first | done | rfl), hS191.ext⟩
    ·
      obtain ⟨ht199, ht200⟩ := bor_f ht192
      have ht201 := bn_f ht199
      have hp202 := l15Is_t ht201
      obtain ⟨ht203, ht204⟩ := bor_f ht200
      have ht205 := bn_f ht203
      have hp206 := l15Is_t ht205
      obtain ⟨ht207, ht208⟩ := bor_f ht204
      have ht209 := bn_f ht207
      have hp210 := of_decide_eq_true ht209
      have ht211 := bn_f ht208
      have hE212 := hE190; rw [ht192] at hE212; clear hE190
      refine wp_skip ?_
      refine p_tn ?_
      refine c_seq ?_
      refine c_reg ?_
      refine q_step (v := .agg #[.int .i64 ap0, .slice ap1A ap1.length ap1C]) hE212 (y_loadS Try.underlying43 rfl (by kernel_rfl) rfl (St.row (i := 3) hS191 rfl)) rfl rfl rfl ?_; intro a213 hE214; clear hE212
      refine q_step (v := .agg #[.int .i64 bp0, .slice bp1A bp1.length bp1C]) hE214 (y_loadS Try.underlying43 rfl (by kernel_rfl) rfl (St.row (i := 1) hS191 rfl)) rfl rfl rfl ?_; intro a215 hE216; clear hE214
      refine q_step (v := .slice imagesA images.length imagesC) hE216 (y_move rfl) rfl rfl rfl ?_; intro a217 hE218; clear hE216
      refine l_step hE218 rfl (l_call (f := 74) (argv := [.agg #[.int .i64 ap0, .slice ap1A ap1.length ap1C], .agg #[.int .i64 bp0, .slice bp1A bp1.length bp1C], .slice imagesA images.length imagesC]) hE218 (fun _ => cf_l15Keeps _ _) rfl rfl (c_l15Keeps ap0 ap1A ap1.length ap1C ap1 bp0 bp1A bp1.length bp1C bp1 imagesA images.length imagesC images w189 (St.rdR (i := 2) hS191 rfl) (St.rdR (i := 0) hS191 rfl) (St.rdR (i := 4) hS191 rfl) (by omega) (by omega) (by omega) (by omega) (by omega) (l15Is_t (by assumption)).2.2 (masks_mem (by assumption))) ?_)
      rintro _ w220 ⟨rfl, he224⟩ a221 hE222; clear hE218
      have hS223 := St.go hS191 he224; clear hS191
      refine q_step (v := .bool (F_l15Keeps ap0 ap1 bp0 bp1 images)) hE222 (y_assign rfl) rfl rfl rfl ?_; intro a225 hE226; clear hE222
      refine q_step (v := .int .i64 0) hE226 (y_assign rfl) rfl rfl rfl ?_; intro a227 hE228; clear hE226
      refine c_nil ?_
      have hE229 := hE228.sub (L' := [(6, .bool (F_l15Keeps ap0 ap1 bp0 bp1 images)), (7, .int .i64 0)]) ⟨rfl, rfl, trivial⟩; clear hE228
      refine p_tn ?_
      refine wp_ret ?_
      have hF : F_s_IsHomomorphism ap0 ap1 bp0 bp1 images = (F_l15Keeps ap0 ap1 bp0 bp1 images, 0) := by unfold F_s_IsHomomorphism; rw [ht192]; first | done | rfl
      refine c_ret2 hE229 rfl rfl rfl ?_
      exact ⟨(by rw [hF]; first | done | rfl), hS223.ext⟩

def F_IsHomomorphism (ap0 : Int) (ap1 : List Int) (bp0 : Int) (bp1 : List Int) (images : List Int) : (Bool) × (Int) :=
  bif ((!(F_isModalAlgebra ap0 ap1)) || ((!(F_isModalAlgebra bp0 bp1)) || ((!decide ((images.length : Int) = (ap1.length : Int))) || (!(F_ModalAlgebra_areElements bp0 bp1 images))))) then (false, 1) else (F_isHomomorphism ap0 ap1 bp0 bp1 images, 0)
theorem cf_IsHomomorphism (args : Array Value) (w : World) : (callFunc 31 args).run Try.prog w = .ok (.enter 31 args) w := by kernel_rfl
set_option maxRecDepth 100000 in
theorem c_IsHomomorphism (ap0 : Int) (ap1A : Option Addr) (ap1N ap1C : Nat) (ap1 : List Int) (bp0 : Int) (bp1A : Option Addr) (bp1N bp1C : Nat) (bp1 : List Int) (imagesA : Option Addr) (imagesN imagesC : Nat) (images : List Int) (w : World) (ap1R : RdS w 1 ap1A ap1N ap1C ap1) (bp1R : RdS w 1 bp1A bp1N bp1C bp1) (imagesR : RdS w 1 imagesA imagesN imagesC images) :
    Calls Try.prog 31 #[.agg #[.int .i64 ap0, .slice ap1A ap1N ap1C], .agg #[.int .i64 bp0, .slice bp1A bp1N bp1C], .slice imagesA imagesN imagesC] w (Ret fun v w' => v = .tuple #[.bool ((F_IsHomomorphism ap0 ap1 bp0 bp1 images).1), .int .i64 ((F_IsHomomorphism ap0 ap1 bp0 bp1 images).2)] ∧ Ext w w') := by
  obtain rfl : ap1N = ap1.length := ap1R.len1.symm
  have ap1Le := ap1R.le
  obtain rfl : bp1N = bp1.length := bp1R.len1.symm
  have bp1Le := bp1R.le
  obtain rfl : imagesN = images.length := imagesR.len1.symm
  have imagesLe := imagesR.le
  have hS := St.nil w
  have hS1 := St.rd0 hS rfl ap1R; clear hS
  have hS2 := St.rd0 hS1 rfl bp1R; clear hS1
  have hS3 := St.rd0 hS2 rfl imagesR; clear hS2
  refine enter (args := [.agg #[.int .i64 ap0, .slice ap1A ap1.length ap1C], .agg #[.int .i64 bp0, .slice bp1A bp1.length bp1C], .slice imagesA images.length imagesC]) Try.func31 rfl rfl ?_
  rw [Try.ntmps31]; intro a hE
  have hE := hE.sub (L' := [(0, .agg #[.int .i64 ap0, .slice ap1A ap1.length ap1C]), (1, .agg #[.int .i64 bp0, .slice bp1A bp1.length bp1C]), (2, .slice imagesA images.length imagesC)]) ⟨rfl, rfl, rfl, trivial⟩
  refine c_seq ?_
  refine c_reg ?_
  refine l_step hE rfl (l_box (v := .agg #[.int .i64 ap0, .slice ap1A ap1.length ap1C]) (cs := #[.int .i64 ap0, .slice ap1A ap1.length ap1C]) hS3 hE rfl rfl rfl ?_)
  intro b4 w5 hS8 he9 a6 hE7; clear hS3 hE
  refine l_step hE7 rfl (l_box (v := .agg #[.int .i64 bp0, .slice bp1A bp1.length bp1C]) (cs := #[.int .i64 bp0, .slice bp1A bp1.length bp1C]) hS8 hE7 rfl rfl rfl ?_)
  intro b10 w11 hS14 he15 a12 hE13; clear hS8 hE7
  refine q_step (v := .bool false) hE13 (y_assign rfl) rfl rfl rfl ?_; intro a16 hE17; clear hE13
  refine q_step (v := .int .i64 0) hE17 (y_assign rfl) rfl rfl rfl ?_; intro a18 hE19; clear hE17
  refine c_nil ?_
  have hE20 := hE19.sub (L' := [(2, .slice imagesA images.length imagesC), (3, .pointer (some ⟨b4, 0, none⟩)), (4, .pointer (some ⟨b10, 0, none⟩))]) ⟨rfl, rfl, rfl, trivial⟩; clear hE19
  refine p_tn ?_
  refine c_seq ?_
  refine c_cut (fun a' w' => E a' 34 [(2, .slice imagesA images.length imagesC), (3, .pointer (some ⟨b4, 0, none⟩)), (4, .pointer (some ⟨b10, 0, none⟩)), (29, .bool ((!(F_isModalAlgebra ap0 ap1)) || ((!(F_isModalAlgebra bp0 bp1)) || ((!decide ((images.length : Int) = (ap1.length : Int))) || (!(F_ModalAlgebra_areElements bp0 bp1 images))))))] ∧ St w w' [.rd 1 bp1A bp1.length bp1C bp1, .blk b10 #[.int .i64 bp0, .slice bp1A bp1.length bp1C] 43, .rd 1 ap1A ap1.length ap1C ap1, .blk b4 #[.int .i64 ap0, .slice ap1A ap1.length ap1C] 43, .rd 1 imagesA images.length imagesC images]) ?_ ?_
  ·
    refine c_reg ?_
    refine q_step (v := .agg #[.int .i64 ap0, .slice ap1A ap1.length ap1C]) hE20 (y_loadS Try.underlying43 rfl (by kernel_rfl) rfl (St.row (i := 1) hS14 rfl)) rfl rfl rfl ?_; intro a21 hE22; clear hE20
    refine l_step hE22 rfl (l_call (f := 75) (argv := [.agg #[.int .i64 ap0, .slice ap1A ap1.length ap1C]]) hE22 (fun _ => cf_isModalAlgebra _ _) rfl rfl (c_isModalAlgebra ap0 ap1A ap1.length ap1C ap1 w11 (St.rdR (i := 4) hS14 rfl)) ?_)
    rintro _ w24 ⟨rfl, he28⟩ a25 hE26; clear hE22
    have hS27 := St.go hS14 he28; clear hS14
    refine q_step (v := .bool (!(F_isModalAlgebra ap0 ap1))) hE26 (y_not rfl) rfl rfl rfl ?_; intro a29 hE30; clear hE26
    refine q_step (v := .bool (!(F_isModalAlgebra ap0 ap1))) hE30 (y_move rfl) rfl rfl rfl ?_; intro a31 hE32; clear hE30
    rcases Bool.eq_false_or_eq_true (!(F_isModalAlgebra ap0 ap1)) with hb33 | hb33
    ·
      have hE34 := hE32; rw [hb33] at hE34; clear hE32
      have ht35 := bn_t hb33
      refine q_skip hE34 rfl rfl rfl ?_; intro a36 hE37; clear hE34
      refine q_skip hE37 rfl rfl rfl ?_; intro a38 hE39; clear hE37
      refine q_skip hE39 rfl rfl rfl ?_; intro a40 hE41; clear hE39
      refine q_step (v := .bool true) hE41 (y_pick (b := true) rfl rfl) rfl rfl rfl ?_; intro a42 hE43; clear hE41
      refine q_step (v := .bool true) hE43 (y_move rfl) rfl rfl rfl ?_; intro a44 hE45; clear hE43
      refine q_skip hE45 rfl rfl rfl ?_; intro a46 hE47; clear hE45
      refine q_skip hE47 rfl rfl rfl ?_; intro a48 hE49; clear hE47
      refine q_skip hE49 rfl rfl rfl ?_; intro a50 hE51; clear hE49
      refine q_skip hE51 rfl rfl rfl ?_; intro a52 hE53; clear hE51
      refine q_skip hE53 rfl rfl rfl ?_; intro a54 hE55; clear hE53
      refine q_skip hE55 rfl rfl rfl ?_; intro a56 hE57; clear hE55
      refine q_step (v := .bool true) hE57 (y_pick (b := true) rfl rfl) rfl rfl rfl ?_; intro a58 hE59; clear hE57
      refine q_step (v := .bool true) hE59 (y_move rfl) rfl rfl rfl ?_; intro a60 hE61; clear hE59
      refine q_skip hE61 rfl rfl rfl ?_; intro a62 hE63; clear hE61
      refine q_skip hE63 rfl rfl rfl ?_; intro a64 hE65; clear hE63
      refine q_skip hE65 rfl rfl rfl ?_; intro a66 hE67; clear hE65
      refine q_skip hE67 rfl rfl rfl ?_; intro a68 hE69; clear hE67
      refine q_step (v := .bool true) hE69 (y_pick (b := true) rfl rfl) rfl rfl rfl ?_; intro a70 hE71; clear hE69
      refine c_nil ?_
      have hE72 := hE71.sub (L' := [(2, .slice imagesA images.length imagesC), (3, .pointer (some ⟨b4, 0, none⟩)), (4, .pointer (some ⟨b10, 0, none⟩)), (29, .bool true)]) ⟨rfl, rfl, rfl, rfl, trivial⟩; clear hE71
      refine p_tn ?_
      have hE73 := hE72.sub (L' := [(2, .slice imagesA images.length imagesC), (3, .pointer (some ⟨b4, 0, none⟩)), (4, .pointer (some ⟨b10, 0, none⟩)), (29, .bool true)]) ⟨rfl, rfl, rfl, rfl, trivial⟩
      have hS74 := (St.pick (Γ' := [.rd 1 bp1A bp1.length bp1C bp1, .blk b10 #[.int .i64 bp0, .slice bp1A bp1.length bp1C] 43, .rd 1 ap1A ap1.length ap1C ap1, .blk b4 #[.int .i64 ap0, .slice ap1A ap1.length ap1C] 43, .rd 1 imagesA images.length imagesC images]) hS27 [3, 0, 4, 1, 2] (by decide) rfl)
      exact ⟨(by rw [hb33]; exact hE73), hS74⟩
    ·
      have hE75 := hE32; rw [hb33] at hE75; clear hE32
      have ht76 := bn_f hb33
      have hp77 := isModal_t ht76
      refine q_step (v := .agg #[.int .i64 bp0, .slice bp1A bp1.length bp1C]) hE75 (y_loadS Try.underlying43 rfl (by kernel_rfl) rfl (St.row (i := 0) hS27 rfl)) rfl rfl rfl ?_; intro a78 hE79; clear hE75
      refine l_step hE79 rfl (l_call (f := 75) (argv := [.agg #[.int .i64 bp0, .slice bp1A bp1.length bp1C]]) hE79 (fun _ => cf_isModalAlgebra _ _) rfl rfl (c_isModalAlgebra bp0 bp1A bp1.length bp1C bp1 w24 (St.rdR (i := 3) hS27 rfl)) ?_)
      rintro _ w81 ⟨rfl, he85⟩ a82 hE83; clear hE79
      have hS84 := St.go hS27 he85; clear hS27
      refine q_step (v := .bool (!(F_isModalAlgebra bp0 bp1))) hE83 (y_not rfl) rfl rfl rfl ?_; intro a86 hE87; clear hE83
      refine q_step (v := .bool (!(F_isModalAlgebra bp0 bp1))) hE87 (y_pick (b := false) rfl rfl) rfl rfl rfl ?_; intro a88 hE89; clear hE87
      refine q_step (v := .bool (!(F_isModalAlgebra bp0 bp1))) hE89 (y_move rfl) rfl rfl rfl ?_; intro a90 hE91; clear hE89
      rcases Bool.eq_false_or_eq_true (!(F_isModalAlgebra bp0 bp1)) with hb92 | hb92
      ·
        have hE93 := hE91; rw [hb92] at hE93; clear hE91
        have ht94 := bn_t hb92
        refine q_skip hE93 rfl rfl rfl ?_; intro a95 hE96; clear hE93
        refine q_skip hE96 rfl rfl rfl ?_; intro a97 hE98; clear hE96
        refine q_skip hE98 rfl rfl rfl ?_; intro a99 hE100; clear hE98
        refine q_skip hE100 rfl rfl rfl ?_; intro a101 hE102; clear hE100
        refine q_skip hE102 rfl rfl rfl ?_; intro a103 hE104; clear hE102
        refine q_skip hE104 rfl rfl rfl ?_; intro a105 hE106; clear hE104
        refine q_step (v := .bool true) hE106 (y_pick (b := true) rfl rfl) rfl rfl rfl ?_; intro a107 hE108; clear hE106
        refine q_step (v := .bool true) hE108 (y_move rfl) rfl rfl rfl ?_; intro a109 hE110; clear hE108
        refine q_skip hE110 rfl rfl rfl ?_; intro a111 hE112; clear hE110
        refine q_skip hE112 rfl rfl rfl ?_; intro a113 hE114; clear hE112
        refine q_skip hE114 rfl rfl rfl ?_; intro a115 hE116; clear hE114
        refine q_skip hE116 rfl rfl rfl ?_; intro a117 hE118; clear hE116
        refine q_step (v := .bool true) hE118 (y_pick (b := true) rfl rfl) rfl rfl rfl ?_; intro a119 hE120; clear hE118
        refine c_nil ?_
        have hE121 := hE120.sub (L' := [(2, .slice imagesA images.length imagesC), (3, .pointer (some ⟨b4, 0, none⟩)), (4, .pointer (some ⟨b10, 0, none⟩)), (29, .bool true)]) ⟨rfl, rfl, rfl, rfl, trivial⟩; clear hE120
        refine p_tn ?_
        have hE122 := hE121.sub (L' := [(2, .slice imagesA images.length imagesC), (3, .pointer (some ⟨b4, 0, none⟩)), (4, .pointer (some ⟨b10, 0, none⟩)), (29, .bool true)]) ⟨rfl, rfl, rfl, rfl, trivial⟩
        have hS123 := (St.pick (Γ' := [.rd 1 bp1A bp1.length bp1C bp1, .blk b10 #[.int .i64 bp0, .slice bp1A bp1.length bp1C] 43, .rd 1 ap1A ap1.length ap1C ap1, .blk b4 #[.int .i64 ap0, .slice ap1A ap1.length ap1C] 43, .rd 1 imagesA images.length imagesC images]) hS84 [3, 0, 4, 1, 2] (by decide) rfl)
        exact ⟨(by rw [hb92, hb33]; exact hE122), hS123⟩
      ·
        have hE124 := hE91; rw [hb92] at hE124; clear hE91
        have ht125 := bn_f hb92
        have hp126 := isModal_t ht125
        refine q_step (v := .slice imagesA images.length imagesC) hE124 (y_move rfl) rfl rfl rfl ?_; intro a127 hE128; clear hE124
        refine q_step (v := .int .i64 (images.length : Int)) hE128 (y_len (e := 2) (by kernel_rfl) rfl) rfl rfl rfl ?_; intro a129 hE130; clear hE128
        refine q_step (v := .pointer (some ⟨b4, 1, none⟩)) hE130 (y_field rfl (fun _ => by kernel_rfl)) rfl rfl rfl ?_; intro a131 hE132; clear hE130
        refine q_step (v := .slice ap1A ap1.length ap1C) hE132 (y_load (fun _ => by kernel_rfl) rfl (St.cell (i := 1) hS84 rfl rfl)) rfl rfl rfl ?_; intro a133 hE134; clear hE132
        refine q_step (v := .int .i64 (ap1.length : Int)) hE134 (y_len (e := 2) (by kernel_rfl) rfl) rfl rfl rfl ?_; intro a135 hE136; clear hE134
        refine q_step (v := .bool (!decide ((images.length : Int) = (ap1.length : Int)))) hE136 (y_neq rfl rfl) rfl rfl rfl ?_; intro a137 hE138; clear hE136
        refine q_step (v := .bool (!decide ((images.length : Int) = (ap1.length : Int)))) hE138 (y_pick (b := false) rfl rfl) rfl rfl rfl ?_; intro a139 hE140; clear hE138
        refine q_step (v := .bool (!decide ((images.length : Int) = (ap1.length : Int)))) hE140 (y_move rfl) rfl rfl rfl ?_; intro a141 hE142; clear hE140
        rcases Bool.eq_false_or_eq_true (!decide ((images.length : Int) = (ap1.length : Int))) with hb143 | hb143
        ·
          have hE144 := hE142; rw [hb143] at hE144; clear hE142
          have ht145 := bn_t hb143
          have hp146 := of_decide_eq_false ht145
          refine q_skip hE144 rfl rfl rfl ?_; intro a147 hE148; clear hE144
          refine q_skip hE148 rfl rfl rfl ?_; intro a149 hE150; clear hE148
          refine q_skip hE150 rfl rfl rfl ?_; intro a151 hE152; clear hE150
          refine q_skip hE152 rfl rfl rfl ?_; intro a153 hE154; clear hE152
          refine q_step (v := .bool true) hE154 (y_pick (b := true) rfl rfl) rfl rfl rfl ?_; intro a155 hE156; clear hE154
          refine c_nil ?_
          have hE157 := hE156.sub (L' := [(2, .slice imagesA images.length imagesC), (3, .pointer (some ⟨b4, 0, none⟩)), (4, .pointer (some ⟨b10, 0, none⟩)), (29, .bool true)]) ⟨rfl, rfl, rfl, rfl, trivial⟩; clear hE156
          refine p_tn ?_
          have hE158 := hE157.sub (L' := [(2, .slice imagesA images.length imagesC), (3, .pointer (some ⟨b4, 0, none⟩)), (4, .pointer (some ⟨b10, 0, none⟩)), (29, .bool true)]) ⟨rfl, rfl, rfl, rfl, trivial⟩
          have hS159 := (St.pick (Γ' := [.rd 1 bp1A bp1.length bp1C bp1, .blk b10 #[.int .i64 bp0, .slice bp1A bp1.length bp1C] 43, .rd 1 ap1A ap1.length ap1C ap1, .blk b4 #[.int .i64 ap0, .slice ap1A ap1.length ap1C] 43, .rd 1 imagesA images.length imagesC images]) hS84 [3, 0, 4, 1, 2] (by decide) rfl)
          exact ⟨(by rw [hb143, hb92, hb33]; exact hE158), hS159⟩
        ·
          have hE160 := hE142; rw [hb143] at hE160; clear hE142
          have ht161 := bn_f hb143
          have hp162 := of_decide_eq_true ht161
          refine q_step (v := .agg #[.int .i64 bp0, .slice bp1A bp1.length bp1C]) hE160 (y_loadS Try.underlying43 rfl (by kernel_rfl) rfl (St.row (i := 0) hS84 rfl)) rfl rfl rfl ?_; intro a163 hE164; clear hE160
          refine q_step (v := .slice imagesA images.length imagesC) hE164 (y_move rfl) rfl rfl rfl ?_; intro a165 hE166; clear hE164
          refine l_step hE166 rfl (l_call (f := 76) (argv := [.agg #[.int .i64 bp0, .slice bp1A bp1.length bp1C], .slice imagesA images.length imagesC]) hE166 (fun _ => cf_ModalAlgebra_areElements _ _) rfl rfl (c_ModalAlgebra_areElements bp0 bp1A bp1.length bp1C bp1 imagesA images.length imagesC images w81 (St.rdR (i := 3) hS84 rfl) (St.rdR (i := 2) hS84 rfl) (by omega) (by omega)) ?_)
          rintro _ w168 ⟨rfl, he172⟩ a169 hE170; clear hE166
          have hS171 := St.go hS84 he172; clear hS84
          refine q_step (v := .bool (!(F_ModalAlgebra_areElements bp0 bp1 images))) hE170 (y_not rfl) rfl rfl rfl ?_; intro a173 hE174; clear hE170
          refine q_step (v := .bool (!(F_ModalAlgebra_areElements bp0 bp1 images))) hE174 (y_pick (b := false) rfl rfl) rfl rfl rfl ?_; intro a175 hE176; clear hE174
          refine c_nil ?_
          have hE177 := hE176.sub (L' := [(2, .slice imagesA images.length imagesC), (3, .pointer (some ⟨b4, 0, none⟩)), (4, .pointer (some ⟨b10, 0, none⟩)), (29, .bool (!(F_ModalAlgebra_areElements bp0 bp1 images)))]) ⟨rfl, rfl, rfl, rfl, trivial⟩; clear hE176
          refine p_tn ?_
          have hE178 := hE177.sub (L' := [(2, .slice imagesA images.length imagesC), (3, .pointer (some ⟨b4, 0, none⟩)), (4, .pointer (some ⟨b10, 0, none⟩)), (29, .bool (!(F_ModalAlgebra_areElements bp0 bp1 images)))]) ⟨rfl, rfl, rfl, rfl, trivial⟩
          have hS179 := (St.pick (Γ' := [.rd 1 bp1A bp1.length bp1C bp1, .blk b10 #[.int .i64 bp0, .slice bp1A bp1.length bp1C] 43, .rd 1 ap1A ap1.length ap1C ap1, .blk b4 #[.int .i64 ap0, .slice ap1A ap1.length ap1C] 43, .rd 1 imagesA images.length imagesC images]) hS171 [3, 0, 4, 1, 2] (by decide) rfl)
          exact ⟨(by rw [hb143, hb92, hb33]; exact hE178), hS179⟩
  ·
    rintro a180 w181 ⟨hE182, hS183⟩; clear hE20 hS14
    refine c_cond hE182 rfl (fun ht184 => ?_) (fun ht184 => ?_)
    ·
      have hE185 := hE182; rw [ht184] at hE185; clear hE182
      refine c_seq ?_
      refine c_reg ?_
      refine q_step (v := .bool false) hE185 (y_assign rfl) rfl rfl rfl ?_; intro a186 hE187; clear hE185
      refine q_step (v := .int .i64 1) hE187 (y_assign rfl) rfl rfl rfl ?_; intro a188 hE189; clear hE187
      refine c_nil ?_
      have hE190 := hE189.sub (L' := [(6, .bool false), (7, .int .i64 1)]) ⟨rfl, rfl, trivial⟩; clear hE189
      refine p_tn ?_
      refine wp_ret ?_
      refine p_tr ?_
      have hF : F_IsHomomorphism ap0 ap1 bp0 bp1 images = (false, 1) := by unfold F_IsHomomorphism; rw [ht184]; first | done | rfl
      refine c_ret2 hE190 rfl rfl rfl ?_
      exact ⟨(by rw [hF]; first | done | rfl), hS183.ext⟩
    ·
      obtain ⟨ht191, ht192⟩ := bor_f ht184
      have ht193 := bn_f ht191
      have hp194 := isModal_t ht193
      obtain ⟨ht195, ht196⟩ := bor_f ht192
      have ht197 := bn_f ht195
      have hp198 := isModal_t ht197
      obtain ⟨ht199, ht200⟩ := bor_f ht196
      have ht201 := bn_f ht199
      have hp202 := of_decide_eq_true ht201
      have ht203 := bn_f ht200
      have hE204 := hE182; rw [ht184] at hE204; clear hE182
      refine wp_skip ?_
      refine p_tn ?_
      refine c_seq ?_
      refine c_reg ?_
      refine q_step (v := .agg #[.int .i64 ap0, .slice ap1A ap1.length ap1C]) hE204 (y_loadS Try.underlying43 rfl (by kernel_rfl) rfl (St.row (i := 3) hS183 rfl)) rfl rfl rfl ?_; intro a205 hE206; clear hE204
      refine q_step (v := .agg #[.int .i64 bp0, .slice bp1A bp1.length bp1C]) hE206 (y_loadS Try.underlying43 rfl (by kernel_rfl) rfl (St.row (i := 1) hS183 rfl)) rfl rfl rfl ?_; intro a207 hE208; clear hE206
      refine q_step (v := .slice imagesA images.length imagesC) hE208 (y_move rfl) rfl rfl rfl ?_; intro a209 hE210; clear hE208
      refine l_step hE210 rfl (l_call (f := 77) (argv := [.agg #[.int .i64 ap0, .slice ap1A ap1.length ap1C], .agg #[.int .i64 bp0, .slice bp1A bp1.length bp1C], .slice imagesA images.length imagesC]) hE210 (fun _ => cf_isHomomorphism _ _) rfl rfl (c_isHomomorphism ap0 ap1A ap1.length ap1C ap1 bp0 bp1A bp1.length bp1C bp1 imagesA images.length imagesC images w181 (St.rdR (i := 2) hS183 rfl) (St.rdR (i := 0) hS183 rfl) (St.rdR (i := 4) hS183 rfl) (by omega) (by omega) (by omega) (by omega) (by omega) (isModal_t (by assumption)).2.2 (areElements_t (by assumption))) ?_)
      rintro _ w212 ⟨rfl, he216⟩ a213 hE214; clear hE210
      have hS215 := St.go hS183 he216; clear hS183
      refine q_step (v := .bool (F_isHomomorphism ap0 ap1 bp0 bp1 images)) hE214 (y_assign rfl) rfl rfl rfl ?_; intro a217 hE218; clear hE214
      refine q_step (v := .int .i64 0) hE218 (y_assign rfl) rfl rfl rfl ?_; intro a219 hE220; clear hE218
      refine c_nil ?_
      have hE221 := hE220.sub (L' := [(6, .bool (F_isHomomorphism ap0 ap1 bp0 bp1 images)), (7, .int .i64 0)]) ⟨rfl, rfl, trivial⟩; clear hE220
      refine p_tn ?_
      refine wp_ret ?_
      have hF : F_IsHomomorphism ap0 ap1 bp0 bp1 images = (F_isHomomorphism ap0 ap1 bp0 bp1 images, 0) := by unfold F_IsHomomorphism; rw [ht184]; first | done | rfl
      refine c_ret2 hE221 rfl rfl rfl ?_
      exact ⟨(by rw [hF]; first | done | rfl), hS215.ext⟩

theorem anI_full {n x : Int} (h0 : 0 ≤ n) (h1 : n ≤ 62) (hx : 0 ≤ x) (hx1 : x ≤ fullI n) : anI (fullI n) x = fullI n - x := by
  have hf := fullI_bd h0 h1
  obtain ⟨h4, h5, h6⟩ := anI_testBit (m := fullI n) (k := x) (by omega) (by omega) hx (by omega)
  have e : (fullI n).toNat = 2 ^ n.toNat - 1 := by
    unfold fullI
    have : ((2 : Int) ^ n.toNat) = ((2 ^ n.toNat : Nat) : Int) := by norm_cast
    rw [this]; omega
  have hlt : x.toNat < 2 ^ n.toNat := by
    have : 0 < 2 ^ n.toNat := Nat.pow_pos (by decide)
    omega
  have : (anI (fullI n) x).toNat = 2 ^ n.toNat - 1 - x.toNat := by
    apply Nat.eq_of_testBit_eq; intro i
    rw [h6, e, Nat.testBit_two_pow_sub_one, show 2 ^ n.toNat - 1 - x.toNat = 2 ^ n.toNat - (x.toNat + 1) by omega, Nat.testBit_two_pow_sub_succ hlt]
  omega
theorem Hom_loop2 (images : List Int) (x : Int) (r : Nat) (y : Int) : F_isHomomorphism_L2 images x r y = F_l15Keeps_L2 images x r y := by
  induction r generalizing y with
  | zero => rfl
  | succ r ih =>
    show F_isHomomorphism_L2b images x _ y = F_l15Keeps_L2b images x _ y
    unfold F_isHomomorphism_L2b F_l15Keeps_L2b
    rw [ih]
theorem Hom_loop1 (ap0 : Int) (ap1 : List Int) (bp0 : Int) (bp1 : List Int) (images : List Int) (ha : 0 ≤ ap0 ∧ ap0 ≤ 5) (hb : 0 ≤ bp0 ∧ bp0 ≤ 5) (hl : (images.length : Int) = fullI ap0 + 1) (hxi : ∀ m : Int, 0 ≤ m → m < (images.length : Int) → 0 ≤ gI images m ∧ gI images m ≤ fullI bp0) (r : Nat) (x : Int) (hx : 0 ≤ x) : F_isHomomorphism_L1 ap0 ap1 bp0 bp1 images r x = F_l15Keeps_L1 ap0 ap1 bp0 bp1 images r x := by
  induction r generalizing x with
  | zero => rfl
  | succ r ih =>
    show F_isHomomorphism_L1b ap0 ap1 bp0 bp1 images _ x = F_l15Keeps_L1b ap0 ap1 bp0 bp1 images _ x
    unfold F_isHomomorphism_L1b F_l15Keeps_L1b
    rw [show decide (x < (images.length : Int)) = decide (x ≤ fullI ap0) from decide_eq_decide.2 (by omega)]
    by_cases h : x ≤ fullI ap0
    · have hi := hxi x hx (by omega)
      rw [decide_eq_true h, cond_true, cond_true, anI_full ha.1 (by omega) hx h, anI_full hb.1 (by omega) hi.1 hi.2, Hom_loop2, ih _ (by omega)]
    · rw [decide_eq_false h, cond_false, cond_false]
theorem IsHomomorphism_eq (ap0 : Int) (ap1 : List Int) (bp0 : Int) (bp1 : List Int) (images : List Int) : F_IsHomomorphism ap0 ap1 bp0 bp1 images = F_s_IsHomomorphism ap0 ap1 bp0 bp1 images := by
  unfold F_IsHomomorphism F_s_IsHomomorphism
  rw [isModal_eq, isModal_eq, areElements_eq]
  cases h : ((!(F_l15Is ap0 ap1)) || ((!(F_l15Is bp0 bp1)) || ((!decide ((images.length : Int) = (ap1.length : Int))) || (!(F_l01Masks bp0 images)))))
  · rw [cond_false, cond_false]
    obtain ⟨h1, h⟩ := bor_f h
    obtain ⟨h2, h⟩ := bor_f h
    obtain ⟨h3, h4⟩ := bor_f h
    have ha := l15Is_t (bn_f h1)
    have hb := l15Is_t (bn_f h2)
    have hl := of_decide_eq_true (bn_f h3)
    unfold F_isHomomorphism F_l15Keeps
    rw [Hom_loop1 ap0 ap1 bp0 bp1 images ha.1.1 hb.1.1 (by omega) (masks_mem (bn_f h4)) _ _ (by omega), hl, ha.2.1]
  · rw [cond_true, cond_true]

end Go.Proofs.Ytfilpikakdlgbaa
