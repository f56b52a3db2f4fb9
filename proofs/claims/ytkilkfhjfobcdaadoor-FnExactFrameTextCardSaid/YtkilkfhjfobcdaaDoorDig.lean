/- Decimal texts of one digit. -/
import Derived.Test.YtkilkfhjfobcdaaDoorBld
set_option linter.unusedVariables false
set_option linter.unusedSimpArgs false
namespace Go.Proofs.YtkilkfhjfobcdaaDoor
open Go.RowKit
def digS (n : Int) : ByteArray := ⟨#[UInt8.ofNat (48 + n.toNat)]⟩
theorem ten9 {n : Int} (h0 : 0 ≤ n) (h1 : n < 10) : n = 0 ∨ n = 1 ∨ n = 2 ∨ n = 3 ∨ n = 4 ∨ n = 5 ∨ n = 6 ∨ n = 7 ∨ n = 8 ∨ n = 9 := by omega
set_option maxHeartbeats 2000000 in
set_option maxRecDepth 100000 in
theorem c_small (n : Int) (h0 : 0 ≤ n) (h1 : n < 10) (w : World) : Calls Tryd.prog 38 #[.int .i64 n] w (Ret fun v w' => v = .string (digS n) ∧ w = w') := by
  rcases ten9 h0 h1 with rfl | rfl | rfl | rfl | rfl | rfl | rfl | rfl | rfl | rfl <;>
  · go_enter Tryd.func38, Tryd.ntmps38
    go_wp2
    go_ret
    exact ⟨_, rfl, by kernel_rfl, rfl⟩
set_option maxHeartbeats 2000000 in
set_option maxRecDepth 100000 in
theorem c_fmtI (n : Int) (h0 : 0 ≤ n) (h1 : n < 10) (w : World) : Calls Tryd.prog 37 #[.int .i64 n, .int .i64 10] w (Ret fun v w' => v = .string (digS n) ∧ w = w') := by
  have es : ∀ args w, (callFunc 38 args).run Tryd.prog w = .ok (.enter 38 args) w := enters_of Tryd.func38 (by kernel_rfl) rfl
  rcases ten9 h0 h1 with rfl | rfl | rfl | rfl | rfl | rfl | rfl | rfl | rfl | rfl <;>
  · go_enter Tryd.func37, Tryd.ntmps37
    go_wp2_with (go_at_fn 38; refine (c_small _ (by decide) (by decide) _).mono ?_)
    rintro e w1 ⟨_, rfl, rfl, rfl⟩
    go_wp2
    go_ret
    exact ⟨_, rfl, rfl, rfl⟩
set_option maxHeartbeats 2000000 in
set_option maxRecDepth 100000 in
theorem c_fmtS (n : Int) (h0 : 0 ≤ n) (h1 : n < 10) (w : World) : Calls Tryd.prog 32 #[.int .i64 n, .int .i64 10] w (Ret fun v w' => v = .string (digS n) ∧ w = w') := by
  have es : ∀ args w, (callFunc 37 args).run Tryd.prog w = .ok (.enter 37 args) w := enters_of Tryd.func37 (by kernel_rfl) rfl
  go_enter Tryd.func32, Tryd.ntmps32
  go_wp2_with (go_at_fn 37; refine (c_fmtI _ h0 h1 _).mono ?_)
  rintro e w1 ⟨_, rfl, rfl, rfl⟩
  go_wp2
  go_ret
  exact ⟨_, rfl, rfl, rfl⟩
set_option maxHeartbeats 2000000 in
set_option maxRecDepth 100000 in
theorem c_decimal (n : Int) (w : World) (h0 : 0 ≤ n) (h1 : n < 10) : Calls Tryd.prog 24 #[.int .i64 n] w (Ret fun v w' => v = .string (digS n) ∧ w = w') := by
  have es : ∀ args w, (callFunc 32 args).run Tryd.prog w = .ok (.enter 32 args) w := enters_of Tryd.func32 (by kernel_rfl) rfl
  go_enter Tryd.func24, Tryd.ntmps24
  go_wp2_with (go_at_fn 32; refine (c_fmtS _ h0 h1 _).mono ?_)
  rintro e w1 ⟨_, rfl, rfl, rfl⟩
  go_wp2
  go_ret
  exact ⟨_, rfl, rfl, rfl⟩
theorem cf_decimal (args : Array Value) (w : World) : (callFunc 24 args).run Tryd.prog w = .ok (.enter 24 args) w := by kernel_rfl
theorem cell9 (w : World) (x : UInt8) (e : TypeId) : (w.alloc (.cells #[.int .u8 (x.toNat : Int)] e)).cell? ((⟨w.heap.size, 0, none⟩ : Addr).add 0) = some (.int .u8 (x.toNat : Int)) := by
  have : ((⟨w.heap.size, 0, none⟩ : Addr).add 0) = ⟨w.heap.size, 0, none⟩ := rfl
  rw [this, Lib.cell_of_heap (heap_alloc_at w (.cells #[.int .u8 (x.toNat : Int)] e))]; rfl
theorem conv9 (w : World) {n : Int} (hn : (((UInt8.ofNat n.toNat).toNat : Nat) : Int) = n) : (convert 44 9 (.slice (some ⟨w.heap.size, 0, none⟩) 1 1)).run Tryd.prog (w.alloc (.cells #[.int .u8 n] 5)) = .ok (.string ⟨#[UInt8.ofNat n.toNat]⟩) (w.alloc (.cells #[.int .u8 n] 5)) := by
  have h := run_convert_bytes_back (P := Tryd.prog) (w.alloc (.cells #[.int .u8 n] 5)) 44 9 5 ⟨w.heap.size, 0, none⟩ 1 [UInt8.ofNat n.toNat] (by kernel_rfl) (by kernel_rfl) (by kernel_rfl) (fun j hj => by
    simp only [List.length_cons, List.length_nil] at hj
    obtain rfl : j = 0 := by omega
    show _ = some (Value.int .u8 (((UInt8.ofNat n.toNat).toNat : Nat) : Int))
    have h9 := cell9 w (UInt8.ofNat n.toNat) 5
    rw [hn] at h9 ⊢
    exact h9)
  exact h
set_option maxHeartbeats 2000000 in
set_option maxRecDepth 100000 in
theorem c_l01Dec (n : Int) (w : World) (h0 : 0 ≤ n) (h1 : n < 10) : Calls Tryd.prog 18 #[.int .i64 n] w (Ret fun v w' => v = .string (digS n) ∧ Ext w w') := by
  rcases ten9 h0 h1 with rfl | rfl | rfl | rfl | rfl | rfl | rfl | rfl | rfl | rfl <;>
  · go_enter Tryd.func18, Tryd.ntmps18
    go_wp2
    rw [conv9 w (by decide)]
    simp only [Result.andThen]
    rw [Oper.upon_value]
    go_wp2
    go_ret
    exact ⟨_, rfl, by kernel_rfl, (Ext.refl w).alloc _⟩
theorem cf_l01Dec (args : Array Value) (w : World) : (callFunc 18 args).run Tryd.prog w = .ok (.enter 18 args) w := by kernel_rfl
theorem digS_size (n : Int) : (digS n).size = 1 := rfl
theorem sz1 (x : UInt8) : (⟨#[x]⟩ : ByteArray).size = 1 := rfl
theorem sz0 : (⟨#[]⟩ : ByteArray).size = 0 := rfl
section
variable {P : Program} {L : List (Nat × Value)} {ty : TypeId} {pos : String} {af : Array Edge} {gd : Option (Nat × Bool)} {x y : Operand} {t : TypeId}
theorem y_addS {S : World → Prop} {dst : Option Tmp} {a b : ByteArray} {t2 : TypeId} (hx : ev L x = some (.string a)) (hy : ev L y = some (.string b)) (h : a.size + b.size ≤ 4611686018427387904) : Yld P S L ⟨dst, .binOp .add t x y t2, ty, pos, af, gd⟩ (.string (a ++ b)) := fun a' n hE w _ => by
  have hm : ¬ (((a.size + b.size : Nat) : Int) > IntKind.i64.max) := by
    have : IntKind.i64.max = 9223372036854775807 := by decide
    omega
  have he : (Op.stringOp .add a b).run P w = .ok (.string (a ++ b)) w := by unfold Op.stringOp; rw [if_neg hm]; simp
  simp [execOp, hE.eval hx, hE.eval hy, eqGuard, binOp_string_add, he]
theorem y_neqS {S : World → Prop} {dst : Option Tmp} {a b : ByteArray} {t2 : TypeId} (ht : P.underlying t = some .string) (hx : ev L x = some (.string a)) (hy : ev L y = some (.string b)) : Yld P S L ⟨dst, .binOp .neq t x y t2, ty, pos, af, gd⟩ (.bool (!(a.toList == b.toList))) := fun a' n hE w _ => by
  simp [execOp, hE.eval hx, hE.eval hy, eqGuard, binOp_string_neq]
end
theorem cells_app (a b : ByteArray) : Lib.strCells (a ++ b) = Lib.strCells a ++ Lib.strCells b := by
  unfold Lib.strCells
  simp
theorem cf_WriteString (args : Array Value) (w : World) : (callFunc 23 args).run Tryd.prog w = .ok (.enter 23 args) w := by kernel_rfl
theorem cf_String (args : Array Value) (w : World) : (callFunc 26 args).run Tryd.prog w = .ok (.enter 26 args) w := by kernel_rfl
theorem c_WriteS {w0 w : World} {Γ : List Ent} {k b : Nat} {v : Value} (a s : ByteArray) (hS : St w0 w Γ) (hk : Γ[k]? = some (.bld b 46 5 v (Lib.strCells a))) (hlen : a.size + s.size ≤ 1000000) :
    Calls Tryd.prog 23 #[.pointer (some ⟨b, 0, none⟩), .string s] w (Ret fun r w' => ∃ v', r = .tuple #[.int .i64 (s.size : Int), .nilIface] ∧ St w0 w' (Γ.set k (.bld b 46 5 v' (Lib.strCells (a ++ s))))) := by
  rw [cells_app]
  exact c_WriteString s hS hk (by rw [Lib.strCells_length]; exact hlen)
end Go.Proofs.YtkilkfhjfobcdaaDoor
