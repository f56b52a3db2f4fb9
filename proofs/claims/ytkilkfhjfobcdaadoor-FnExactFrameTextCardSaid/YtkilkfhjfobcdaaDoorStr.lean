/- Str: slices whose elements are structs of two or three numbers, parts of slices. No statement about the program is made here. -/
import Derived.Test.YtkilkfhjfobcdaaDoorLoud
import Derived.Lib.AppendZeros
import Derived.Deep.MidRow
set_option linter.unusedVariables false
namespace Go.Proofs.YtkilkfhjfobcdaaDoor
open Go.RowKit

theorem addr_add_add (a : Addr) (k j : Nat) : (a.add k).add j = a.add (k + j) := by
  unfold Addr.add
  by_cases hk : k = 0
  · subst hk; simp
  · by_cases hj : j = 0
    · subst hj; simp
    · simp [hk, hj, Nat.add_assoc]
theorem adr_add (a : Option Addr) (k j : Nat) : (adr a k).add j = adr a (k + j) := addr_add_add _ _ _
/-- Field j of element m of a list of structs of s numbers. -/
def gS (s j : Nat) (xs : List Int) (m : Int) : Int := gi xs (m.toNat * s + j)
/-- The list with another number in field j of element m. -/
def sS (s j : Nat) (xs : List Int) (m y : Int) : List Int := xs.set (m.toNat * s + j) y
theorem sS_len (s j : Nat) (xs : List Int) (m y : Int) : (sS s j xs m y).length = xs.length := by simp [sS]
/-- Elements l .. h - 1. -/
def slI (s : Nat) (xs : List Int) (l h : Int) : List Int := (xs.drop (l.toNat * s)).take ((h.toNat - l.toNat) * s)
/-- Where a part of a slice begins. -/
def subA (a : Option Addr) (l m s : Nat) : Option Addr := if m = l then a else a.map (·.add (l * s))
section
variable {w w0 : World} {Γ : List Ent} {i s : Nat} {a : Option Addr} {n c : Nat} {xs : List Int} {m : Int}
theorem RdS.lenD (h : RdS w s a n c xs) (hs : 0 < s) : xs.length / s = n := by rw [h.1]; exact Nat.mul_div_cancel _ hs
theorem RdS.ev (h : RdS w s a n c xs) (hs : 0 < s) : xs.length = xs.length / s * s := by rw [h.lenD hs]; exact h.1
theorem slI_len (h : xs.length = n * s) {l k : Int} (h1 : k ≤ (n : Int)) : (slI s xs l k).length = (k.toNat - l.toNat) * s := by
  unfold slI
  rw [List.length_take, List.length_drop, h, ← Nat.sub_mul]
  refine Nat.min_eq_left (Nat.mul_le_mul_right _ ?_)
  omega
theorem slI_le (s : Nat) (xs : List Int) (l h : Int) : (slI s xs l h).length ≤ xs.length := by
  unfold slI; rw [List.length_take, List.length_drop]; omega
theorem slI_lenD (hs : 0 < s) (h : xs.length = n * s) {l k : Int} (h1 : k ≤ (n : Int)) : (slI s xs l k).length / s = k.toNat - l.toNat := by
  rw [slI_len h h1]; exact Nat.mul_div_cancel _ hs
theorem RdS.sub (hR : RdS w s a n c xs) {l k : Int} {n' c' : Nat} (m : Nat) (h0 : 0 ≤ l) (h1 : l ≤ k) (h2 : k ≤ (n : Int)) (hm : k.toNat ≤ m) (hm2 : m ≤ c) (hn : k.toNat - l.toNat = n') (hc : m - l.toNat = c') :
    RdS w s (subA a l.toNat m s) n' c' (slI s xs l k) := by
  obtain ⟨e1, e2, e3, e4, e5⟩ := hR
  subst hn; subst hc
  refine ⟨slI_len e1 h2, by omega, by omega, fun hn => ?_, fun j hj => ?_⟩
  · cases a with
    | none => have := e4 rfl; omega
    | some p => unfold subA at hn; split at hn <;> simp at hn
  · have hl := slI_len (l := l) e1 h2
    have hj' : j < (k.toNat - l.toNat) * s := by rw [← hl]; exact hj
    have hpos : 0 < k.toNat - l.toNat := by
      rcases Nat.eq_zero_or_pos (k.toNat - l.toNat) with h | h
      · rw [h] at hj'; simp at hj'
      · exact h
    have hne : m ≠ l.toNat := by omega
    have hb : l.toNat * s + j < xs.length := by
      rw [e1]
      calc l.toNat * s + j < l.toNat * s + (k.toNat - l.toNat) * s := by omega
        _ = k.toNat * s := by rw [← Nat.add_mul]; congr 1; omega
        _ ≤ n * s := Nat.mul_le_mul_right _ (by omega)
    have h5 := e5 (l.toNat * s + j) hb
    have ha : adr (subA a l.toNat m s) j = adr a (l.toNat * s + j) := by
      unfold subA
      rw [if_neg hne]
      cases a with
      | none => have := (e4 rfl).1; omega
      | some p => unfold adr; simp [addr_add_add]
    have hg : gi (slI s xs l k) j = gi xs (l.toNat * s + j) := by
      unfold gi slI
      rw [List.getD_eq_getElem?_getD, List.getD_eq_getElem?_getD, List.getElem?_take_of_lt hj', List.getElem?_drop]
    rw [ha, hg]; exact h5
/-- A part of a slice that is read, as a piece of its own. -/
theorem RdS.subBlk {g l m : Nat} (h : (subA a l m s).map (·.block) = some g) : a.map (·.block) = some g := by
  cases a with
  | none => unfold subA at h; split at h <;> simp at h
  | some p =>
    unfold subA at h
    split at h
    · exact h
    · simp only [Option.map_some, Option.some.injEq] at h ⊢
      rw [← h]; unfold Addr.add; split <;> rfl
theorem St.subR (h : St w0 w Γ) (hi : Γ[i]? = some (.rd s a n c xs)) {l k : Int} {n' c' : Nat} (m : Nat) (h0 : 0 ≤ l) (h1 : l ≤ k) (h2 : k ≤ (n : Int)) (hm : k.toNat ≤ m) (hm2 : m ≤ c) (hn : k.toNat - l.toNat = n') (hc : m - l.toNat = c') :
    St w0 w (.rd s (subA a l.toNat m s) n' c' (slI s xs l k) :: Γ) := by
  have hR := h.rdR hi
  have hx : slI s xs l k ≠ [] → xs ≠ [] := fun h e => h (by subst e; simp [slI])
  have one : ∀ (j : Nat) (d : Ent), Γ[j]? = some d → apt (.rd s (subA a l.toNat m s) n' c' (slI s xs l k)) d := fun j d hj g h1 h2 => by
    refine ⟨trivial, ?_⟩
    have h3 : (Ent.rd s a n c xs).has g := ⟨hx h1.1, RdS.subBlk h1.2⟩
    by_cases e : i = j
    · subst e; rw [hi] at hj; cases hj; trivial
    · exact (h.apart i j _ d e hi hj g h3 h2).2
  refine ⟨h.ext, fun j d hj => ?_, fun j j' d d' hjj hj hj' => ?_⟩
  · cases j with
    | zero => simp at hj; subst hj; exact hR.sub m h0 h1 h2 hm hm2 hn hc
    | succ j => exact h.ok j d hj
  · cases j with
    | zero =>
      simp at hj; subst hj
      cases j' with
      | zero => exact absurd rfl hjj
      | succ j' => exact one j' d' hj'
    | succ j =>
      cases j' with
      | zero => simp at hj'; subst hj'; exact (one j d hj).symm
      | succ j' => exact h.apart j j' d d' (by omega) hj hj'
/-- The cells of an element. -/
def rngA (w : World) (p : Addr) (cs : List Value) : Prop := ∀ j v, cs[j]? = some v → w.cell? (p.add j) = some v
theorem RdS.rng2 (h : RdS w 2 a n c xs) (h0 : 0 ≤ m) (h1 : m < (n : Int)) : ∀ w', Ext w w' → rngA w' (adr a (m.toNat * 2)) [.int .i64 (gS 2 0 xs m), .int .i64 (gS 2 1 xs m)] := fun w' he j v hv => by
  rw [adr_add]
  rcases j with _ | _ | j
  · simp at hv; subst hv; exact h.eltN h0 h1 (j := 0) (by decide) w' he
  · simp at hv; subst hv; exact h.eltN h0 h1 (j := 1) (by decide) w' he
  · simp at hv
theorem RdS.rng3 (h : RdS w 3 a n c xs) (h0 : 0 ≤ m) (h1 : m < (n : Int)) : ∀ w', Ext w w' → rngA w' (adr a (m.toNat * 3)) [.int .i64 (gS 3 0 xs m), .int .i64 (gS 3 1 xs m), .int .i64 (gS 3 2 xs m)] := fun w' he j v hv => by
  rw [adr_add]
  rcases j with _ | _ | _ | j
  · simp at hv; subst hv; exact h.eltN h0 h1 (j := 0) (by decide) w' he
  · simp at hv; subst hv; exact h.eltN h0 h1 (j := 1) (by decide) w' he
  · simp at hv; subst hv; exact h.eltN h0 h1 (j := 2) (by decide) w' he
  · simp at hv
theorem RdS.eltS {j : Nat} (h : RdS w s a n c xs) (h0 : 0 ≤ m) (h1 : m < (n : Int)) (hj : j < s) : ∀ w', Ext w w' → w'.cell? (adr a (m.toNat * s + j)) = some (.int .i64 (gS s j xs m)) := h.eltN h0 h1 hj
end
theorem run_loadVar_rng {P : Program} (w : World) (p : Addr) (ty : TypeId) (cs : List Value) (d : TypeDesc) (hc : rngA w p cs)
    (hu : P.underlying ty = some d) (hd : d.isRow = true) (hi : (P.info? ty).map (·.size) = some cs.length) :
    (loadVar ty p).run P w = .ok (.agg cs.toArray) w := by
  have hl : (loadCells p cs.length).run P w = .ok cs.toArray w := run_loadCells_list (P := P) w p cs (fun j v hv => hc j v hv)
  cases hq : P.info? ty with
  | none => simp [hq] at hi
  | some i =>
    have hs : i.size = cs.length := by simpa [hq] using hi
    have hagg : (isAgg ty).run P w = .ok true w := by
      unfold isAgg
      rw [Sem.run_bind, run_underlying hu w]
      cases d <;> simp_all
    simp [loadVar, Sem.run_bind, hagg, sizeOf, typeInfo, hq, hs, hl]
section
variable {P : Program} {S : World → Prop} {L : List (Nat × Value)} {dst : Option Tmp} {t ty : TypeId} {pos : String} {af : Array Edge} {gd : Option (Nat × Bool)} {x y z : Operand}
theorem y_loadE {p : Addr} {cs : List Value} {d : TypeDesc} (hu : P.underlying t = some d) (hd : d.isRow = true) (hi : (P.info? t).map (·.size) = some cs.length)
    (hx : ev L x = some (.pointer (some p))) (h : ∀ w, S w → rngA w p cs) : Yld P S L ⟨dst, .load t x, ty, pos, af, gd⟩ (.agg cs.toArray) := fun a n hE w hw => by
  simp [execOp, hE.eval hx, Instr.loadAt, Instr.sureAddr, run_loadVar_rng w p t cs d (h w hw) hu hd hi]
theorem y_fieldE {a : Option Addr} {e o f : Nat} (hf : ∀ (w : World) (p : Addr), (Instr.fieldAt t (.pointer (some p)) f).run P w = .ok (.pointer (some (p.add o))) w) (hx : ev L x = some (.pointer (some (adr a e)))) : Yld P S L ⟨dst, .fieldAddr t x f, ty, pos, af, gd⟩ (.pointer (some (adr a (e + o)))) := fun a' n hE w _ => by
  simp [execOp, hE.eval hx, hf, adr_add]
theorem y_fieldV {cs : Array Value} {v : Value} {f : Nat} (hx : ev L x = some (.agg cs)) (h : ∀ w, (Instr.field t (.agg cs) f).run P w = .ok v w) : Yld P S L ⟨dst, .field t x f, ty, pos, af, gd⟩ v := fun a' n hE w _ => by
  simp [execOp, hE.eval hx, h]
variable {a : Option Addr} {n c s n' c' : Nat} {kl kh km : IntKind} {l h m : Int}
theorem y_sliceLH (ht : P.underlying t = some (.slice (P.elem t))) (hz : ∀ w, (sizeOf (P.elem t)).run P w = .ok s w) (hx : ev L x = some (.slice a n c)) (hl : ev L y = some (.int kl l)) (hh : ev L z = some (.int kh h)) (h0 : 0 ≤ l) (h1 : l ≤ h) (h2 : h ≤ (c : Int)) (hn : h.toNat - l.toNat = n') (hc : c - l.toNat = c') :
    Yld P S L ⟨dst, .slice t x (some y) (some z) none, ty, pos, af, gd⟩ (.slice (subA a l.toNat c s) n' c') := fun a' n hE w _ => by
  subst hn; subst hc
  simp [execOp, hE.eval hx, hE.eval hl, hE.eval hh, run_sliceAt_slice (h := ht), run_slice_lh (ht := ht) (h0 := h0) (h1 := h1) (h2 := h2), hz, sliced, subA]
theorem y_sliceL (ht : P.underlying t = some (.slice (P.elem t))) (hz : ∀ w, (sizeOf (P.elem t)).run P w = .ok s w) (hx : ev L x = some (.slice a n c)) (hl : ev L y = some (.int kl l)) (h0 : 0 ≤ l) (h1 : l ≤ (n : Int)) (hn : n - l.toNat = n') (hc : c - l.toNat = c') :
    Yld P S L ⟨dst, .slice t x (some y) none none, ty, pos, af, gd⟩ (.slice (subA a l.toNat c s) n' c') := fun a' n hE w _ => by
  subst hn; subst hc
  simp [execOp, hE.eval hx, hE.eval hl, run_sliceAt_slice (h := ht), run_slice_l (ht := ht) (h0 := h0) (h1 := h1), hz, sliced, subA]
theorem y_sliceH (ht : P.underlying t = some (.slice (P.elem t))) (hz : ∀ w, (sizeOf (P.elem t)).run P w = .ok s w) (hx : ev L x = some (.slice a n c)) (hh : ev L z = some (.int kh h)) (h0 : 0 ≤ h) (h2 : h ≤ (c : Int)) (hn : h.toNat = n') :
    Yld P S L ⟨dst, .slice t x none (some z) none, ty, pos, af, gd⟩ (.slice (subA a 0 c s) n' c) := fun a' n hE w _ => by
  subst hn
  simp [execOp, hE.eval hx, hE.eval hh, run_sliceAt_slice (h := ht), run_slice_h (ht := ht) (h0 := h0) (h2 := h2), hz, sliced, subA]
theorem y_sliceLHM (ht : P.underlying t = some (.slice (P.elem t))) (hz : ∀ w, (sizeOf (P.elem t)).run P w = .ok s w) (hx : ev L x = some (.slice a n c)) (hl : ev L y = some (.int kl l)) (hh : ev L z = some (.int kh h)) {u : Operand} (hm : ev L u = some (.int km m)) (h0 : 0 ≤ l) (h1 : l ≤ h) (h2 : h ≤ m) (h3 : m ≤ (c : Int)) (hn : h.toNat - l.toNat = n') (hc : m.toNat - l.toNat = c') :
    Yld P S L ⟨dst, .slice t x (some y) (some z) (some u), ty, pos, af, gd⟩ (.slice (subA a l.toNat m.toNat s) n' c') := fun a' n hE w _ => by
  subst hn; subst hc
  simp [execOp, hE.eval hx, hE.eval hl, hE.eval hh, hE.eval hm, run_sliceAt_slice (h := ht), run_slice_lhm (ht := ht) (h0 := h0) (h1 := h1) (h2 := h2) (h3 := h3), hz, sliced, subA]
theorem y_nilCheck {p : Addr} (hx : ev L x = some (.pointer (some p))) : Yld P S L ⟨dst, .nilCheck x, ty, pos, af, gd⟩ (.pointer (some p)) := fun a' n hE w _ => by
  simp [execOp, hE.eval hx]
theorem y_cap {p : Option Addr} {m c : Nat} {t : TypeId} (ht : P.underlying t = some (.slice (P.elem t))) (hx : ev L x = some (.slice p m c)) : Yld P S L ⟨dst, .call ⟨.builtin .cap, #[x], #[t]⟩, ty, pos, af, gd⟩ (.int .i64 (c : Int)) := fun a' n hE w _ => by
  simp [execOp, resolve, invoke, builtin, hE.eval hx, run_cap_slice (h := ht), goInt]
theorem y_sliceNil (ht : P.underlying t = some (.slice (P.elem t))) (hz : ∀ w, (sizeOf (P.elem t)).run P w = .ok s w) (hx : ev L x = some (.slice none 0 0)) (hh : ev L z = some (.int kh 0)) :
    Yld P S L ⟨dst, .slice t x none (some z) none, ty, pos, af, gd⟩ (.slice none 0 0) := fun a' n hE w _ => by
  simp [execOp, hE.eval hx, hE.eval hh, run_sliceAt_slice (h := ht), run_slice_h (ht := ht) (h0 := Int.le_refl 0) (h2 := Int.le_refl 0), hz, sliced]
theorem subA_zero (a : Option Addr) (c s : Nat) : subA a 0 c s = a := by
  unfold subA; split
  · rfl
  · cases a with
    | none => rfl
    | some p => simp [Addr.add]
theorem y_slicePre (ht : P.underlying t = some (.slice (P.elem t))) (hz : ∀ w, (sizeOf (P.elem t)).run P w = .ok s w) (hx : ev L x = some (.slice a n c)) (hh : ev L z = some (.int kh h)) (h0 : 0 ≤ h) (h2 : h ≤ (c : Int)) (hn : h.toNat = n') :
    Yld P S L ⟨dst, .slice t x none (some z) none, ty, pos, af, gd⟩ (.slice a n' c) := by
  have := y_sliceH (S := S) (dst := dst) (ty := ty) (pos := pos) (af := af) (gd := gd) ht hz hx hh h0 h2 hn
  rwa [subA_zero] at this
end
/-! writing -/
section
variable {P : Program} {Q : Exit → Act → World → Prop} {a : Act} {n : Nat} {L : List (Nat × Value)} {w w0 : World} {K : Act → World → Prop} {Γ : List Ent} {i : Nat}
variable {ty : TypeId} {pos : String} {af : Array Edge} {gd : Option (Nat × Bool)} {d : Nat} {x y : Operand} {v : Value} {t : TypeId}
theorem St.storeS {e : TypeId} {p : Option Addr} {n c s : Nat} {xs : List Int} (h : St w0 w Γ) (hi : Γ[i]? = some (.own e s p n c xs)) {k : Nat} (hk : k < xs.length) (y : Int) :
    St w0 (w.setCell (adr p k) (.int .i64 y)) (Γ.set i (.own e s p n c (xs.set k y))) ∧ w.frozen? (adr p k) = false := by
  have ho : OwnS w w0.heap.size e s p n c xs := h.ok i _ hi
  have hs : p.isSome = true := by
    cases p with
    | none => have h1 := ho.rd.1; have := (ho.rd.2.2.2.1 rfl).1; subst this; simp at h1; rw [h1] at hk; exact absurd hk (Nat.not_lt_zero _)
    | some q => rfl
  obtain ⟨q, rfl⟩ := Option.isSome_iff_exists.1 hs
  have hb : (adr (some q) k).block = q.block := by rw [adr_block]; rfl
  refine ⟨h.set hi rfl ?_ ?_ (e' := .own e s (some q) n c (xs.set k y)) (ho.store hk y).1 (fun k hk => .inl hk), (ho.store hk y).2⟩
  · refine Below.setCell h.ext ?_ _
    rw [hb]; exact (OwnS.lt ho rfl).1
  · intro g _ hg
    refine setCell_block ?_
    rw [hb]; intro e; exact hg (by simp [Ent.has, e])
theorem lt_flat {m : Int} {n s j : Nat} (h0 : 0 ≤ m) (h1 : m < (n : Int)) (hj : j < s) : m.toNat * s + j < n * s := by
  have h2 : m.toNat + 1 ≤ n := by omega
  calc m.toNat * s + j < m.toNat * s + s := by omega
    _ = (m.toNat + 1) * s := by rw [Nat.succ_mul]
    _ ≤ n * s := Nat.mul_le_mul_right _ h2
/-- A number is stored into a field of an element. -/
theorem l_storeF {k n1 c s j : Nat} {e : TypeId} {b : Option Addr} {xs : List Int} {m z : Int} (hS : St w0 w Γ) (hE : E a n L) (hz : ∀ w, (sizeOf t).run P w = .ok 1 w) (hx : ev L x = some (.pointer (some (adr b (m.toNat * s + j))))) (hy : ev L y = some (.int .i64 z)) (hk : Γ[k]? = some (.own e s b n1 c xs)) (h0 : 0 ≤ m) (h1 : m < n1) (hj : Nat.blt j s = true)
    (hK : ∀ w', St w0 w' (Γ.set k (.own e s b n1 c (sS s j xs m z))) → ∀ a', E a' n L → K a' w') : Oper.wp P ⟨none, .store t x y, ty, pos, af, gd⟩ a w K Q := by
  have hR := hS.rdO hk
  have hj' : j < s := by simpa [Nat.blt_eq] using hj
  have hlt : m.toNat * s + j < xs.length := by rw [hR.1]; exact lt_flat h0 h1 hj'
  obtain ⟨s1, s2⟩ := hS.storeS hk hlt z
  refine l_unit hE rfl (w' := w.setCell (adr b (m.toNat * s + j)) (.int .i64 z)) ?_ (hK _ s1)
  have hr := run_store1 (P := P) (t := t) (w := w) (v := .int .i64 z) (p := adr b (m.toNat * s + j)) hz rfl rfl (hR.eltN h0 h1 hj' w (Ext.refl w)) s2
  simp [execOp, hE.eval hx, hE.eval hy, hr]
/-- A struct of two numbers is stored into an element. -/
theorem l_storeE2 {k n1 c : Nat} {e : TypeId} {b : Option Addr} {xs : List Int} {m u1 u2 : Int} (hS : St w0 w Γ) (hE : E a n L) (hz : ∀ w, (sizeOf t).run P w = .ok 2 w) (hx : ev L x = some (.pointer (some (adr b (m.toNat * 2))))) (hy : ev L y = some (.agg #[.int .i64 u1, .int .i64 u2])) (hk : Γ[k]? = some (.own e 2 b n1 c xs)) (h0 : 0 ≤ m) (h1 : m < n1)
    (hK : ∀ w', St w0 w' (Γ.set k (.own e 2 b n1 c (sS 2 1 (sS 2 0 xs m u1) m u2))) → ∀ a', E a' n L → K a' w') : Oper.wp P ⟨none, .store t x y, ty, pos, af, gd⟩ a w K Q := by
  have hR := hS.rdO hk
  have hkl : k < Γ.length := by
    rcases Nat.lt_or_ge k Γ.length with h | h
    · exact h
    · rw [List.getElem?_eq_none h] at hk; cases hk
  have hlt : m.toNat * 2 + 0 < xs.length := by rw [hR.1]; exact lt_flat h0 h1 (by decide)
  have hlt2 : m.toNat * 2 + 1 < (xs.set (m.toNat * 2 + 0) u1).length := by rw [List.length_set, hR.1]; exact lt_flat h0 h1 (by decide)
  obtain ⟨s1, f1⟩ := hS.storeS hk hlt u1
  have hk1 : (Γ.set k (.own e 2 b n1 c (xs.set (m.toNat * 2 + 0) u1)))[k]? = some (.own e 2 b n1 c (xs.set (m.toNat * 2 + 0) u1)) := by rw [List.getElem?_set_self hkl]
  obtain ⟨s2, f2⟩ := s1.storeS hk1 hlt2 u2
  rw [List.set_set] at s2
  have e0 : True := trivial
  have c1 := hR.eltN h0 h1 (j := 0) (by decide) w (Ext.refl w)
  have c2 := (s1.rdO hk1).eltN h0 h1 (j := 1) (by decide) _ (Ext.refl _)
  refine l_unit hE rfl (w' := (w.setCell (adr b (m.toNat * 2 + 0)) (.int .i64 u1)).setCell (adr b (m.toNat * 2 + 1)) (.int .i64 u2)) ?_ (hK _ s2)
  simp only [Nat.add_zero] at s1 f1 c1 f2 c2 e0 ⊢
  have e1 : (store ((adr b (m.toNat * 2)).add 0) (.int .i64 u1)).run P w = .ok () (w.setCell (adr b (m.toNat * 2)) (.int .i64 u1)) := by
    rw [adr_add, Nat.add_zero, run_store P w _ _ _ rfl]; simp [f1, c1]
  have e2 : (store ((adr b (m.toNat * 2)).add 1) (.int .i64 u2)).run P (w.setCell (adr b (m.toNat * 2)) (.int .i64 u1)) = .ok () ((w.setCell (adr b (m.toNat * 2)) (.int .i64 u1)).setCell (adr b (m.toNat * 2 + 1)) (.int .i64 u2)) := by
    rw [adr_add, run_store P _ _ _ _ rfl]; simp [f2, c2]
  simp only [execOp, hE.eval hx, hE.eval hy, Instr.storeAt, Instr.sureAddr, storeVar, Value.cells, Sem.run_bind, hz]
  simp [storeCells, e1, e2]
theorem madeInts2 (j : Nat) : madeCells (Value.agg #[.int .i64 0, .int .i64 0]).cells (j * 2) = (intV (List.replicate (j * 2) 0)).toArray := by
  apply Array.ext
  · simp [size_madeCells, intV]
  · intro k h1 h2
    simp only [intV, List.map_replicate, List.getElem_toArray, List.getElem_replicate]
    simp only [madeCells, Array.getElem_map, Array.getElem_range, Value.cells]
    rcases Nat.mod_two_eq_zero_or_one k with h | h <;> simp [h]
/-- 'make([]T, m)', T a struct of two numbers. -/
theorem l_make2 {e : TypeId} {m : Int} (hS : St w0 w Γ) (hE : E a n L) (hi : (P.info? e).map (fun i => (i.zero, i.size, i.bytes)) = some (some (.agg #[.int .i64 0, .int .i64 0]), 2, 16)) (hu : P.underlying t = some (.slice e)) (hx : ev L x = some (.int .i64 m)) (hy : ev L y = some (.int .i64 m)) (h0 : 0 ≤ m) (h1 : m ≤ 4294967296) (hn : Nat.blt d n = true) {n' : Nat} (hn' : m.toNat = n')
    (hK : ∀ b w', St w0 w' (.own e 2 b n' n' (List.replicate (m.toNat * 2) 0) :: Γ) → Ext w w' → ∀ a', E a' n ((d, .slice b n' n') :: L) → K a' w') : Oper.wp P ⟨some d, .makeSlice t x y, ty, pos, af, gd⟩ a w K Q := by
  obtain ⟨i, hi, hz, hs, hb⟩ := info_parts hi
  subst hn'
  have hr := run_make (P := P) w t e i (.agg #[.int .i64 0, .int .i64 0]) hu hi hz .i64 .i64 m m h0 (Int.le_refl _) (by rw [hb]; omega) (by omega)
  rw [hs] at hr
  have hc := madeInts2 m.toNat
  rw [hc] at hr
  refine l_val hE rfl hn ?_ (hK (some ⟨w.heap.size, 0, none⟩) _ (hS.mkOwn (by simp) (by unfold maxLen; omega)) ((Ext.refl w).alloc _))
  simp [execOp, hE.eval hx, hE.eval hy, hr]
theorem OwnS.pre {B : Nat} {e : TypeId} {p : Option Addr} {n c s n' : Nat} {xs : List Int} {h : Int} (ho : OwnS w B e s p n c xs) (h0 : 0 ≤ h) (h1 : h ≤ (n : Int)) (hn : h.toNat = n') : OwnS w B e s p n' c (slI s xs 0 h) := by
  subst hn
  have hle : h.toNat ≤ n := by omega
  have hm : h.toNat * s ≤ n * s := Nat.mul_le_mul_right _ hle
  have hx : slI s xs 0 h = xs.take (h.toNat * s) := by simp [slI]
  obtain ⟨hl, ⟨rfl, rfl, rfl⟩ | ⟨g, cur, rfl, h1, h2, h3, h4, h5, h6⟩⟩ := ho.cases
  · have : h.toNat = 0 := by omega
    rw [this] at hx ⊢
    rw [hx]; simp only [Nat.zero_mul, List.take_zero]; exact OwnS.nilS _ _ _ _
  · refine OwnS.mk (by rw [hx, List.length_take, hl]; exact Nat.min_eq_left hm) h1 h2 (by omega) h4 h5 ?_
    have h7 : (cur.toList.take (n * s)).take (h.toNat * s) = (intV xs).take (h.toNat * s) := by rw [h6]
    rw [List.take_take, Nat.min_eq_left hm] at h7
    rw [h7, hx]; simp [intV]
theorem St.pre {k : Nat} {e : TypeId} {p : Option Addr} {n c s n' : Nat} {xs : List Int} {h : Int} (hS : St w0 w Γ) (hk : Γ[k]? = some (.own e s p n c xs)) (h0 : 0 ≤ h) (h1 : h ≤ (n : Int)) (hn : h.toNat = n') : St w0 w (Γ.set k (.own e s p n' c (slI s xs 0 h))) := by
  have ho : OwnS w w0.heap.size e s p n c xs := hS.ok k _ hk
  exact hS.set hk rfl hS.ext (fun _ _ _ => rfl) (e' := .own e s p n' c (slI s xs 0 h)) (ho.pre h0 h1 hn) (fun g hg => .inl hg)
theorem madeInts1 (j : Nat) : madeCells (Value.int .i64 0).cells (j * 1) = (intV (List.replicate (j * 1) 0)).toArray := by
  apply Array.toList_inj.1
  show (madeCells #[.int .i64 0] (j * 1)).toList = _
  rw [toList_madeCells_one]; simp [intV]
/-- 'append(nil, make([]T, m)...)'. -/
theorem l_growz {e tn : TypeId} {i : TypeInfo} {z : Value} {s n' : Nat} {m : Int} (hS : St w0 w Γ) (hE : E a n L) (hu : P.underlying t = some (.slice e)) (hun : P.underlying tn = some (.int .i64)) (hi : P.info? e = some i) (hz : i.zero = some z) (hsz : i.size = s) (hzs : z.cells.size = s) (hzc : ∀ j, madeCells z.cells (j * s) = (intV (List.replicate (j * s) 0)).toArray) (hby : i.bytes ≤ 64)
    (hx : ev L x = some (.slice none 0 0)) (hy : ev L y = some (.int .i64 m)) (h0 : 1 ≤ m) (h1 : m ≤ 4294967296) (hs0 : 0 < s) (hn' : m.toNat = n') (hn : Nat.blt d n = true)
    (hK : ∀ b c w', St w0 w' (.own e s b n' c (List.replicate (m.toNat * s) 0) :: Γ) → Ext w w' → ∀ a', E a' n ((d, .slice b n' c) :: L) → K a' w') : Oper.wp P ⟨some d, .call ⟨.builtin .append, #[x, y], #[t, tn]⟩, ty, pos, af, gd⟩ a w K Q := by
  subst hn'
  have hm : ((m.toNat : Nat) : Int) = m := Int.toNat_of_nonneg (by omega)
  have hby2 : m.toNat * i.bytes ≤ 281474976710656 := Nat.le_trans (Nat.mul_le_mul (show m.toNat ≤ 4294967296 by omega) hby) (by decide)
  have hr := Go.Lib.run_append_nil_zeros (P := P) w t tn ty e i z .i64 .i64 hu hun hi hz m.toNat (by omega) (by omega) (by omega) hby2
  rw [hm] at hr
  have hge := grownCap_ge w m.toNat 0 e
  have hle : grownCap w m.toNat 0 e ≤ maxLen := grownCap_le_maxLen w m.toNat 0 e (by unfold maxLen; omega)
  have hz1 : ∀ j, Builtin.zeroCells z.cells j = (intV (List.replicate (j * s) 0)).toArray := fun j => by
    rw [← hzc j, ← hzs]; rfl
  rw [hz1, hz1] at hr
  generalize grownCap w m.toNat 0 e = c at *
  have hext : Ext w (w.drew.alloc (.cells ((intV (List.replicate (m.toNat * s) 0)).toArray ++ (intV (List.replicate ((c - m.toNat) * s) 0)).toArray) e)) := ((Ext.refl w).drew).alloc _
  refine l_val hE rfl hn ?_ (hK (some ⟨w.heap.size, 0, none⟩) c _ (hS.own hext (OwnS.mk (by simp) (Nat.le_refl _) (heap_alloc_at w.drew _) hge hle ?_ ?_)) hext)
  · simp [execOp, resolve, invoke, builtin, hE.eval hx, hE.eval hy, hr]
  · simp only [Array.size_append, List.size_toArray, intV_len, List.length_replicate]
    rw [← Nat.add_mul]; congr 1; omega
  · simp only [Array.toList_append]
    rw [List.take_append_of_le_length (by simp [intV])]
    rw [List.take_of_length_le (by simp [intV])]
end
end Go.Proofs.YtkilkfhjfobcdaaDoor
