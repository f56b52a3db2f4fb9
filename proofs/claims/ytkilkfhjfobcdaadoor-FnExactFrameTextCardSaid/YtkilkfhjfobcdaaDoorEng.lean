/- Eng: an engine of steps for walks that a program prints: what slots hold, one operation at a time, regions that draw their order. No statement about the program is made here. -/
import Derived.Test.YtkilkfhjfobcdaaDoorBase
import Derived.OrdersHeld
namespace Go.Proofs.YtkilkfhjfobcdaaDoor
open Go.RowKit

theorem bn_t {b : Bool} (h : (!b) = true) : b = false := by cases b <;> simp_all
theorem bn_f {b : Bool} (h : (!b) = false) : b = true := by cases b <;> simp_all
theorem band_t {a b : Bool} (h : (a && b) = true) : a = true ∧ b = true := by cases a <;> cases b <;> simp_all
theorem bor_f {a b : Bool} (h : (a || b) = false) : a = false ∧ b = false := by cases a <;> cases b <;> simp_all
/-- What a slot holds, by a list of slots. -/
def lk : List (Nat × Value) → Nat → Option Value
  | [], _ => none
  | p :: l, t => bif Nat.beq p.1 t then some p.2 else lk l t
structure E (a : Act) (n : Nat) (L : List (Nat × Value)) : Prop where
  size : a.tmps.size = n
  defers : a.defers = []
  get : ∀ t v, lk L t = some v → a.tmps[t]? = some v
def ev (L : List (Nat × Value)) : Operand → Option Value
  | .tmp t => lk L t
  | .const v => some v
  | .global g => some (.pointer (some ⟨g, 0, none⟩))
  | .func f => some (.func (.func f) #[] #[])
theorem E.eval {a : Act} {n : Nat} {L : List (Nat × Value)} (h : E a n L) {x : Operand} {v : Value} (hx : ev L x = some v) : a.eval x = v := by
  cases x with
  | tmp t =>
    have := h.get t v hx
    simp [Act.eval, Array.getD_eq_getD_getElem?, this]
  | const v' => simpa [ev, Act.eval] using hx
  | global g => simpa [ev, Act.eval] using hx
  | func f => simpa [ev, Act.eval] using hx
theorem E.put {a : Act} {n : Nat} {L : List (Nat × Value)} (h : E a n L) {d : Nat} (v : Value) (hd : Nat.blt d n = true) : E (a.put (some d) v) n ((d, v) :: L) := by
  have hd' : d < a.tmps.size := by rw [h.size]; simpa [Nat.blt_eq] using hd
  refine ⟨by simp [Act.put, h.size], h.defers, fun t u ht => ?_⟩
  simp only [lk] at ht
  by_cases e : d = t
  · subst e
    simp at ht
    subst ht
    simp [Act.put, hd']
  · have hb : Nat.beq d t = false := by
      cases hb : Nat.beq d t with
      | false => rfl
      | true => exact absurd (Nat.eq_of_beq_eq_true hb) e
    rw [hb] at ht
    have := h.get t u ht
    simp [Act.put, e, this]
theorem E.putN {a : Act} {n : Nat} {L : List (Nat × Value)} (h : E a n L) (v : Value) : E (a.put none v) n L := h
def subL : List (Nat × Value) → List (Nat × Value) → Prop
  | [], _ => True
  | p :: r, L => lk L p.1 = some p.2 ∧ subL r L
theorem subL_lk {L : List (Nat × Value)} : ∀ {L' : List (Nat × Value)}, subL L' L → ∀ t v, lk L' t = some v → lk L t = some v
  | [], _, t, v, h => by cases h
  | p :: r, hs, t, v, h => by
    simp only [lk] at h
    cases hb : Nat.beq p.1 t with
    | true =>
      rw [hb] at h
      have e := Nat.eq_of_beq_eq_true hb
      simp at h
      rw [← e, ← h]; exact hs.1
    | false =>
      rw [hb] at h
      exact subL_lk hs.2 t v h
theorem E.sub {a : Act} {n : Nat} {L L' : List (Nat × Value)} (h : E a n L) (hs : subL L' L) : E a n L' :=
  ⟨h.size, h.defers, fun t v ht => h.get t v (subL_lk hs t v ht)⟩
def argL : List Value → Nat → List (Nat × Value)
  | [], _ => []
  | v :: r, k => (k, v) :: argL r (k + 1)
theorem argL_lk : ∀ (vs : List Value) (k t : Nat) (v : Value), lk (argL vs k) t = some v → k ≤ t ∧ vs[t - k]? = some v
  | [], _, _, _, h => by cases h
  | u :: r, k, t, v, h => by
    simp only [argL, lk] at h
    cases hb : Nat.beq k t with
    | true =>
      have e := Nat.eq_of_beq_eq_true hb
      subst e
      rw [hb] at h
      simp at h
      subst h
      simp
    | false =>
      rw [hb] at h
      obtain ⟨h1, h2⟩ := argL_lk r (k + 1) t v h
      refine ⟨by omega, ?_⟩
      rw [show t - k = (t - (k + 1)) + 1 by omega]
      simpa using h2
theorem E.start (args : List Value) (n : Nat) (hn : args.length ≤ n) :
    E { tmps := args.toArray ++ Array.replicate (n - args.toArray.size) undef, defers := [] } n (argL args 0) := by
  refine ⟨by simp; omega, rfl, fun t v h => ?_⟩
  obtain ⟨_, h2⟩ := argL_lk args 0 t v h
  simp only [Nat.sub_zero] at h2
  have ht : t < args.length := by
    rcases Nat.lt_or_ge t args.length with h' | h'
    · exact h'
    · rw [List.getElem?_eq_none h'] at h2; cases h2
  rw [Array.getElem?_append_left (by simpa using ht)]
  simpa using h2

def isOk {α β : Type} : Except α β → Bool
  | .ok _ => true
  | .error _ => false
def okD {α β : Type} [Inhabited β] : Except α β → β
  | .ok b => b
  | .error _ => default
def errD {α β : Type} [Inhabited α] : Except α β → α
  | .ok _ => default
  | .error a => a
/-- What a call is known to return. -/
def Ret (Φ : Value → World → Prop) (e : Ending) (w : World) : Prop := ∃ v, e = .returned v ∧ Φ v w

section
variable {P : Program} {ops : Array Oper} {Q : Exit → Act → World → Prop} {a : Act} {n : Nat} {L : List (Nat × Value)} {w : World} {o : Oper} {rest : List Oper} {K : Act → World → Prop}

theorem enter {f : FuncId} {fn : Func} {c : Code} {args : List Value} {Φ : Value → World → Prop} (hf : P.funcs[f]? = some fn) (hb : fn.body = some c) (hn : Nat.ble args.length fn.ntmps = true)
    (h : ∀ a, E a fn.ntmps (argL args 0) → c.wp P (bodyPost P fn (Ret Φ)) a w) : Calls P f args.toArray w (Ret Φ) :=
  calls_of_wp hf hb (h _ (E.start args fn.ntmps (by simpa using hn)))

/-- Is the operation wanted? -/
def want (L : List (Nat × Value)) (ops : Array Oper) (o : Oper) : Option Bool :=
  match o.guard with
  | none => some true
  | some (j, b) => match (ops[j]?).bind (·.dst) with
    | none => none
    | some d => match lk L d with
      | some (.bool c) => some (c == b)
      | some (.tuple _) => some false
      | _ => none
theorem want_spec (hE : E a n L) {b : Bool} (hw : want L ops o = some b) : Region.wanted o (yielded ops a.tmps) = b := by
  unfold want at hw
  unfold Region.wanted
  split at hw
  · rename_i hg; rw [hg]; simpa using hw
  · rename_i j c hg
    rw [hg]
    split at hw
    · cases hw
    · rename_i d hd
      split at hw
      · rename_i c' hc
        have := hE.get d _ hc
        have hy : yielded ops a.tmps j = some c' := by unfold yielded; rw [hd]; simp [this]
        simp only [hy]
        simp only [Option.some.injEq] at hw
        rw [← hw]
        cases c <;> cases c' <;> rfl
      · rename_i c' hc
        have := hE.get d _ hc
        have hy : yielded ops a.tmps j = none := by unfold yielded; rw [hd]; simp [this]
        simp only [hy]
        simp only [Option.some.injEq] at hw
        rw [← hw]
        cases c <;> rfl
      · cases hw

/-- A quiet operation: what it yields, in every world of the class. -/
def Yld (P : Program) (S : World → Prop) (L : List (Nat × Value)) (o : Oper) (v : Value) : Prop :=
  ∀ (a : Act) (n : Nat), E a n L → ∀ w, S w → (execOp a.eval o).run P w = .ok (.value v) w

theorem q_step {v : Value} {d : Nat} (hE : E a n L) (hy : Yld P (fun w' => Ext w w') L o v) (hg : want L ops o = some true) (hd : o.dst = some d) (hn : Nat.blt d n = true)
    (h : ∀ a', E a' n ((d, v) :: L) → wpList P ops Q rest a' w) : wpList P ops Q (o :: rest) a w := by
  refine wpList_step fun K hK => ?_
  rw [if_pos (want_spec hE hg)]
  unfold Oper.wp
  rw [hy a n hE w (Ext.refl w)]
  show K (a.put o.dst v) w
  rw [hd]
  exact hK _ _ (h _ (hE.put v hn))
theorem q_skip {d : Nat} (hE : E a n L) (hg : want L ops o = some false) (hd : o.dst = some d) (hn : Nat.blt d n = true)
    (h : ∀ a', E a' n ((d, undef) :: L) → wpList P ops Q rest a' w) : wpList P ops Q (o :: rest) a w := by
  refine wpList_step fun K hK => ?_
  rw [if_neg (by rw [want_spec hE hg]; exact Bool.false_ne_true), hd]
  exact hK _ _ (h _ (hE.put undef hn))
theorem l_step (hE : E a n L) (hg : want L ops o = some true) (h : o.wp P a w (fun a' w' => wpList P ops Q rest a' w') Q) : wpList P ops Q (o :: rest) a w := by
  unfold wpList
  rw [if_pos (want_spec hE hg)]
  exact .inl h

/-! Code -/
theorem c_region {id : Nat} {l : List Oper} {y : Code} (h : wpList P l.toArray (Exit.then (fun a' w' => y.wp P Q a' w') Q) l a w) : (Code.seq (.region id l.toArray false) y).wp P Q a w :=
  wp_seq (wp_region_lit h)
theorem c_nil (h : Q .normal a w) : wpList P ops Q [] a w := h
theorem c_cut {x y : Code} (J : Act → World → Prop) (h1 : x.wp P (Exit.then J Q) a w) (h2 : ∀ a' w', J a' w' → y.wp P Q a' w') : (Code.seq x y).wp P Q a w :=
  wp_seq (Code.wp_mono (fun e a' w' h => by cases e <;> first | exact h2 _ _ h | exact h) h1)
theorem c_cut1 {x : Code} (J : Act → World → Prop) (h1 : x.wp P (Exit.then J Q) a w) (h2 : ∀ a' w', J a' w' → Q .normal a' w') : x.wp P Q a w :=
  Code.wp_mono (fun e a' w' h => by cases e <;> first | exact h2 _ _ h | exact h) h1
theorem c_cond {c : Operand} {x y : Code} {t : Bool} (hE : E a n L) (hc : ev L c = some (.bool t)) (ht : t = true → x.wp P Q a w) (hf : t = false → y.wp P Q a w) : (Code.cond c x y).wp P Q a w :=
  wp_cond_split (hE.eval hc) ht hf
theorem c_true {c : Operand} {x y : Code} (hE : E a n L) (hc : ev L c = some (.bool true)) (h : x.wp P Q a w) : (Code.cond c x y).wp P Q a w := wp_cond_true (hE.eval hc) h
theorem c_false {c : Operand} {x y : Code} (hE : E a n L) (hc : ev L c = some (.bool false)) (h : y.wp P Q a w) : (Code.cond c x y).wp P Q a w := wp_cond_false (hE.eval hc) h
theorem c_ret1 {fn : Func} {Φ : Value → World → Prop} {t : Nat} {v : Value} (hE : E a n L) (hr : fn.results = #[.tmp t]) (hv : lk L t = some v) (h : Φ v w) : bodyPost P fn (Ret Φ) .ret a w := by
  refine bodyPost_ret (results_tmp hr _ _ _) hE.defers ⟨v, ?_, h⟩
  have := hE.get t v hv
  simp [Array.getD_eq_getD_getElem?, this]
theorem c_ret2 {fn : Func} {Φ : Value → World → Prop} {t u : Nat} {v v' : Value} (hE : E a n L) (hr : fn.results = #[.tmp t, .tmp u]) (hv : lk L t = some v) (hv' : lk L u = some v') (h : Φ (.tuple #[v, v']) w) : bodyPost P fn (Ret Φ) .ret a w := by
  refine bodyPost_ret (results_tmp2 hr _ _ _) hE.defers ⟨.tuple #[v, v'], ?_, h⟩
  have h1 := hE.get t v hv
  have h2 := hE.get u v' hv'
  simp [Array.getD_eq_getD_getElem?, h1, h2]
/-- A loop, by a number that goes down. -/
theorem c_loop {c : Code} (I : Nat → Act → World → Prop) {r : Nat} (h0 : I r a w)
    (round : ∀ r a w, I r a w → c.wp P (Exit.then (fun a' w' => ∃ r', r' < r ∧ I r' a' w') Q) a w) : (Code.loop c).wp P Q a w := by
  have key : ∀ (a : Act) (w : World), (∃ r, I r a w) → ∃ r, I r a w ∧ ∀ r', I r' a w → r ≤ r' := by
    intro a w ⟨r, hr⟩
    induction r using Nat.strongRecOn with
    | _ r ih =>
      by_cases h : ∃ r', r' < r ∧ I r' a w
      · obtain ⟨r', h1, h2⟩ := h
        exact ih r' h1 h2
      · exact ⟨r, hr, fun r' h' => Nat.le_of_not_lt fun hlt => h ⟨r', hlt, h'⟩⟩
  classical
  refine wp_loop (fun a w => ∃ r, I r a w) (fun a w => if h : ∃ r, I r a w then (key a w h).choose else 0) ⟨r, h0⟩ ?_
  intro a w h
  have hm := (key a w h).choose_spec
  refine Code.wp_mono ?_ (round _ a w hm.1)
  intro e a' w' hq
  cases e <;> try exact hq
  obtain ⟨r', h1, h2⟩ := hq
  refine ⟨⟨r', h2⟩, ?_⟩
  have hm' := (key a' w' ⟨r', h2⟩).choose_spec
  simp only [dif_pos h, dif_pos (show ∃ r, I r a' w' from ⟨r', h2⟩)]
  exact Nat.lt_of_le_of_lt (hm'.2 r' h2) h1

/-! Quiet operations -/
variable {S : World → Prop} {ty : TypeId} {pos : String} {af : Array Edge} {gd : Option (Nat × Bool)} {dst : Option Tmp} {v u : Value}
theorem y_move {x : Operand} (hx : ev L x = some v) : Yld P S L ⟨dst, .move x, ty, pos, af, gd⟩ v := fun a n hE w _ => by
  simp [execOp, hE.eval hx]
theorem y_assign {x : Operand} (hx : ev L x = some v) : Yld P S L ⟨dst, .assign x, ty, pos, af, gd⟩ v := fun a n hE w _ => by
  simp [execOp, hE.eval hx]
theorem y_pick {c x y : Operand} {b : Bool} (hc : ev L c = some (.bool b)) (hx : ev L (if b then x else y) = some v) : Yld P S L ⟨dst, .pick c x y, ty, pos, af, gd⟩ v := fun a n hE w _ => by
  have h1 := hE.eval hc
  have h2 := hE.eval hx
  cases b <;> simp at h2 <;> simp [execOp, h1, h2, asBool]
theorem y_not {t : TypeId} {x : Operand} {b : Bool} (hx : ev L x = some (.bool b)) : Yld P S L ⟨dst, .unOp .not t x, ty, pos, af, gd⟩ (.bool (!b)) := fun a n hE w _ => by
  simp [execOp, hE.eval hx, Op.unary]
theorem y_neg {t : TypeId} {x : Operand} {m : Int} (hx : ev L x = some (.int .i64 m)) : Yld P S L ⟨dst, .unOp .neg t x, ty, pos, af, gd⟩ (.int .i64 (IntKind.i64.wrap (0 - m))) := fun a n hE w _ => by
  simp [execOp, hE.eval hx, Op.unary, Op.intArith]
theorem y_extract {x : Operand} {i : Nat} {vs : Array Value} (hx : ev L x = some (.tuple vs)) (hv : vs[i]? = some v) : Yld P S L ⟨dst, .extract x i, ty, pos, af, gd⟩ v := fun a n hE w _ => by
  simp [execOp, hE.eval hx, Instr.extract, hv]
theorem y_len {x : Operand} {p : Option Addr} {m c : Nat} {t e : TypeId} (ht : P.underlying t = some (.slice e)) (hx : ev L x = some (.slice p m c)) : Yld P S L ⟨dst, .call ⟨.builtin .len, #[x], #[t]⟩, ty, pos, af, gd⟩ (.int .i64 (m : Int)) := fun a n hE w _ => by
  simp [execOp, resolve, invoke, builtin, hE.eval hx, Builtin.len_, run_underlying ht, goInt]
theorem y_slen {x : Operand} {s : ByteArray} {t : TypeId} (ht : P.underlying t = some .string) (hx : ev L x = some (.string s)) : Yld P S L ⟨dst, .call ⟨.builtin .len, #[x], #[t]⟩, ty, pos, af, gd⟩ (.int .i64 (s.size : Int)) := fun a n hE w _ => by
  simp [execOp, resolve, invoke, builtin, hE.eval hx, Builtin.len_, run_underlying ht, goInt]

/-! integers -/
variable {x y : Operand} {t t2 : TypeId} {m k : Int}
def inI (m : Int) : Prop := -9223372036854775808 ≤ m ∧ m ≤ 9223372036854775807
def wI (m : Int) : Int := IntKind.i64.wrap m
theorem wI_in {m : Int} (h : inI m) : wI m = m := IntWalk.i64_in m h
def andI (m k : Int) : Int := bits .and .i64 m k
def orI (m k : Int) : Int := bits .or .i64 m k
def xorI (m k : Int) : Int := bits .xor .i64 m k
def anI (m k : Int) : Int := bits .andNot .i64 m k
def shlI (m k : Int) : Int := wI (m * 2 ^ min k.toNat 64)
def shrI (m k : Int) : Int := m.fdiv (2 ^ min k.toNat 64)
theorem y_add (hx : ev L x = some (.int .i64 m)) (hy : ev L y = some (.int .i64 k)) (h : inI (m + k)) : Yld P S L ⟨dst, .binOp .add t x y t2, ty, pos, af, gd⟩ (.int .i64 (m + k)) := fun a n hE w _ => by
  have := wI_in h; unfold wI at this
  simp [execOp, hE.eval hx, hE.eval hy, eqGuard, binOp, Op.intArith, this]
theorem y_sub (hx : ev L x = some (.int .i64 m)) (hy : ev L y = some (.int .i64 k)) (h : inI (m - k)) : Yld P S L ⟨dst, .binOp .sub t x y t2, ty, pos, af, gd⟩ (.int .i64 (m - k)) := fun a n hE w _ => by
  have := wI_in h; unfold wI at this
  simp [execOp, hE.eval hx, hE.eval hy, eqGuard, binOp, Op.intArith, this]
theorem y_mul (hx : ev L x = some (.int .i64 m)) (hy : ev L y = some (.int .i64 k)) (h : inI (m * k)) : Yld P S L ⟨dst, .binOp .mul t x y t2, ty, pos, af, gd⟩ (.int .i64 (m * k)) := fun a n hE w _ => by
  have := wI_in h; unfold wI at this
  simp [execOp, hE.eval hx, hE.eval hy, eqGuard, binOp, Op.intArith, this]
theorem y_addw (hx : ev L x = some (.int .i64 m)) (hy : ev L y = some (.int .i64 k)) : Yld P S L ⟨dst, .binOp .add t x y t2, ty, pos, af, gd⟩ (.int .i64 (wI (m + k))) := fun a n hE w _ => by
  simp [execOp, hE.eval hx, hE.eval hy, eqGuard, binOp, Op.intArith, wI]
theorem y_subw (hx : ev L x = some (.int .i64 m)) (hy : ev L y = some (.int .i64 k)) : Yld P S L ⟨dst, .binOp .sub t x y t2, ty, pos, af, gd⟩ (.int .i64 (wI (m - k))) := fun a n hE w _ => by
  simp [execOp, hE.eval hx, hE.eval hy, eqGuard, binOp, Op.intArith, wI]
theorem y_mulw (hx : ev L x = some (.int .i64 m)) (hy : ev L y = some (.int .i64 k)) : Yld P S L ⟨dst, .binOp .mul t x y t2, ty, pos, af, gd⟩ (.int .i64 (wI (m * k))) := fun a n hE w _ => by
  simp [execOp, hE.eval hx, hE.eval hy, eqGuard, binOp, Op.intArith, wI]
theorem y_quo (hx : ev L x = some (.int .i64 m)) (hy : ev L y = some (.int .i64 k)) (h0 : 0 ≤ m) (h1 : 1 ≤ k) (h2 : m ≤ 9223372036854775807) : Yld P S L ⟨dst, .binOp .quo t x y t2, ty, pos, af, gd⟩ (.int .i64 (m / k)) := fun a n hE w _ => by
  have hk : ¬ k = 0 := by omega
  have e : m.tdiv k = m / k := Int.tdiv_eq_ediv_of_nonneg h0
  have h3 : m / k ≤ m := Int.ediv_le_self _ h0
  have h4 : 0 ≤ m / k := Int.ediv_nonneg h0 (by omega)
  have := IntWalk.i64_in (m / k) ⟨by omega, by omega⟩
  simp [execOp, hE.eval hx, hE.eval hy, eqGuard, binOp, Op.intDiv, hk, e, this]
theorem y_rem (hx : ev L x = some (.int .i64 m)) (hy : ev L y = some (.int .i64 k)) (h0 : 0 ≤ m) (h1 : 1 ≤ k) : Yld P S L ⟨dst, .binOp .rem t x y t2, ty, pos, af, gd⟩ (.int .i64 (m % k)) := fun a n hE w _ => by
  have hk : ¬ k = 0 := by omega
  have e : m.tmod k = m % k := Int.tmod_eq_emod_of_nonneg h0
  simp [execOp, hE.eval hx, hE.eval hy, eqGuard, binOp, Op.intDiv, hk, e]
theorem y_and (hx : ev L x = some (.int .i64 m)) (hy : ev L y = some (.int .i64 k)) : Yld P S L ⟨dst, .binOp .and t x y t2, ty, pos, af, gd⟩ (.int .i64 (andI m k)) := fun a n hE w _ => by
  simp [execOp, hE.eval hx, hE.eval hy, eqGuard, binOp, intBits_and, andI]
theorem y_or (hx : ev L x = some (.int .i64 m)) (hy : ev L y = some (.int .i64 k)) : Yld P S L ⟨dst, .binOp .or t x y t2, ty, pos, af, gd⟩ (.int .i64 (orI m k)) := fun a n hE w _ => by
  simp [execOp, hE.eval hx, hE.eval hy, eqGuard, binOp, intBits_or, orI]
theorem y_xor (hx : ev L x = some (.int .i64 m)) (hy : ev L y = some (.int .i64 k)) : Yld P S L ⟨dst, .binOp .xor t x y t2, ty, pos, af, gd⟩ (.int .i64 (xorI m k)) := fun a n hE w _ => by
  simp [execOp, hE.eval hx, hE.eval hy, eqGuard, binOp, intBits_xor, xorI]
theorem y_andNot (hx : ev L x = some (.int .i64 m)) (hy : ev L y = some (.int .i64 k)) : Yld P S L ⟨dst, .binOp .andNot t x y t2, ty, pos, af, gd⟩ (.int .i64 (anI m k)) := fun a n hE w _ => by
  simp [execOp, hE.eval hx, hE.eval hy, eqGuard, binOp, intBits_andNot, anI]
theorem y_shl {yk : IntKind} (hx : ev L x = some (.int .i64 m)) (hy : ev L y = some (.int yk k)) (h : 0 ≤ k) : Yld P S L ⟨dst, .binOp .shl t x y t2, ty, pos, af, gd⟩ (.int .i64 (shlI m k)) := fun a n hE w _ => by
  have hk : ¬ k < 0 := by omega
  simp [execOp, hE.eval hx, hE.eval hy, eqGuard, binOp, Op.shift, hk, shlI, wI, IntKind.bits]
theorem y_shr {yk : IntKind} (hx : ev L x = some (.int .i64 m)) (hy : ev L y = some (.int yk k)) (h : 0 ≤ k) : Yld P S L ⟨dst, .binOp .shr t x y t2, ty, pos, af, gd⟩ (.int .i64 (shrI m k)) := fun a n hE w _ => by
  have hk : ¬ k < 0 := by omega
  simp [execOp, hE.eval hx, hE.eval hy, eqGuard, binOp, Op.shift, hk, shrI, IntKind.bits]
theorem y_lss {q : IntKind} (hx : ev L x = some (.int q m)) (hy : ev L y = some (.int q k)) : Yld P S L ⟨dst, .binOp .lss t x y t2, ty, pos, af, gd⟩ (.bool (decide (m < k))) := fun a n hE w _ => by
  simp [execOp, hE.eval hx, hE.eval hy, eqGuard, binOp, Op.intCmp]
theorem y_leq {q : IntKind} (hx : ev L x = some (.int q m)) (hy : ev L y = some (.int q k)) : Yld P S L ⟨dst, .binOp .leq t x y t2, ty, pos, af, gd⟩ (.bool (decide (m ≤ k))) := fun a n hE w _ => by
  simp [execOp, hE.eval hx, hE.eval hy, eqGuard, binOp, Op.intCmp]
theorem y_gtr {q : IntKind} (hx : ev L x = some (.int q m)) (hy : ev L y = some (.int q k)) : Yld P S L ⟨dst, .binOp .gtr t x y t2, ty, pos, af, gd⟩ (.bool (decide (k < m))) := fun a n hE w _ => by
  simp [execOp, hE.eval hx, hE.eval hy, eqGuard, binOp, Op.intCmp]
theorem y_geq {q : IntKind} (hx : ev L x = some (.int q m)) (hy : ev L y = some (.int q k)) : Yld P S L ⟨dst, .binOp .geq t x y t2, ty, pos, af, gd⟩ (.bool (decide (k ≤ m))) := fun a n hE w _ => by
  simp [execOp, hE.eval hx, hE.eval hy, eqGuard, binOp, Op.intCmp]
theorem y_eql {q : IntKind} (hx : ev L x = some (.int q m)) (hy : ev L y = some (.int q k)) : Yld P S L ⟨dst, .binOp .eql t x y t2, ty, pos, af, gd⟩ (.bool (decide (m = k))) := fun a n hE w _ => by
  simp [execOp, hE.eval hx, hE.eval hy, eqGuard, binOp, Op.intCmp]; rfl
theorem y_neq {q : IntKind} (hx : ev L x = some (.int q m)) (hy : ev L y = some (.int q k)) : Yld P S L ⟨dst, .binOp .neq t x y t2, ty, pos, af, gd⟩ (.bool (!decide (m = k))) := fun a n hE w _ => by
  simp [execOp, hE.eval hx, hE.eval hy, eqGuard, binOp, Op.intCmp]; rfl
theorem y_eqlb {b c : Bool} (ht : P.underlying t = some .bool) (hx : ev L x = some (.bool b)) (hy : ev L y = some (.bool c)) : Yld P S L ⟨dst, .binOp .eql t x y t2, ty, pos, af, gd⟩ (.bool (b == c)) := fun a n hE w _ => by
  simp [execOp, hE.eval hx, hE.eval hy, eqGuard, binOp, run_equal_bool w t b c ht]
theorem y_neqb {b c : Bool} (ht : P.underlying t = some .bool) (hx : ev L x = some (.bool b)) (hy : ev L y = some (.bool c)) : Yld P S L ⟨dst, .binOp .neq t x y t2, ty, pos, af, gd⟩ (.bool (b != c)) := fun a n hE w _ => by
  simp [execOp, hE.eval hx, hE.eval hy, eqGuard, binOp, run_equal_bool w t b c ht]
  cases b <;> cases c <;> rfl
theorem y_conv {q q' : IntKind} {s d : TypeId} {ds : TypeDesc} (hs : P.underlying s = some ds) (hd : P.underlying d = some (.int q')) (hx : ev L x = some (.int q m)) (h : q'.wrap m = m) : Yld P S L ⟨dst, .convert s d x, ty, pos, af, gd⟩ (.int q' m) := fun a n hE w _ => by
  simp [execOp, hE.eval hx, convert, run_underlying hs, run_underlying hd, Conv.intToInt, h]
/-- Whatever the operation: its run, told. -/
theorem y_run1 {op : Operand → Op} {u : Value} (f : Value → Sem Value) (hop : ∀ ρ : Operand → Value, execOp ρ ⟨dst, op x, ty, pos, af, gd⟩ = (do pure (.value (← f (ρ x))))) (hx : ev L x = some u)
    (h : ∀ w, S w → (f u).run P w = .ok v w) : Yld P S L ⟨dst, op x, ty, pos, af, gd⟩ v := fun a n hE w hw => by
  rw [hop, hE.eval hx]
  simp [h w hw]
theorem y_load {p : Addr} (hna : ∀ w, (isAgg t).run P w = .ok false w) (hx : ev L x = some (.pointer (some p))) (h : ∀ w, S w → w.cell? p = some v) : Yld P S L ⟨dst, .load t x, ty, pos, af, gd⟩ v := fun a n hE w hw => by
  simp [execOp, hE.eval hx, Instr.loadAt, Instr.sureAddr, loadVar, hna, h w hw]
theorem y_loadS {b : Nat} {cs : Array Value} {t' : TypeId} {ds : TypeDesc} (hu : P.underlying t = some ds) (hd : (match ds with | .struct _ | .array _ _ => true | _ => false) = true) (hi : (P.info? t).map (·.size) = some cs.size)
    (hx : ev L x = some (.pointer (some ⟨b, 0, none⟩))) (h : ∀ w, S w → w.heap[b]? = some (.cells cs t' (0, 0))) : Yld P S L ⟨dst, .load t x, ty, pos, af, gd⟩ (.agg cs) := fun a n hE w hw => by
  simp [execOp, hE.eval hx, Instr.loadAt, Instr.sureAddr, run_loadVar_row w b t' t cs (0, 0) ds (h w hw) hu hd hi]
theorem y_field {p q : Value} {f : Nat} (hx : ev L x = some p) (h : ∀ w, (Instr.fieldAt t p f).run P w = .ok q w) : Yld P S L ⟨dst, .fieldAddr t x f, ty, pos, af, gd⟩ q := fun a n hE w _ => by
  simp [execOp, hE.eval hx, h]
theorem y_idx {p : Option Addr} {l c : Nat} {e sz : Nat} {q : IntKind} (ht : P.underlying t = some (.slice (P.elem t))) (hz : ∀ w, (sizeOf (P.elem t)).run P w = .ok sz w) (hx : ev L x = some (.slice p l c)) (hy : ev L y = some (.int q m)) (hp : p.isSome = true) (h0 : 0 ≤ m) (h1 : m < l) (he : e = m.toNat * sz) :
    Yld P S L ⟨dst, .indexAddr t x y, ty, pos, af, gd⟩ (.pointer (some (adr p e))) := fun a n hE w _ => by
  obtain ⟨p', rfl⟩ := Option.isSome_iff_exists.1 hp
  subst he
  simp [execOp, hE.eval hx, hE.eval hy, run_indexAt_slice _ _ _ _ _ _ _ ht, h0, h1, hz, adr]
theorem y_max {q : IntKind} {ts : Array TypeId} (hx : ev L x = some (.int q m)) (hy : ev L y = some (.int q k)) : Yld P S L ⟨dst, .call ⟨.builtin .max, #[x, y], ts⟩, ty, pos, af, gd⟩ (.int q (max m k)) := fun a n hE w _ => by
  have e : (if k > m then k else m) = max m k := by omega
  simp [execOp, resolve, invoke, builtin, hE.eval hx, hE.eval hy, run_max_int2, e]
theorem y_min {q : IntKind} {ts : Array TypeId} (hx : ev L x = some (.int q m)) (hy : ev L y = some (.int q k)) : Yld P S L ⟨dst, .call ⟨.builtin .min, #[x, y], ts⟩, ty, pos, af, gd⟩ (.int q (min m k)) := fun a n hE w _ => by
  have e : (if k < m then k else m) = min m k := by omega
  simp [execOp, resolve, invoke, builtin, hE.eval hx, hE.eval hy, run_min_int2, e]
/-! uint64 -/
def andU (m k : Int) : Int := bits .and .u64 m k
def orU (m k : Int) : Int := bits .or .u64 m k
def shrU (m k : Int) : Int := m.fdiv (2 ^ min k.toNat 64)
def wrU (m : Int) : Int := IntKind.u64.wrap m
theorem y_andU (hx : ev L x = some (.int .u64 m)) (hy : ev L y = some (.int .u64 k)) : Yld P S L ⟨dst, .binOp .and t x y t2, ty, pos, af, gd⟩ (.int .u64 (andU m k)) := fun a n hE w _ => by
  simp [execOp, hE.eval hx, hE.eval hy, eqGuard, binOp, intBits_and, andU]
theorem y_orU (hx : ev L x = some (.int .u64 m)) (hy : ev L y = some (.int .u64 k)) : Yld P S L ⟨dst, .binOp .or t x y t2, ty, pos, af, gd⟩ (.int .u64 (orU m k)) := fun a n hE w _ => by
  simp [execOp, hE.eval hx, hE.eval hy, eqGuard, binOp, intBits_or, orU]
theorem y_shrU {yk : IntKind} (hx : ev L x = some (.int .u64 m)) (hy : ev L y = some (.int yk k)) (h : 0 ≤ k) : Yld P S L ⟨dst, .binOp .shr t x y t2, ty, pos, af, gd⟩ (.int .u64 (shrU m k)) := fun a n hE w _ => by
  have hk : ¬ k < 0 := by omega
  simp [execOp, hE.eval hx, hE.eval hy, eqGuard, binOp, Op.shift, hk, shrU, IntKind.bits]
theorem y_addU (hx : ev L x = some (.int .u64 m)) (hy : ev L y = some (.int .u64 k)) : Yld P S L ⟨dst, .binOp .add t x y t2, ty, pos, af, gd⟩ (.int .u64 (wrU (m + k))) := fun a n hE w _ => by
  simp [execOp, hE.eval hx, hE.eval hy, eqGuard, binOp, Op.intArith, wrU]
theorem y_mulU (hx : ev L x = some (.int .u64 m)) (hy : ev L y = some (.int .u64 k)) : Yld P S L ⟨dst, .binOp .mul t x y t2, ty, pos, af, gd⟩ (.int .u64 (wrU (m * k))) := fun a n hE w _ => by
  simp [execOp, hE.eval hx, hE.eval hy, eqGuard, binOp, Op.intArith, wrU]
theorem y_convI {q : IntKind} {s d : TypeId} {ds : TypeDesc} (hs : P.underlying s = some ds) (hd : P.underlying d = some (.int .i64)) (hx : ev L x = some (.int q m)) : Yld P S L ⟨dst, .convert s d x, ty, pos, af, gd⟩ (.int .i64 (wI m)) := fun a n hE w _ => by
  simp [execOp, hE.eval hx, convert, run_underlying hs, run_underlying hd, Conv.intToInt, wI]
theorem y_convU {q : IntKind} {s d : TypeId} {ds : TypeDesc} (hs : P.underlying s = some ds) (hd : P.underlying d = some (.int .u64)) (hx : ev L x = some (.int q m)) : Yld P S L ⟨dst, .convert s d x, ty, pos, af, gd⟩ (.int .u64 (wrU m)) := fun a n hE w _ => by
  simp [execOp, hE.eval hx, convert, run_underlying hs, run_underlying hd, Conv.intToInt, wrU]
theorem y_build {parts : Array (Nat × Operand)} {vs : Array (Nat × Value)} (hp : ∀ (a : Act) (n : Nat), E a n L → parts.map (fun p => (p.1, a.eval p.2)) = vs) (h : ∀ w, (Instr.build t vs).run P w = .ok v w) : Yld P S L ⟨dst, .build t parts, ty, pos, af, gd⟩ v := fun a n hE w _ => by
  have := hp a n hE
  simp only [execOp]
  rw [show (fun (p : Nat × Operand) => match p with | (i, x) => (i, a.eval x)) = fun p => (p.1, a.eval p.2) from rfl, this]
  simp [h]
end
end Go.Proofs.YtkilkfhjfobcdaaDoor
