/- Append onto a part of a slice of the call's own, where it fits. -/
import Derived.Test.YtkilkfhjfobcdaaKCHNest
import Derived.Laws.AppendOwn
import Derived.Laws.StructEq
set_option linter.unusedVariables false
set_option linter.unusedSimpArgs false
namespace Go.Proofs.Ytkilkfhjfobcdaa
open Go.RowKit
section
variable {P : Program} {Q : Exit → Act → World → Prop} {a : Act} {n : Nat} {L : List (Nat × Value)} {w w0 : World} {K : Act → World → Prop} {Γ : List Ent} {i : Nat}
variable {ty : TypeId} {pos : String} {af : Array Edge} {gd : Option (Nat × Bool)} {d : Nat} {x y : Operand} {v : Value} {t : TypeId}
/-- 'append(out, tmp...)' as l_appendN, tmp may be nil. -/
theorem l_appendNv {e : TypeId} {i : TypeInfo} {z : Value} {fr : Option TypeId} {s k n1 n2 c1 c2 : Nat} {b b2 : Option Addr} {hs hs2 : List Hd} {xss xss2 : List (List Int)} (hS : St w0 w (.nest e s fr b2 c2 hs2 xss2 :: Γ)) (hE : E a n L) (hu : P.underlying t = some (.slice e)) (hi : P.info? e = some i) (hz : i.zero = some z) (hsz : i.size = 1) (hzs : z.cells.size = 1) (hby : i.bytes ≤ 64)
    (hx : ev L x = some (.slice b n1 c1)) (hy : ev L y = some (.slice b2 n2 c2)) (hn1 : n1 = xss.length) (hn2 : n2 = xss2.length) (hk : Γ[k]? = some (.nest e s fr b c1 hs xss)) (hlen : n1 + n2 ≤ 1099511627776) (hn : Nat.blt d n = true)
    (hK : ∀ b' c' w', St w0 w' (Γ.set k (.nest e s fr b' c' (hs ++ hs2) (xss ++ xss2))) → ∀ a', E a' n ((d, .slice b' (xss ++ xss2).length c') :: L) → K a' w') : Oper.wp P ⟨some d, .call ⟨.builtin .append, #[x, y], #[t, t]⟩, ty, pos, af, gd⟩ a w K Q := by
  cases b2 with
  | some p => exact l_appendN hS hE hu hi hz hsz hzs hby hx hy hn1 hn2 rfl hk hlen hn hK
  | none =>
    have hk1 : (Ent.nest e s fr none c2 hs2 xss2 :: Γ)[k + 1]? = some (.nest e s fr b c1 hs xss) := by simpa using hk
    have ho : OwnV w w0.heap.size e b xss.length c1 (hs.map Hd.v) := hS.nestV hk1
    have hI2 := hS.nestI (i := 0) rfl
    obtain ⟨hl2, ⟨_, h0, hc⟩ | ⟨_, _, h, _⟩⟩ := (hS.nestV (i := 0) rfl).cases
    · obtain rfl := List.length_eq_zero_iff.1 h0
      obtain rfl := List.length_eq_zero_iff.1 (hI2.1.trans h0)
      subst hc; subst hn1; subst hn2
      have hrun := run_append_owned_none (P := P) (w := w) w0.heap.size t ty e i 1 hu hi _ xss.length _ ho
      refine l_val hE rfl hn (v := .slice b xss.length c1) (w' := w) (by simp only [List.length_nil] at hy; simp [execOp, resolve, invoke, builtin, hE.eval hx, hE.eval hy, hrun]) ?_
      have h2 := hK b c1 w
      rw [List.append_nil, List.append_nil] at h2
      refine h2 ?_
      have : Γ.set k (.nest e s fr b c1 hs xss) = Γ := by
        apply List.ext_getElem?; intro j
        rw [List.getElem?_set]
        split
        · rename_i e; subst e
          split
          · exact hk.symm
          · rename_i h; rw [List.getElem?_eq_none (by omega)]
        · rfl
      rw [this]; exact hS.drop 1
    · cases h
end
end Go.Proofs.Ytkilkfhjfobcdaa
