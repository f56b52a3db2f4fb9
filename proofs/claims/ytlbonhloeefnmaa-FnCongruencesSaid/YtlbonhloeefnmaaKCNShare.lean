/- Share: slices of slices whose rows are new, and shared. No statement about the program is made here. -/
import Derived.Test.YtlbonhloeefnmaaKCNByte
set_option linter.unusedVariables false
namespace Go.Proofs.Ytlbonhloeefnmaa
open Go.RowKit
variable {w0 w : World} {Γ : List Ent} {i : Nat} {t : TypeId} {s : Nat} {a : Option Addr} {c : Nat} {hs hs2 : List Hd} {xss : List (List Int)}
/-- The rows' blocks are new since a world of B blocks. -/
def FrH (B : Nat) (hs : List Hd) : Prop := ∀ h : Hd, h ∈ hs → ∀ k, h.a.map (·.block) = some k → B ≤ k
theorem FrH.nil (B : Nat) : FrH B [] := fun h hh => by cases hh
theorem FrH.mono {B B' : Nat} (h : FrH B hs) (hB : B' ≤ B) : FrH B' hs := fun d hd k hk => Nat.le_trans hB (h d hd k hk)
theorem FrH.app {B : Nat} (h : FrH B hs) (h2 : FrH B hs2) : FrH B (hs ++ hs2) := fun d hd k hk => by
  rcases List.mem_append.1 hd with hd | hd
  · exact h d hd k hk
  · exact h2 d hd k hk
theorem FrH.at {B : Nat} (h : FrH B hs) (m : Int) (n c : Nat) : FrH B [⟨hdA hs m, n, c⟩] := fun d hd k hk => by
  rw [List.mem_singleton] at hd
  subst hd
  unfold hdA at hk
  by_cases hl : m.toNat < hs.length
  · exact h _ (List.mem_of_getElem? (getD_some (d := default) hl)) k hk
  · have e : hs.getD m.toNat default = default := by
      show hs[m.toNat]?.getD default = _
      rw [List.getElem?_eq_none (by omega)]; rfl
    rw [e] at hk; cases hk
theorem St.frH {t' : TypeId} (h : St w0 w Γ) (hi : Γ[i]? = some (.nest t s (some t') a c hs xss)) : FrH w0.heap.size hs := fun d hd k hk => by
  have hI := h.nestI hi
  obtain ⟨j, hj, rfl⟩ := List.getElem_of_mem hd
  have h1 : hs[j]? = some hs[j] := List.getElem?_eq_getElem hj
  have h2 : xss[j]? = some (xss[j]'(by rw [← hI.1]; exact hj)) := List.getElem?_eq_getElem _
  exact (OwnS.lt ((hI.2.1 j _ _ h1 h2).2 t' rfl) hk).1
/-- The rows are only read from here on. -/
theorem St.freezeN {t' : TypeId} (h : St w0 w Γ) (hi : Γ[i]? = some (.nest t s (some t') a c hs xss)) : St w0 w (Γ.set i (.nest t s none a c hs xss)) := by
  have hil : i < Γ.length := by
    rcases Nat.lt_or_ge i Γ.length with h' | h'
    · exact h'
    · rw [List.getElem?_eq_none h'] at hi; cases hi
  have sub : ∀ k, inN none hs xss k → inN (some t') hs xss k := fun k ⟨j, d, xs, h1, h2, h3, h4⟩ => ⟨j, d, xs, h1, h2, .inr rfl, h4⟩
  have get : ∀ (j : Nat) (d : Ent), (Γ.set i (.nest t s none a c hs xss))[j]? = some d → (j = i ∧ d = .nest t s none a c hs xss) ∨ (j ≠ i ∧ Γ[j]? = some d) := fun j d hj => by
    rw [List.getElem?_set] at hj
    by_cases e : i = j
    · subst e; simp [hil] at hj; exact .inl ⟨rfl, hj.symm⟩
    · simp [e] at hj; exact .inr ⟨fun h => e h.symm, hj⟩
  have none : ∀ (j : Nat) (d : Ent), j ≠ i → Γ[j]? = some d → apt (.nest t s none a c hs xss) d := fun j d hj hd k h1 h2 => by
    have h1' : Ent.has (.nest t s (some t') a c hs xss) k := h1.elim .inl fun h => .inr (sub k h)
    exact absurd (h.apart i j _ d (Ne.symm hj) hi hd k h1' h2).1.1 (fun h => by cases h)
  have hok := h.ok i _ hi
  refine ⟨h.ext, fun j d hj => ?_, fun j k d d' hjk hj hk => ?_⟩
  · rcases get j d hj with ⟨rfl, rfl⟩ | ⟨_, hd⟩
    · exact ⟨hok.1, ⟨hok.2.1.1, fun j d xs h1 h2 => ⟨(hok.2.1.2.1 j d xs h1 h2).1, fun t ht => by cases ht⟩, fun h => by cases h⟩, fun k hk => hok.2.2 k (sub k hk)⟩
    · exact h.ok j d hd
  · rcases get j d hj with ⟨rfl, rfl⟩ | ⟨hne, hd⟩
    · rcases get k d' hk with ⟨rfl, rfl⟩ | ⟨hne', hd'⟩
      · exact absurd rfl hjk
      · exact none k d' hne' hd'
    · rcases get k d' hk with ⟨rfl, rfl⟩ | ⟨hne', hd'⟩
      · exact (none j d hne hd).symm
      · exact h.apart j k d d' hjk hd hd'
/-- What a call has made with new rows that are shared, on top of what was known before it. -/
theorem St.compF {w' : World} (h : St w0 w Γ) (h' : St w w' [.nest t s none a c hs xss]) (hf : FrH w.heap.size hs) : St w0 w' (.nest t s none a c hs xss :: Γ) := by
  have ho := h'.ok 0 _ rfl
  refine h.pushN h'.ext (e := .nest t s none a c hs xss) ⟨OwnV.mono ho.1 h.ext.size, ⟨ho.2.1.1, fun j d xs h1 h2 => ⟨(ho.2.1.2.1 j d xs h1 h2).1, fun t ht => by cases ht⟩, fun h => by cases h⟩, ho.2.2⟩ fun k hk => .inl ?_
  rcases hk with hk | ⟨j, d, xs, h1, h2, h3, h4⟩
  · exact (OwnV.lt ho.1 hk).1
  · exact hf d (List.mem_of_getElem? h1) k h4
end Go.Proofs.Ytlbonhloeefnmaa
