/- Share: slices of slices whose rows are new, and shared. No statement about the program is made here. -/
import Derived.Test.YtlbonhloeefnmaaKLFByte
set_option linter.unusedVariables false
namespace Go.Proofs.Ytlbonhloeefnmaa
open Go.RowKit
variable {w0 w : World} {Γ : List Ent} {i : Nat} {t : TypeId} {s : Nat} {a : Option Addr} {c : Nat} {hs hs2 : List Hd} {xss : List (List Int)}
/-- The rows' blocks are new since a world of B blocks. -/
def FrH (B : Nat) (hs : List Hd) : Prop := ∀ h : Hd, h ∈ hs → ∀ k, h.a.map (·.block) = some k → B ≤ k
theorem FrH.nil (B : Nat) : FrH B [] := fun h hh => by cases hh
theorem FrH.mono {B B' : Nat} (h : FrH B hs) (hB : B' ≤ B) : FrH B' hs := fun d hd k hk => Nat.le_trans hB (h d hd k hk)
theorem FrH.app {B : Nat} (h : FrH B hs) (h2 : FrH B hs2) : FrH B (hs ++ hs2) := fun d hd k hk => by
  rcases List.mem_append.1 hd with hd | hd
  · exact h d hd k hk
  · exact h2 d hd k hk
theorem FrH.at {B : Nat} (h : FrH B hs) (m : Int) (n c : Nat) : FrH B [⟨hdA hs m, n, c⟩] := fun d hd k hk => by
  rw [List.mem_singleton] at hd
  subst hd
  unfold hdA at hk
  by_cases hl : m.toNat < hs.length
  · exact h _ (List.mem_of_getElem? (getD_some (d := default) hl)) k hk
  · have e : hs.getD m.toNat default = default := by
      show hs[m.toNat]?.getD default = _
      rw [List.getElem?_eq_none (by omega)]; rfl
    rw [e] at hk; cases hk
end Go.Proofs.Ytlbonhloeefnmaa
