/-
  Plain words for names and rules. No program is named here.
-/
import Derived.Test.YtilohpakglpdcaaSz
namespace Go.Proofs.Ytilohpakglpdcaa
open Go.RowKit

def NbP (b : Int) : Prop := (97 ≤ b ∧ b ≤ 122) ∨ (48 ≤ b ∧ b ≤ 57) ∨ b = 45
structure NameP (s : ByteArray) : Prop where
  ge : 1 ≤ s.size
  le : s.size ≤ 16
  low : 97 ≤ bAt s 0 ∧ bAt s 0 ≤ 122
  all : ∀ j, j < s.size → NbP (bAt s j)
  last : bAt s (s.size - 1) ≠ 45
def NamesP (xs : List V) : Prop := ∀ (i : Nat) (s : ByteArray), xs[i]? = some (V.str s) → NameP s
def RuleP (x : V) : Prop := ∃ (g : ByteArray) (ns : List V) (a : Int) (p : Bool), x = .agg [.str g, .list ns, .int a, .bool p] ∧ (g = ⟨#[]⟩ ∨ NameP g) ∧ ns.length ≤ 10 ∧ NamesP ns ∧ 0 ≤ a ∧ a ≤ 2
def RulesP (xs : List V) : Prop := (∀ (i : Nat) (x : V), xs[i]? = some x → RuleP x) ∧ xs.length ≤ 12
theorem rule_iff {g : ByteArray} {ns : List V} {a : Int} {p : Bool} : RuleP (.agg [.str g, .list ns, .int a, .bool p]) ↔ (g = ⟨#[]⟩ ∨ NameP g) ∧ ns.length ≤ 10 ∧ NamesP ns ∧ 0 ≤ a ∧ a ≤ 2 := by
  constructor
  · rintro ⟨g', ns', a', p', e, h⟩
    cases e
    exact h
  · intro h
    exact ⟨g, ns, a, p, rfl, h⟩
theorem upto_succ {p : Nat → Prop} {i : Nat} (h : ∀ j, j < i → p j) (hi : p i) : ∀ j, j < i + 1 → p j := by
  intro j hj
  by_cases e : j = i
  · subst e; exact hi
  · exact h j (by omega)
end Go.Proofs.Ytilohpakglpdcaa
