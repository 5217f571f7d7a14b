/-
  Plain words for names and rules. No program is named here.
-/
import Derived.Test.YtilohpakglpdcaaSz
namespace Go.Proofs.Ytilohpakglpdcaa
open Go.RowKit

def NbP (b : Int) : Prop := (97 ≤ b ∧ b ≤ 122) ∨ (48 ≤ b ∧ b ≤ 57) ∨ b = 45
structure NameP (s : ByteArray) : Prop where
  ge : 1 ≤ s.size
  le : s.size ≤ 16
  low : 97 ≤ bAt s 0 ∧ bAt s 0 ≤ 122
  all : ∀ j, j < s.size → NbP (bAt s j)
  last : bAt s (s.size - 1) ≠ 45
def NamesP (xs : List V) : Prop := ∀ (i : Nat) (s : ByteArray), xs[i]? = some (V.str s) → NameP s
def RuleP (x : V) : Prop := ∃ (g : ByteArray) (ns : List V) (a : Int) (p : Bool), x = .agg [.str g, .list ns, .int a, .bool p] ∧ (g = ⟨#[]⟩ ∨ NameP g) ∧ ns.length ≤ 10 ∧ NamesP ns ∧ 0 ≤ a ∧ a ≤ 2
def RulesP (xs : List V) : Prop := (∀ (i : Nat) (x : V), xs[i]? = some x → RuleP x) ∧ xs.length ≤ 12
theorem rule_iff {g : ByteArray} {ns : List V} {a : Int} {p : Bool} : RuleP (.agg [.str g, .list ns, .int a, .bool p]) ↔ (g = ⟨#[]⟩ ∨ NameP g) ∧ ns.length ≤ 10 ∧ NamesP ns ∧ 0 ≤ a ∧ a ≤ 2 := by
  constructor
  · rintro ⟨g', ns', a', p', e, h⟩
    cases e
    exact h
  · intro h
    exact ⟨g, ns, a, p, rfl, h⟩
theorem upto_succ {p : Nat → Prop} {i : Nat} (h : ∀ j, j < i → p j) (hi : p i) : ∀ j, j < i + 1 → p j := by
  intro j hj
  by_cases e : j = i
  · subst e; exact hi
  · exact h j (by omega)

/-! ### who may act -/
def BeginsP (xs ys : List V) : Prop := ∀ j, j < ys.length → xs[j]? = ys[j]?
theorem begins_iff {xs ys : List V} : BeginsP xs ys ↔ ys.length ≤ xs.length ∧ ys = xs.take ys.length := by
  constructor
  · intro h
    have hl : ys.length ≤ xs.length := by
      rcases Nat.eq_zero_or_pos ys.length with h0 | h0
      · omega
      · have h1 := h (ys.length - 1) (by omega)
        rw [List.getElem?_eq_getElem (show ys.length - 1 < ys.length by omega)] at h1
        have := (List.getElem?_eq_some_iff.1 h1).1
        omega
    refine ⟨hl, List.ext_getElem? fun j => ?_⟩
    rw [List.getElem?_take]
    split
    · rename_i hj; exact (h j hj).symm
    · rename_i hj; exact List.getElem?_eq_none (by omega)
  · rintro ⟨_, h⟩ j hj
    rw [h, List.getElem?_take, if_pos (by simpa using hj)]
def HitsP (x : V) (gs ns : List V) (act : Int) : Prop := ∃ (g : ByteArray) (rs : List V) (a : Int) (p : Bool), x = .agg [.str g, .list rs, .int a, .bool p] ∧ (g = ⟨#[]⟩ ∨ V.str g ∈ gs) ∧ (a = 0 ∨ a = act) ∧ BeginsP ns rs
theorem hits_iff {g : ByteArray} {rs gs ns : List V} {a act : Int} {p : Bool} : HitsP (.agg [.str g, .list rs, .int a, .bool p]) gs ns act ↔ (g = ⟨#[]⟩ ∨ V.str g ∈ gs) ∧ (a = 0 ∨ a = act) ∧ BeginsP ns rs := by
  constructor
  · rintro ⟨g', ns', a', p', e, h⟩
    cases e
    exact h
  · intro h
    exact ⟨g, rs, a, p, rfl, h⟩
def permit : V → Bool
  | .agg [_, _, _, .bool p] => p
  | _ => false
def MayP (xs gs ns : List V) (act : Int) : Prop :=
  (∃ (i : Nat) (x : V), xs[i]? = some x ∧ (∀ j, j < i → ∀ y, xs[j]? = some y → ¬ HitsP y gs ns act) ∧ HitsP x gs ns act ∧ permit x = true) ∨
  ((∀ (j : Nat) (y : V), xs[j]? = some y → ¬ HitsP y gs ns act) ∧ act = 1)
theorem may_hit {xs gs ns : List V} {act : Int} {i : Nat} {x : V} (hx : xs[i]? = some x) (hn : ∀ j, j < i → ∀ y, xs[j]? = some y → ¬ HitsP y gs ns act) (hh : HitsP x gs ns act) : permit x = true ↔ MayP xs gs ns act := by
  constructor
  · intro h; exact .inl ⟨i, x, hx, hn, hh, h⟩
  · rintro (⟨i', x', hx', hn', hh', hp⟩ | ⟨h, _⟩)
    · rcases Nat.lt_trichotomy i i' with h | h | h
      · exact absurd hh (hn' i h x hx)
      · subst h; rw [hx] at hx'; cases hx'; exact hp
      · exact absurd hh' (hn i' h x' hx')
    · exact absurd hh (h i x hx)
theorem may_none {xs gs ns : List V} {act : Int} (hn : ∀ (j : Nat) (y : V), xs[j]? = some y → ¬ HitsP y gs ns act) : MayP xs gs ns act ↔ act = 1 := by
  constructor
  · rintro (⟨i', x', hx', _, hh', _⟩ | ⟨_, h⟩)
    · exact absurd hh' (hn i' x' hx')
    · exact h
  · intro h; exact .inr ⟨hn, h⟩
theorem mem_of_get {xs : List V} {i : Nat} {x : V} (h : xs[i]? = some x) : x ∈ xs := List.mem_of_getElem? h
theorem not_mem_upto {xs : List V} {x : V} {n : Nat} (hn : n = xs.length) (h : ∀ j, j < n → xs[j]? ≠ some x) : x ∉ xs := by
  intro hm
  obtain ⟨j, hj, e⟩ := List.getElem_of_mem hm
  exact h j (by omega) (by rw [List.getElem?_eq_getElem hj, e])

/-! ### how many changes -/
def byOf : V → Int
  | .agg [_, .int b, _] => b
  | _ => 0
def cntBy : List V → Int → Nat
  | [], _ => 0
  | x :: xs, b => (if byOf x = b then 1 else 0) + cntBy xs b
def jBy : V → Int → Int
  | .agg [_, .list xs], b => cntBy xs b
  | _, _ => 0
def ownerOf : V → Int
  | .agg [_, _, _, .int o, _, _] => o
  | _ => 0
theorem cnt_append : ∀ (xs ys : List V) (b : Int), cntBy (xs ++ ys) b = cntBy xs b + cntBy ys b
  | [], ys, b => by simp [cntBy]
  | x :: xs, ys, b => by simp only [List.cons_append, cntBy, cnt_append xs ys b]; omega
def hitN (x : V) (b : Int) : Nat := if byOf x = b then 1 else 0
theorem cnt_hit {xs : List V} {i : Nat} {x : V} {b : Int} (h : xs[i]? = some x) : cntBy (xs.take (i + 1)) b = cntBy (xs.take i) b + hitN x b := by
  rw [take_snoc h, cnt_append]
  simp [cntBy, hitN]
theorem cnt_step {xs : List V} {i : Nat} {x : V} {b : Int} (h : xs[i]? = some x) : cntBy (xs.take (i + 1)) b = cntBy (xs.take i) b + if byOf x = b then 1 else 0 := by
  rw [take_snoc h, cnt_append]
  simp [cntBy]
theorem cnt_le : ∀ (xs : List V) (b : Int), cntBy xs b ≤ xs.length
  | [], b => by simp [cntBy]
  | x :: xs, b => by
    have := cnt_le xs b
    simp only [cntBy, List.length_cons]
    split <;> omega
theorem cnt_take (xs : List V) (i : Nat) (b : Int) : cntBy (xs.take i) b ≤ i := by
  have := cnt_le (xs.take i) b
  have h2 := List.length_take_le i xs
  omega
end Go.Proofs.Ytilohpakglpdcaa
