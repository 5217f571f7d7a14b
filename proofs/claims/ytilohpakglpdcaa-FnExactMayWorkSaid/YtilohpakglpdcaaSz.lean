/-
  How large a datum is, as the laws count it. No program is named here.
-/
import Derived.Test.YtilohpakglpdcaaOpen
namespace Go.Proofs.Ytilohpakglpdcaa
open Go.RowKit

theorem ret_int {k : IntKind} {a b : Int} (h : a = b) : Ending.returned (.int k a) = .returned (.int k b) := by rw [h]
theorem ret_bool {a b : Bool} (h : a = b) : Ending.returned (.bool a) = .returned (.bool b) := by rw [h]

def szV (v : V) (left : Int) : Int := if (V.bulk v : Int) ≤ left then left - V.bulk v else -1
theorem sz_neg {v : V} {left : Int} (h : left < V.bulk v) : -1 = szV v left := by unfold szV; rw [if_neg (by omega)]
theorem sz_pos {v : V} {left r : Int} (h : (V.bulk v : Int) ≤ left) (hr : r = left - V.bulk v) : r = szV v left := by unfold szV; rw [if_pos h]; exact hr
theorem sz_lt {v : V} {left : Int} (h : szV v left < 0) (_h0 : 0 ≤ left) : left < V.bulk v := by
  unfold szV at h; split at h <;> omega
theorem sz_ge {v : V} {left : Int} (h : ¬ szV v left < 0) : szV v left = left - V.bulk v ∧ (V.bulk v : Int) ≤ left := by
  unfold szV at h ⊢; split at h
  · rename_i hl; rw [if_pos hl]; exact ⟨rfl, hl⟩
  · omega
theorem sz_cases {v : V} {left r : Int} (h : r = szV v left) : (r = -1 ∧ left < V.bulk v) ∨ (r = left - V.bulk v ∧ (V.bulk v : Int) ≤ left) := by
  subst h; unfold szV; split <;> omega
theorem sz_close {v : V} {left r : Int} (h : (r = -1 ∧ left < V.bulk v) ∨ (r = left - V.bulk v ∧ (V.bulk v : Int) ≤ left)) : r = szV v left := by
  unfold szV; split <;> omega
theorem bulk_list (xs : List V) : V.bulk (.list xs) = xs.length + V.bulks xs := by simp only [V.bulk]
theorem bulks_append : ∀ (xs ys : List V), V.bulks (xs ++ ys) = V.bulks xs + V.bulks ys
  | [], ys => by simp [V.bulks]
  | x :: xs, ys => by simp only [List.cons_append, V.bulks, bulks_append xs ys]; omega
theorem bulks_step {xs : List V} {i : Nat} {x : V} (h : xs[i]? = some x) : V.bulks (xs.take (i + 1)) = V.bulks (xs.take i) + V.bulk x ∧ V.bulks (xs.take i) + V.bulk x ≤ V.bulks xs := by
  have e : xs.take (i + 1) = xs.take i ++ [x] := by
    rw [List.take_add_one, h]; rfl
  have e2 : V.bulks (xs.take (i + 1)) = V.bulks (xs.take i) + V.bulk x := by rw [e, bulks_append]; simp [V.bulks]
  refine ⟨e2, ?_⟩
  have h3 := bulks_append (xs.take (i + 1)) (xs.drop (i + 1))
  rw [List.take_append_drop] at h3
  omega
theorem bulks_all {xs : List V} {n : Nat} (h : n = xs.length) : V.bulks (xs.take n) = V.bulks xs := by rw [h, List.take_length]
theorem bulk_range {xs : List V} (ok : Oks xs tRange) : V.bulks xs = 0 := by
  induction xs with
  | nil => simp [V.bulks]
  | cons x xs ih =>
    obtain ⟨_, rfl, h1⟩ := ok.1.agg_inv rfl
    obtain ⟨_, _, rfl, k1, h2⟩ := h1.cons_inv
    obtain ⟨_, _, rfl, k2, h3⟩ := h2.cons_inv
    obtain rfl := h3.nil_inv
    obtain ⟨a, rfl⟩ := k1.int_inv rfl
    obtain ⟨b, rfl⟩ := k2.int_inv rfl
    simp [V.bulks, V.bulk, ih ok.2]
theorem take_snoc {xs : List V} {i : Nat} {x : V} (h : xs[i]? = some x) : xs.take (i + 1) = xs.take i ++ [x] := by
  rw [List.take_add_one, h]; rfl
theorem cnt_pos (v : V) : 1 ≤ V.cnt v := by cases v <;> simp [V.cnt]
theorem cnt_mem {xs : List V} {i : Nat} {x : V} (h : xs[i]? = some x) : V.cnt x < V.cnts xs := by
  induction xs generalizing i with
  | nil => simp at h
  | cons y ys ih =>
    cases i with
    | zero => simp at h; subst h; simp only [V.cnts]; omega
    | succ i => simp at h; have := ih h; simp only [V.cnts]; omega
end Go.Proofs.Ytilohpakglpdcaa
