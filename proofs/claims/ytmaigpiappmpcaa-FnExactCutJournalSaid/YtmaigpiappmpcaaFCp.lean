/-
  What the functions that copy answer: what they are given, as lists of their own. Printed by a program of our own.
-/
import Derived.Test.YtmaigpiappmpcaaInv
import Derived.Test.YtmaigpiappmpcaaKP1T
namespace Go.Proofs.Ytmaigpiappmpcaa
open Go.RowKit
set_option maxRecDepth 100000
set_option maxHeartbeats 4000000
set_option linter.unusedSimpArgs false
set_option linter.unusedVariables false

def nr (k : Nat) (fl : Bool) (r : Nat) : Nat → C
  | 0 => .nil k fl
  | _ + 1 => .ref r
def nw (r : Nat) (x : Row) : Nat → List (Nat × Row)
  | 0 => []
  | _ + 1 => [(r, x)]
theorem cp1_s (es : List (List D)) (hB : es.length ≤ big) (ok : OkE big 2 es) (h : ∀ x, (∃ e ∈ es, D.list 3 false x ∈ e) → lim T 1 [.val false [.d (.list 3 false x)]] = some ([.val false [.row (orow 3 false x)]], [])) :
    lim T 1 [.val false [.d (.list 3 false es)]] = some ([.val false [.row (orow 3 false es)]], []) := by
  rw [lim_fn (f := 1) rfl rfl]
  have hl := loop0 (T := T) (mf := mf0) (body := lp1_0) (fun i => ⟨[(3, .ref 6), (7, .d (.list 3 false es)), (8, .d (.int .i64 es.length)), (9, .d (.int .i64 i))], [], [(6, orow 3 false (es.take i))]⟩) es.length (e := .exit 0) (by simp)
    (by simp -implicitDefEqProofs only [lp1_0, nlt, List.take_length, go_sem, reduceIte, Nat.reduceAdd, Nat.reduceEqDiff, Nat.reduceMul, Nat.reduceLeDiff, Nat.reduceBEq, Nat.reduceBNe, Nat.reduceSub, Nat.reduceLT]; rfl)
    (by
      intro i hi
      have hn := nth_lt hi
      obtain ⟨x0, x1, x2, he, b0, b1, ⟨b2, c2⟩⟩ := inv_Node (ok.nth_ hn)
      have m := h x2 ⟨_, nth_mem hn, by rw [he]; simp -implicitDefEqProofs only [List.mem_cons, true_or, or_true]⟩
      rw [he] at hn
      have ht := take_succ_nth es i _ hn
      have hr : (((es.take i).length + 1) * 56 ≤ room ∧ (es.take i).length + 1 ≤ maxLen) = True := by simp [room, big, maxLen] at hB ⊢; omega
      simp -implicitDefEqProofs only [lp1_0, hn, hi, hr, ht, m, ilt hi, wi hi (Nat.le_trans hB (by simp [maxLen, big])), Int.natCast_nonneg, go_sem, reduceIte, Nat.reduceAdd, Nat.reduceEqDiff, Nat.reduceMul, Nat.reduceLeDiff, Nat.reduceBEq, Nat.reduceBNe, Nat.reduceSub, Nat.reduceLT])
  simp -implicitDefEqProofs only [Int.natCast_zero, List.take_zero] at hl
  simp -implicitDefEqProofs only [hl, go_sem, reduceIte, Nat.reduceAdd, Nat.reduceEqDiff, Nat.reduceMul, Nat.reduceLeDiff, Nat.reduceBEq, Nat.reduceBNe, Nat.reduceSub, Nat.reduceLT]
theorem cp1_n (n : Nat) : ∀ (es : List (List D)), SizeOf.sizeOf es < n → es.length ≤ big → OkE big 2 es → lim T 1 [.val false [.d (.list 3 false es)]] = some ([.val false [.row (orow 3 false es)]], []) := by
  induction n with
  | zero => intro es h; omega
  | succ n hi =>
    intro es hn hB ok
    refine cp1_s es hB ok (fun x hx => ?_)
    obtain ⟨e, he, hx⟩ := hx
    have hz := Nat.lt_of_lt_of_le (size_in2 hx he) (Nat.le_of_lt_succ hn)
    obtain ⟨x0, x1, x2, rfl, b0, b1, ⟨b2, c2⟩⟩ := inv_Node (ok.mem e he)
    simp -implicitDefEqProofs only [List.mem_cons, List.not_mem_nil, reduceCtorEq, false_or, or_false, D.list.injEq, Nat.reduceEqDiff, Bool.false_eq_true, Bool.true_eq_false, false_and, and_false, true_and] at hx
    subst hx
    exact hi _ hz b2 c2
theorem cp1 (es : List (List D)) (hB : es.length ≤ big) (ok : OkE big 2 es) : lim T 1 [.val false [.d (.list 3 false es)]] = some ([.val false [.row (orow 3 false es)]], []) := cp1_n (SizeOf.sizeOf es + 1) es (by omega) hB ok
theorem cp2_s (es : List (List D)) (hB : es.length ≤ big) (ok : OkE big 2 es) (h : ∀ x, (∃ e ∈ es, D.list 3 false x ∈ e) → lim T 2 [.val false [.d (.list 3 false x)]] = some ([.val false [.row (orow 3 false x)]], [])) :
    lim T 2 [.val false [.d (.list 3 false es)]] = some ([.val false [.row (orow 3 false es)]], []) := by
  rw [lim_fn (f := 2) rfl rfl]
  have hl := loop0 (T := T) (mf := mf0) (body := lp2_0) (fun i => ⟨[(0, .d (.list 3 false es)), (3, .ref 5), (4, .d (.int .i64 i))], [], [(5, orow 3 false (es.take i))]⟩) es.length (e := .exit 0) (by simp)
    (by simp -implicitDefEqProofs only [lp2_0, nlt, List.take_length, go_sem, reduceIte, Nat.reduceAdd, Nat.reduceEqDiff, Nat.reduceMul, Nat.reduceLeDiff, Nat.reduceBEq, Nat.reduceBNe, Nat.reduceSub, Nat.reduceLT]; rfl)
    (by
      intro i hi
      have hn := nth_lt hi
      obtain ⟨x0, x1, x2, he, b0, b1, ⟨b2, c2⟩⟩ := inv_Node (ok.nth_ hn)
      have m := h x2 ⟨_, nth_mem hn, by rw [he]; simp -implicitDefEqProofs only [List.mem_cons, true_or, or_true]⟩
      rw [he] at hn
      have ht := take_succ_nth es i _ hn
      have hr : (((es.take i).length + 1) * 56 ≤ room ∧ (es.take i).length + 1 ≤ maxLen) = True := by simp [room, big, maxLen] at hB ⊢; omega
      simp -implicitDefEqProofs only [lp2_0, hn, hi, hr, ht, m, ilt hi, wi hi (Nat.le_trans hB (by simp [maxLen, big])), Int.natCast_nonneg, go_sem, reduceIte, Nat.reduceAdd, Nat.reduceEqDiff, Nat.reduceMul, Nat.reduceLeDiff, Nat.reduceBEq, Nat.reduceBNe, Nat.reduceSub, Nat.reduceLT])
  simp -implicitDefEqProofs only [Int.natCast_zero, List.take_zero] at hl
  simp -implicitDefEqProofs only [hl, go_sem, reduceIte, Nat.reduceAdd, Nat.reduceEqDiff, Nat.reduceMul, Nat.reduceLeDiff, Nat.reduceBEq, Nat.reduceBNe, Nat.reduceSub, Nat.reduceLT]
theorem cp2_n (n : Nat) : ∀ (es : List (List D)), SizeOf.sizeOf es < n → es.length ≤ big → OkE big 2 es → lim T 2 [.val false [.d (.list 3 false es)]] = some ([.val false [.row (orow 3 false es)]], []) := by
  induction n with
  | zero => intro es h; omega
  | succ n hi =>
    intro es hn hB ok
    refine cp2_s es hB ok (fun x hx => ?_)
    obtain ⟨e, he, hx⟩ := hx
    have hz := Nat.lt_of_lt_of_le (size_in2 hx he) (Nat.le_of_lt_succ hn)
    obtain ⟨x0, x1, x2, rfl, b0, b1, ⟨b2, c2⟩⟩ := inv_Node (ok.mem e he)
    simp -implicitDefEqProofs only [List.mem_cons, List.not_mem_nil, reduceCtorEq, false_or, or_false, D.list.injEq, Nat.reduceEqDiff, Bool.false_eq_true, Bool.true_eq_false, false_and, and_false, true_and] at hx
    subst hx
    exact hi _ hz b2 c2
theorem cp2 (es : List (List D)) (hB : es.length ≤ big) (ok : OkE big 2 es) : lim T 2 [.val false [.d (.list 3 false es)]] = some ([.val false [.row (orow 3 false es)]], []) := cp2_n (SizeOf.sizeOf es + 1) es (by omega) hB ok
theorem cp41_s (es : List (List D)) (hB : es.length ≤ big) (ok : OkE big 3 es) (h : ∀ x, (∃ e ∈ es, D.list 4 false x ∈ e) → lim T 41 [.val false [.d (.list 4 false x)]] = some ([.val false [.row (orow 4 false x)]], [])) :
    lim T 41 [.val false [.d (.list 4 false es)]] = some ([.val false [.row (orow 4 false es)]], []) := by
  rw [lim_fn (f := 41) rfl rfl]
  have hl := loop0 (T := T) (mf := mf0) (body := lp41_0) (fun i => ⟨[(3, .ref 6), (7, .d (.list 4 false es)), (8, .d (.int .i64 es.length)), (9, .d (.int .i64 i))], [], [(6, orow 4 false (es.take i))]⟩) es.length (e := .exit 0) (by simp)
    (by simp -implicitDefEqProofs only [lp41_0, nlt, List.take_length, go_sem, reduceIte, Nat.reduceAdd, Nat.reduceEqDiff, Nat.reduceMul, Nat.reduceLeDiff, Nat.reduceBEq, Nat.reduceBNe, Nat.reduceSub, Nat.reduceLT]; rfl)
    (by
      intro i hi
      have hn := nth_lt hi
      obtain ⟨x0, x1, x2, x3, he, _, b1, b2, ⟨b3, c3⟩⟩ := inv_Edit (ok.nth_ hn)
      have m := h x3 ⟨_, nth_mem hn, by rw [he]; simp -implicitDefEqProofs only [List.mem_cons, true_or, or_true]⟩
      rw [he] at hn
      have ht := take_succ_nth es i _ hn
      have hr : (((es.take i).length + 1) * 64 ≤ room ∧ (es.take i).length + 1 ≤ maxLen) = True := by simp [room, big, maxLen] at hB ⊢; omega
      simp -implicitDefEqProofs only [lp41_0, hn, hi, hr, ht, m, ilt hi, wi hi (Nat.le_trans hB (by simp [maxLen, big])), Int.natCast_nonneg, go_sem, reduceIte, Nat.reduceAdd, Nat.reduceEqDiff, Nat.reduceMul, Nat.reduceLeDiff, Nat.reduceBEq, Nat.reduceBNe, Nat.reduceSub, Nat.reduceLT])
  simp -implicitDefEqProofs only [Int.natCast_zero, List.take_zero] at hl
  simp -implicitDefEqProofs only [hl, go_sem, reduceIte, Nat.reduceAdd, Nat.reduceEqDiff, Nat.reduceMul, Nat.reduceLeDiff, Nat.reduceBEq, Nat.reduceBNe, Nat.reduceSub, Nat.reduceLT]
theorem cp41_n (n : Nat) : ∀ (es : List (List D)), SizeOf.sizeOf es < n → es.length ≤ big → OkE big 3 es → lim T 41 [.val false [.d (.list 4 false es)]] = some ([.val false [.row (orow 4 false es)]], []) := by
  induction n with
  | zero => intro es h; omega
  | succ n hi =>
    intro es hn hB ok
    refine cp41_s es hB ok (fun x hx => ?_)
    obtain ⟨e, he, hx⟩ := hx
    have hz := Nat.lt_of_lt_of_le (size_in2 hx he) (Nat.le_of_lt_succ hn)
    obtain ⟨x0, x1, x2, x3, rfl, _, b1, b2, ⟨b3, c3⟩⟩ := inv_Edit (ok.mem e he)
    simp -implicitDefEqProofs only [List.mem_cons, List.not_mem_nil, reduceCtorEq, false_or, or_false, D.list.injEq, Nat.reduceEqDiff, Bool.false_eq_true, Bool.true_eq_false, false_and, and_false, true_and] at hx
    subst hx
    exact hi _ hz b3 c3
theorem cp41 (es : List (List D)) (hB : es.length ≤ big) (ok : OkE big 3 es) : lim T 41 [.val false [.d (.list 4 false es)]] = some ([.val false [.row (orow 4 false es)]], []) := cp41_n (SizeOf.sizeOf es + 1) es (by omega) hB ok
theorem cp36_s (es : List (List D)) (hB : es.length ≤ big) (ok : OkE big 3 es) (h : ∀ x, (∃ e ∈ es, D.list 4 false x ∈ e) → lim T 36 [.val false [.d (.list 4 false x)]] = some ([.val false [.row (orow 4 false x)]], [])) :
    lim T 36 [.val false [.d (.list 4 false es)]] = some ([.val false [.row (orow 4 false es)]], []) := by
  rw [lim_fn (f := 36) rfl rfl]
  have hl := loop0 (T := T) (mf := mf0) (body := lp36_0) (fun i => ⟨[(0, .d (.list 4 false es)), (3, .ref 5), (4, .d (.int .i64 i))], [], [(5, orow 4 false (es.take i))]⟩) es.length (e := .exit 0) (by simp)
    (by simp -implicitDefEqProofs only [lp36_0, nlt, List.take_length, go_sem, reduceIte, Nat.reduceAdd, Nat.reduceEqDiff, Nat.reduceMul, Nat.reduceLeDiff, Nat.reduceBEq, Nat.reduceBNe, Nat.reduceSub, Nat.reduceLT]; rfl)
    (by
      intro i hi
      have hn := nth_lt hi
      obtain ⟨x0, x1, x2, x3, he, _, b1, b2, ⟨b3, c3⟩⟩ := inv_Edit (ok.nth_ hn)
      have m := h x3 ⟨_, nth_mem hn, by rw [he]; simp -implicitDefEqProofs only [List.mem_cons, true_or, or_true]⟩
      rw [he] at hn
      have ht := take_succ_nth es i _ hn
      have hr : (((es.take i).length + 1) * 64 ≤ room ∧ (es.take i).length + 1 ≤ maxLen) = True := by simp [room, big, maxLen] at hB ⊢; omega
      simp -implicitDefEqProofs only [lp36_0, hn, hi, hr, ht, m, ilt hi, wi hi (Nat.le_trans hB (by simp [maxLen, big])), Int.natCast_nonneg, go_sem, reduceIte, Nat.reduceAdd, Nat.reduceEqDiff, Nat.reduceMul, Nat.reduceLeDiff, Nat.reduceBEq, Nat.reduceBNe, Nat.reduceSub, Nat.reduceLT])
  simp -implicitDefEqProofs only [Int.natCast_zero, List.take_zero] at hl
  simp -implicitDefEqProofs only [hl, go_sem, reduceIte, Nat.reduceAdd, Nat.reduceEqDiff, Nat.reduceMul, Nat.reduceLeDiff, Nat.reduceBEq, Nat.reduceBNe, Nat.reduceSub, Nat.reduceLT]
theorem cp36_n (n : Nat) : ∀ (es : List (List D)), SizeOf.sizeOf es < n → es.length ≤ big → OkE big 3 es → lim T 36 [.val false [.d (.list 4 false es)]] = some ([.val false [.row (orow 4 false es)]], []) := by
  induction n with
  | zero => intro es h; omega
  | succ n hi =>
    intro es hn hB ok
    refine cp36_s es hB ok (fun x hx => ?_)
    obtain ⟨e, he, hx⟩ := hx
    have hz := Nat.lt_of_lt_of_le (size_in2 hx he) (Nat.le_of_lt_succ hn)
    obtain ⟨x0, x1, x2, x3, rfl, _, b1, b2, ⟨b3, c3⟩⟩ := inv_Edit (ok.mem e he)
    simp -implicitDefEqProofs only [List.mem_cons, List.not_mem_nil, reduceCtorEq, false_or, or_false, D.list.injEq, Nat.reduceEqDiff, Bool.false_eq_true, Bool.true_eq_false, false_and, and_false, true_and] at hx
    subst hx
    exact hi _ hz b3 c3
theorem cp36 (es : List (List D)) (hB : es.length ≤ big) (ok : OkE big 3 es) : lim T 36 [.val false [.d (.list 4 false es)]] = some ([.val false [.row (orow 4 false es)]], []) := cp36_n (SizeOf.sizeOf es + 1) es (by omega) hB ok
theorem cp42 (e : List D) (ok : OkC big (lay 5) e) :
    lim T 42 [.val true (e.map .d)] = some ([.val true (e.map own)], []) := by
  obtain ⟨x0, x1, rfl, ⟨b0, c0⟩, ⟨b1, c1⟩⟩ := inv_Journal ok
  have f0 := cp1 x0 b0 c0
  have hl0 := loop0 (T := T) (mf := mf0) (body := lp42_0) (fun i => ⟨[(2, .ptr 2 0), (3, .ptr 3 0), (11, .d (.list 3 false x1)), (12, .d (.int .i64 (x1.length : Nat))), (13, .d (.int .i64 (i : Nat)))], [(2, [.nil 3 false, .nil 3 false]), (3, [.ref 9000, nr 3 false 28 i])], nw 28 (orow 3 false (x1.take i)) i ++ [(9000, orow 3 false (x0))]⟩) x1.length (e := .exit 0) (s := ⟨[(2, .ptr 2 0), (3, .ptr 3 0), (11, .d (.list 3 false x1)), (12, .d (.int .i64 (x1.length : Nat))), (13, .d (.int .i64 (x1.length : Nat))), (14, .d (.bool false))], [(2, [.nil 3 false, .nil 3 false]), (3, [.ref 9000, nr 3 false 28 x1.length])], nw 28 (orow 3 false (x1.take x1.length)) x1.length ++ [(9000, orow 3 false (x0))]⟩) (by simp)
    (by cases x1 <;> simp -implicitDefEqProofs only [lp42_0, nlt, nr, nw, List.length_cons, List.length_nil, List.take_length, List.take_succ_cons, List.take_nil, List.take_zero, go_sem, reduceIte, Nat.reduceAdd, Nat.reduceEqDiff, Nat.reduceMul, Nat.reduceLeDiff, Nat.reduceBEq, Nat.reduceBNe, Nat.reduceSub, Nat.reduceLT])
    (by
      intro i hi
      have hn := nth_lt hi
      obtain ⟨y0, y1, y2, he, _, _, ⟨p2, q2⟩⟩ := inv_Change (c1.nth_ hn)
      have m := cp41 y2 p2 q2
      rw [he] at hn
      have ht := take_succ_nth x1 i _ hn
      have hr : (((x1.take i).length + 1) * 40 ≤ room ∧ (x1.take i).length + 1 ≤ maxLen) = True := by simp [room, big, maxLen] at b1 ⊢; omega
      have h1 : (40 ≤ room ∧ 1 ≤ maxLen) = True := by simp [room, maxLen]
      cases i with
      | zero => simp -implicitDefEqProofs only [lp42_0, hn, hi, ht, ilt hi, wi hi (Nat.le_trans b1 (by simp [maxLen, big])), Int.natCast_nonneg, m, nr, nw, h1, List.take_zero, List.map_nil, List.map_append, List.map_cons, go_sem, reduceIte, Nat.reduceAdd, Nat.reduceEqDiff, Nat.reduceMul, Nat.reduceLeDiff, Nat.reduceBEq, Nat.reduceBNe, Nat.reduceSub, Nat.reduceLT]
      | succ i => simp -implicitDefEqProofs only [lp42_0, hn, hi, ht, ilt hi, wi hi (Nat.le_trans b1 (by simp [maxLen, big])), Int.natCast_nonneg, m, nr, nw, hr, List.map_append, List.map_cons, List.map_nil, go_sem, reduceIte, Nat.reduceAdd, Nat.reduceEqDiff, Nat.reduceMul, Nat.reduceLeDiff, Nat.reduceBEq, Nat.reduceBNe, Nat.reduceSub, Nat.reduceLT])
  simp -implicitDefEqProofs only [Int.natCast_zero, List.take_zero, List.drop_zero, List.map_nil, List.nil_append, List.cons_append, nr, nw] at hl0
  rw [lim_fn (f := 42) rfl rfl]
  cases x1 with
  | nil =>
    simp -implicitDefEqProofs only [List.length_nil, nr, nw] at hl0
    simp -implicitDefEqProofs only [f0, hl0, own, List.take_length, List.drop_length, List.length_cons, List.length_nil, List.map_cons, List.map_nil, go_sem, reduceIte, Nat.reduceAdd, Nat.reduceEqDiff, Nat.reduceMul, Nat.reduceLeDiff, Nat.reduceBEq, Nat.reduceBNe, Nat.reduceSub, Nat.reduceLT]
  | cons a al =>
    simp -implicitDefEqProofs only [List.length_cons, nr, nw] at hl0
    simp -implicitDefEqProofs only [f0, hl0, own, List.take_length, List.drop_length, List.length_cons, List.length_nil, List.map_cons, List.map_nil, go_sem, reduceIte, Nat.reduceAdd, Nat.reduceEqDiff, Nat.reduceMul, Nat.reduceLeDiff, Nat.reduceBEq, Nat.reduceBNe, Nat.reduceSub, Nat.reduceLT]
theorem cp37 (e : List D) (ok : OkC big (lay 5) e) :
    lim T 37 [.val true (e.map .d)] = some ([.val true (e.map own)], []) := by
  obtain ⟨x0, x1, rfl, ⟨b0, c0⟩, ⟨b1, c1⟩⟩ := inv_Journal ok
  have f0 := cp2 x0 b0 c0
  have hl0 := loop0 (T := T) (mf := mf0) (body := lp37_0) (fun i => ⟨[(1, .ptr 1 0), (2, .ptr 2 0), (3, .ptr 3 0), (4, .d (.int .i64 (i : Nat)))], [(1, [.d (.list 3 false x0), .d (.list 3 false x1)]), (2, [.nil 3 false, .nil 3 false]), (3, [.ref 8000, nr 3 false 39 i])], nw 39 (orow 3 false (x1.take i)) i ++ [(8000, orow 3 false (x0))]⟩) x1.length (e := .exit 0) (s := ⟨[(1, .ptr 1 0), (2, .ptr 2 0), (3, .ptr 3 0), (4, .d (.int .i64 (x1.length : Nat))), (13, .d (.bool false))], [(1, [.d (.list 3 false x0), .d (.list 3 false x1)]), (2, [.nil 3 false, .nil 3 false]), (3, [.ref 8000, nr 3 false 39 x1.length])], nw 39 (orow 3 false (x1.take x1.length)) x1.length ++ [(8000, orow 3 false (x0))]⟩) (by simp)
    (by cases x1 <;> simp -implicitDefEqProofs only [lp37_0, nlt, nr, nw, List.length_cons, List.length_nil, List.take_length, List.take_succ_cons, List.take_nil, List.take_zero, go_sem, reduceIte, Nat.reduceAdd, Nat.reduceEqDiff, Nat.reduceMul, Nat.reduceLeDiff, Nat.reduceBEq, Nat.reduceBNe, Nat.reduceSub, Nat.reduceLT])
    (by
      intro i hi
      have hn := nth_lt hi
      obtain ⟨y0, y1, y2, he, _, _, ⟨p2, q2⟩⟩ := inv_Change (c1.nth_ hn)
      have m := cp36 y2 p2 q2
      rw [he] at hn
      have ht := take_succ_nth x1 i _ hn
      have hr : (((x1.take i).length + 1) * 40 ≤ room ∧ (x1.take i).length + 1 ≤ maxLen) = True := by simp [room, big, maxLen] at b1 ⊢; omega
      have h1 : (40 ≤ room ∧ 1 ≤ maxLen) = True := by simp [room, maxLen]
      cases i with
      | zero => simp -implicitDefEqProofs only [lp37_0, hn, hi, ht, ilt hi, wi hi (Nat.le_trans b1 (by simp [maxLen, big])), Int.natCast_nonneg, m, nr, nw, h1, List.take_zero, List.map_nil, List.map_append, List.map_cons, go_sem, reduceIte, Nat.reduceAdd, Nat.reduceEqDiff, Nat.reduceMul, Nat.reduceLeDiff, Nat.reduceBEq, Nat.reduceBNe, Nat.reduceSub, Nat.reduceLT]
      | succ i => simp -implicitDefEqProofs only [lp37_0, hn, hi, ht, ilt hi, wi hi (Nat.le_trans b1 (by simp [maxLen, big])), Int.natCast_nonneg, m, nr, nw, hr, List.map_append, List.map_cons, List.map_nil, go_sem, reduceIte, Nat.reduceAdd, Nat.reduceEqDiff, Nat.reduceMul, Nat.reduceLeDiff, Nat.reduceBEq, Nat.reduceBNe, Nat.reduceSub, Nat.reduceLT])
  simp -implicitDefEqProofs only [Int.natCast_zero, List.take_zero, List.drop_zero, List.map_nil, List.nil_append, List.cons_append, nr, nw] at hl0
  rw [lim_fn (f := 37) rfl rfl]
  cases x1 with
  | nil =>
    simp -implicitDefEqProofs only [List.length_nil, nr, nw] at hl0
    simp -implicitDefEqProofs only [f0, hl0, own, List.take_length, List.drop_length, List.length_cons, List.length_nil, List.map_cons, List.map_nil, go_sem, reduceIte, Nat.reduceAdd, Nat.reduceEqDiff, Nat.reduceMul, Nat.reduceLeDiff, Nat.reduceBEq, Nat.reduceBNe, Nat.reduceSub, Nat.reduceLT]
  | cons a al =>
    simp -implicitDefEqProofs only [List.length_cons, nr, nw] at hl0
    simp -implicitDefEqProofs only [f0, hl0, own, List.take_length, List.drop_length, List.length_cons, List.length_nil, List.map_cons, List.map_nil, go_sem, reduceIte, Nat.reduceAdd, Nat.reduceEqDiff, Nat.reduceMul, Nat.reduceLeDiff, Nat.reduceBEq, Nat.reduceBNe, Nat.reduceSub, Nat.reduceLT]

end Go.Proofs.Ytmaigpiappmpcaa
