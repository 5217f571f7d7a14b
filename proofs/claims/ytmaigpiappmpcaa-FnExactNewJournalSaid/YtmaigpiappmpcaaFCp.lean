/-
  What the functions that copy answer: what they are given, as lists of their own. Printed by a program of our own.
-/
import Derived.Test.YtmaigpiappmpcaaInv
import Derived.Test.YtmaigpiappmpcaaKP1T
namespace Go.Proofs.Ytmaigpiappmpcaa
open Go.RowKit
set_option maxRecDepth 100000
set_option maxHeartbeats 4000000
set_option linter.unusedSimpArgs false
set_option linter.unusedVariables false

theorem cp1_s (es : List (List D)) (hB : es.length ≤ big) (ok : OkE big 2 es) (h : ∀ x, (∃ e ∈ es, D.list 3 false x ∈ e) → lim T 1 [.val false [.d (.list 3 false x)]] = some ([.val false [.row (orow 3 false x)]], [])) :
    lim T 1 [.val false [.d (.list 3 false es)]] = some ([.val false [.row (orow 3 false es)]], []) := by
  rw [lim_fn (f := 1) rfl rfl]
  have hl := loop0 (T := T) (mf := mf0) (body := lp1_0) (fun i => ⟨[(3, .ref 6), (7, .d (.list 3 false es)), (8, .d (.int .i64 es.length)), (9, .d (.int .i64 i))], [], [(6, orow 3 false (es.take i))]⟩) es.length (e := .exit 0) (by simp)
    (by simp -implicitDefEqProofs only [lp1_0, nlt, List.take_length, go_sem, reduceIte, Nat.reduceAdd, Nat.reduceEqDiff, Nat.reduceMul, Nat.reduceLeDiff, Nat.reduceBEq, Nat.reduceBNe, Nat.reduceSub, Nat.reduceLT]; rfl)
    (by
      intro i hi
      have hn := nth_lt hi
      obtain ⟨x0, x1, x2, he, b0, b1, ⟨b2, c2⟩⟩ := inv_Node (ok.nth_ hn)
      have m := h x2 ⟨_, nth_mem hn, by rw [he]; simp -implicitDefEqProofs only [List.mem_cons, true_or, or_true]⟩
      rw [he] at hn
      have ht := take_succ_nth es i _ hn
      have hr : (((es.take i).length + 1) * 56 ≤ room ∧ (es.take i).length + 1 ≤ maxLen) = True := by simp [room, big, maxLen] at hB ⊢; omega
      simp -implicitDefEqProofs only [lp1_0, hn, hi, hr, ht, m, ilt hi, wi hi (Nat.le_trans hB (by simp [maxLen, big])), Int.natCast_nonneg, go_sem, reduceIte, Nat.reduceAdd, Nat.reduceEqDiff, Nat.reduceMul, Nat.reduceLeDiff, Nat.reduceBEq, Nat.reduceBNe, Nat.reduceSub, Nat.reduceLT])
  simp -implicitDefEqProofs only [Int.natCast_zero, List.take_zero] at hl
  simp -implicitDefEqProofs only [hl, go_sem, reduceIte, Nat.reduceAdd, Nat.reduceEqDiff, Nat.reduceMul, Nat.reduceLeDiff, Nat.reduceBEq, Nat.reduceBNe, Nat.reduceSub, Nat.reduceLT]
theorem cp1_n (n : Nat) : ∀ (es : List (List D)), SizeOf.sizeOf es < n → es.length ≤ big → OkE big 2 es → lim T 1 [.val false [.d (.list 3 false es)]] = some ([.val false [.row (orow 3 false es)]], []) := by
  induction n with
  | zero => intro es h; omega
  | succ n hi =>
    intro es hn hB ok
    refine cp1_s es hB ok (fun x hx => ?_)
    obtain ⟨e, he, hx⟩ := hx
    have hz := Nat.lt_of_lt_of_le (size_in2 hx he) (Nat.le_of_lt_succ hn)
    obtain ⟨x0, x1, x2, rfl, b0, b1, ⟨b2, c2⟩⟩ := inv_Node (ok.mem e he)
    simp -implicitDefEqProofs only [List.mem_cons, List.not_mem_nil, reduceCtorEq, false_or, or_false, D.list.injEq, Nat.reduceEqDiff, Bool.false_eq_true, Bool.true_eq_false, false_and, and_false, true_and] at hx
    subst hx
    exact hi _ hz b2 c2
theorem cp1 (es : List (List D)) (hB : es.length ≤ big) (ok : OkE big 2 es) : lim T 1 [.val false [.d (.list 3 false es)]] = some ([.val false [.row (orow 3 false es)]], []) := cp1_n (SizeOf.sizeOf es + 1) es (by omega) hB ok
theorem cp2_s (es : List (List D)) (hB : es.length ≤ big) (ok : OkE big 2 es) (h : ∀ x, (∃ e ∈ es, D.list 3 false x ∈ e) → lim T 2 [.val false [.d (.list 3 false x)]] = some ([.val false [.row (orow 3 false x)]], [])) :
    lim T 2 [.val false [.d (.list 3 false es)]] = some ([.val false [.row (orow 3 false es)]], []) := by
  rw [lim_fn (f := 2) rfl rfl]
  have hl := loop0 (T := T) (mf := mf0) (body := lp2_0) (fun i => ⟨[(0, .d (.list 3 false es)), (3, .ref 5), (4, .d (.int .i64 i))], [], [(5, orow 3 false (es.take i))]⟩) es.length (e := .exit 0) (by simp)
    (by simp -implicitDefEqProofs only [lp2_0, nlt, List.take_length, go_sem, reduceIte, Nat.reduceAdd, Nat.reduceEqDiff, Nat.reduceMul, Nat.reduceLeDiff, Nat.reduceBEq, Nat.reduceBNe, Nat.reduceSub, Nat.reduceLT]; rfl)
    (by
      intro i hi
      have hn := nth_lt hi
      obtain ⟨x0, x1, x2, he, b0, b1, ⟨b2, c2⟩⟩ := inv_Node (ok.nth_ hn)
      have m := h x2 ⟨_, nth_mem hn, by rw [he]; simp -implicitDefEqProofs only [List.mem_cons, true_or, or_true]⟩
      rw [he] at hn
      have ht := take_succ_nth es i _ hn
      have hr : (((es.take i).length + 1) * 56 ≤ room ∧ (es.take i).length + 1 ≤ maxLen) = True := by simp [room, big, maxLen] at hB ⊢; omega
      simp -implicitDefEqProofs only [lp2_0, hn, hi, hr, ht, m, ilt hi, wi hi (Nat.le_trans hB (by simp [maxLen, big])), Int.natCast_nonneg, go_sem, reduceIte, Nat.reduceAdd, Nat.reduceEqDiff, Nat.reduceMul, Nat.reduceLeDiff, Nat.reduceBEq, Nat.reduceBNe, Nat.reduceSub, Nat.reduceLT])
  simp -implicitDefEqProofs only [Int.natCast_zero, List.take_zero] at hl
  simp -implicitDefEqProofs only [hl, go_sem, reduceIte, Nat.reduceAdd, Nat.reduceEqDiff, Nat.reduceMul, Nat.reduceLeDiff, Nat.reduceBEq, Nat.reduceBNe, Nat.reduceSub, Nat.reduceLT]
theorem cp2_n (n : Nat) : ∀ (es : List (List D)), SizeOf.sizeOf es < n → es.length ≤ big → OkE big 2 es → lim T 2 [.val false [.d (.list 3 false es)]] = some ([.val false [.row (orow 3 false es)]], []) := by
  induction n with
  | zero => intro es h; omega
  | succ n hi =>
    intro es hn hB ok
    refine cp2_s es hB ok (fun x hx => ?_)
    obtain ⟨e, he, hx⟩ := hx
    have hz := Nat.lt_of_lt_of_le (size_in2 hx he) (Nat.le_of_lt_succ hn)
    obtain ⟨x0, x1, x2, rfl, b0, b1, ⟨b2, c2⟩⟩ := inv_Node (ok.mem e he)
    simp -implicitDefEqProofs only [List.mem_cons, List.not_mem_nil, reduceCtorEq, false_or, or_false, D.list.injEq, Nat.reduceEqDiff, Bool.false_eq_true, Bool.true_eq_false, false_and, and_false, true_and] at hx
    subst hx
    exact hi _ hz b2 c2
theorem cp2 (es : List (List D)) (hB : es.length ≤ big) (ok : OkE big 2 es) : lim T 2 [.val false [.d (.list 3 false es)]] = some ([.val false [.row (orow 3 false es)]], []) := cp2_n (SizeOf.sizeOf es + 1) es (by omega) hB ok
theorem cp41_s (es : List (List D)) (hB : es.length ≤ big) (ok : OkE big 3 es) (h : ∀ x, (∃ e ∈ es, D.list 4 false x ∈ e) → lim T 41 [.val false [.d (.list 4 false x)]] = some ([.val false [.row (orow 4 false x)]], [])) :
    lim T 41 [.val false [.d (.list 4 false es)]] = some ([.val false [.row (orow 4 false es)]], []) := by
  rw [lim_fn (f := 41) rfl rfl]
  have hl := loop0 (T := T) (mf := mf0) (body := lp41_0) (fun i => ⟨[(3, .ref 6), (7, .d (.list 4 false es)), (8, .d (.int .i64 es.length)), (9, .d (.int .i64 i))], [], [(6, orow 4 false (es.take i))]⟩) es.length (e := .exit 0) (by simp)
    (by simp -implicitDefEqProofs only [lp41_0, nlt, List.take_length, go_sem, reduceIte, Nat.reduceAdd, Nat.reduceEqDiff, Nat.reduceMul, Nat.reduceLeDiff, Nat.reduceBEq, Nat.reduceBNe, Nat.reduceSub, Nat.reduceLT]; rfl)
    (by
      intro i hi
      have hn := nth_lt hi
      obtain ⟨x0, x1, x2, x3, he, _, b1, b2, ⟨b3, c3⟩⟩ := inv_Edit (ok.nth_ hn)
      have m := h x3 ⟨_, nth_mem hn, by rw [he]; simp -implicitDefEqProofs only [List.mem_cons, true_or, or_true]⟩
      rw [he] at hn
      have ht := take_succ_nth es i _ hn
      have hr : (((es.take i).length + 1) * 64 ≤ room ∧ (es.take i).length + 1 ≤ maxLen) = True := by simp [room, big, maxLen] at hB ⊢; omega
      simp -implicitDefEqProofs only [lp41_0, hn, hi, hr, ht, m, ilt hi, wi hi (Nat.le_trans hB (by simp [maxLen, big])), Int.natCast_nonneg, go_sem, reduceIte, Nat.reduceAdd, Nat.reduceEqDiff, Nat.reduceMul, Nat.reduceLeDiff, Nat.reduceBEq, Nat.reduceBNe, Nat.reduceSub, Nat.reduceLT])
  simp -implicitDefEqProofs only [Int.natCast_zero, List.take_zero] at hl
  simp -implicitDefEqProofs only [hl, go_sem, reduceIte, Nat.reduceAdd, Nat.reduceEqDiff, Nat.reduceMul, Nat.reduceLeDiff, Nat.reduceBEq, Nat.reduceBNe, Nat.reduceSub, Nat.reduceLT]
theorem cp41_n (n : Nat) : ∀ (es : List (List D)), SizeOf.sizeOf es < n → es.length ≤ big → OkE big 3 es → lim T 41 [.val false [.d (.list 4 false es)]] = some ([.val false [.row (orow 4 false es)]], []) := by
  induction n with
  | zero => intro es h; omega
  | succ n hi =>
    intro es hn hB ok
    refine cp41_s es hB ok (fun x hx => ?_)
    obtain ⟨e, he, hx⟩ := hx
    have hz := Nat.lt_of_lt_of_le (size_in2 hx he) (Nat.le_of_lt_succ hn)
    obtain ⟨x0, x1, x2, x3, rfl, _, b1, b2, ⟨b3, c3⟩⟩ := inv_Edit (ok.mem e he)
    simp -implicitDefEqProofs only [List.mem_cons, List.not_mem_nil, reduceCtorEq, false_or, or_false, D.list.injEq, Nat.reduceEqDiff, Bool.false_eq_true, Bool.true_eq_false, false_and, and_false, true_and] at hx
    subst hx
    exact hi _ hz b3 c3
theorem cp41 (es : List (List D)) (hB : es.length ≤ big) (ok : OkE big 3 es) : lim T 41 [.val false [.d (.list 4 false es)]] = some ([.val false [.row (orow 4 false es)]], []) := cp41_n (SizeOf.sizeOf es + 1) es (by omega) hB ok
theorem cp36_s (es : List (List D)) (hB : es.length ≤ big) (ok : OkE big 3 es) (h : ∀ x, (∃ e ∈ es, D.list 4 false x ∈ e) → lim T 36 [.val false [.d (.list 4 false x)]] = some ([.val false [.row (orow 4 false x)]], [])) :
    lim T 36 [.val false [.d (.list 4 false es)]] = some ([.val false [.row (orow 4 false es)]], []) := by
  rw [lim_fn (f := 36) rfl rfl]
  have hl := loop0 (T := T) (mf := mf0) (body := lp36_0) (fun i => ⟨[(0, .d (.list 4 false es)), (3, .ref 5), (4, .d (.int .i64 i))], [], [(5, orow 4 false (es.take i))]⟩) es.length (e := .exit 0) (by simp)
    (by simp -implicitDefEqProofs only [lp36_0, nlt, List.take_length, go_sem, reduceIte, Nat.reduceAdd, Nat.reduceEqDiff, Nat.reduceMul, Nat.reduceLeDiff, Nat.reduceBEq, Nat.reduceBNe, Nat.reduceSub, Nat.reduceLT]; rfl)
    (by
      intro i hi
      have hn := nth_lt hi
      obtain ⟨x0, x1, x2, x3, he, _, b1, b2, ⟨b3, c3⟩⟩ := inv_Edit (ok.nth_ hn)
      have m := h x3 ⟨_, nth_mem hn, by rw [he]; simp -implicitDefEqProofs only [List.mem_cons, true_or, or_true]⟩
      rw [he] at hn
      have ht := take_succ_nth es i _ hn
      have hr : (((es.take i).length + 1) * 64 ≤ room ∧ (es.take i).length + 1 ≤ maxLen) = True := by simp [room, big, maxLen] at hB ⊢; omega
      simp -implicitDefEqProofs only [lp36_0, hn, hi, hr, ht, m, ilt hi, wi hi (Nat.le_trans hB (by simp [maxLen, big])), Int.natCast_nonneg, go_sem, reduceIte, Nat.reduceAdd, Nat.reduceEqDiff, Nat.reduceMul, Nat.reduceLeDiff, Nat.reduceBEq, Nat.reduceBNe, Nat.reduceSub, Nat.reduceLT])
  simp -implicitDefEqProofs only [Int.natCast_zero, List.take_zero] at hl
  simp -implicitDefEqProofs only [hl, go_sem, reduceIte, Nat.reduceAdd, Nat.reduceEqDiff, Nat.reduceMul, Nat.reduceLeDiff, Nat.reduceBEq, Nat.reduceBNe, Nat.reduceSub, Nat.reduceLT]
theorem cp36_n (n : Nat) : ∀ (es : List (List D)), SizeOf.sizeOf es < n → es.length ≤ big → OkE big 3 es → lim T 36 [.val false [.d (.list 4 false es)]] = some ([.val false [.row (orow 4 false es)]], []) := by
  induction n with
  | zero => intro es h; omega
  | succ n hi =>
    intro es hn hB ok
    refine cp36_s es hB ok (fun x hx => ?_)
    obtain ⟨e, he, hx⟩ := hx
    have hz := Nat.lt_of_lt_of_le (size_in2 hx he) (Nat.le_of_lt_succ hn)
    obtain ⟨x0, x1, x2, x3, rfl, _, b1, b2, ⟨b3, c3⟩⟩ := inv_Edit (ok.mem e he)
    simp -implicitDefEqProofs only [List.mem_cons, List.not_mem_nil, reduceCtorEq, false_or, or_false, D.list.injEq, Nat.reduceEqDiff, Bool.false_eq_true, Bool.true_eq_false, false_and, and_false, true_and] at hx
    subst hx
    exact hi _ hz b3 c3
theorem cp36 (es : List (List D)) (hB : es.length ≤ big) (ok : OkE big 3 es) : lim T 36 [.val false [.d (.list 4 false es)]] = some ([.val false [.row (orow 4 false es)]], []) := cp36_n (SizeOf.sizeOf es + 1) es (by omega) hB ok
theorem cp135 (e : List D) (ok : OkC big (lay 7) e) :
    lim T 135 [.val true (e.map .d)] = some ([.val true (e.map own)], []) := by
  obtain ⟨x0, x1, x2, x3, x4, rfl, _, ⟨b1, c1⟩, ⟨b2, c2⟩, b3, b4⟩ := inv_Type ok
  have r1 : (x1.length * 16 ≤ room ∧ x1.length ≤ maxLen) = True := by simp [room, big, maxLen] at b1 ⊢; omega
  have r2 : (x2.length * 16 ≤ room ∧ x2.length ≤ maxLen) = True := by simp [room, big, maxLen] at b2 ⊢; omega
  rw [lim_fn (f := 135) rfl rfl]
  simp -implicitDefEqProofs only [r1, r2, own, go_sem, reduceIte, Nat.reduceAdd, Nat.reduceEqDiff, Nat.reduceMul, Nat.reduceLeDiff, Nat.reduceBEq, Nat.reduceBNe, Nat.reduceSub, Nat.reduceLT]
theorem cp76 (e : List D) (ok : OkC big (lay 7) e) :
    lim T 76 [.val true (e.map .d)] = some ([.val true (e.map own)], []) := by
  obtain ⟨x0, x1, x2, x3, x4, rfl, _, ⟨b1, c1⟩, ⟨b2, c2⟩, b3, b4⟩ := inv_Type ok
  have r1 : (x1.length * 16 ≤ room ∧ x1.length ≤ maxLen) = True := by simp [room, big, maxLen] at b1 ⊢; omega
  have r2 : (x2.length * 16 ≤ room ∧ x2.length ≤ maxLen) = True := by simp [room, big, maxLen] at b2 ⊢; omega
  rw [lim_fn (f := 76) rfl rfl]
  simp -implicitDefEqProofs only [r1, r2, own, go_sem, reduceIte, Nat.reduceAdd, Nat.reduceEqDiff, Nat.reduceMul, Nat.reduceLeDiff, Nat.reduceBEq, Nat.reduceBNe, Nat.reduceSub, Nat.reduceLT]

end Go.Proofs.Ytmaigpiappmpcaa
