/-
  What the functions held.. answer for marked data: how far the marks go. Printed by a program of our own.
-/
import Derived.Test.YtmaigpiappmpcaaFMk
namespace Go.Proofs.Ytmaigpiappmpcaa
open Go.RowKit
set_option maxRecDepth 100000
set_option maxHeartbeats 4000000
set_option linter.unusedSimpArgs false
set_option linter.unusedVariables false

theorem held_NodeS_s (es : List (List D)) (hB : es.length ≤ big) (ok : OkE big 2 es) (h : ∀ x, (∃ e ∈ es, D.list 3 false x ∈ e) → ∀ (q : Int), 0 < q → q + mnE x ≤ 4611686018427387904 → lim T 21 [.val false [.d (.list 3 false (mkE x q))], .val false [.d (.int .i64 q)]] = some ([.val false [.d (.int .i64 (q + mnE x))]], [])) (q : Int) (h0 : 0 < q) (h1 : q + mnE es ≤ 4611686018427387904) :
    lim T 21 [.val false [.d (.list 3 false (mkE es q))], .val false [.d (.int .i64 q)]] = some ([.val false [.d (.int .i64 (q + mnE es))]], []) := by
  rw [lim_fn (f := 21) rfl rfl]
  have hl := loop0 (T := T) (mf := mf0) (body := lp21_0) (fun i => ⟨[(0, .d (.list 3 false (mkE es q))), (1, .d (.int .i64 (q + mnE (es.take i)))), (5, .d (.int .i64 i))], [], []⟩) es.length (e := .exit 0) (by simp)
    (by simp -implicitDefEqProofs only [lp21_0, mkE_length, nlt, List.take_length, go_sem, reduceIte, Nat.reduceAdd, Nat.reduceEqDiff, Nat.reduceMul, Nat.reduceLeDiff, Nat.reduceBEq, Nat.reduceBNe, Nat.reduceSub, Nat.reduceLT]; rfl)
    (by
      intro i hi
      have hn := nth_lt hi
      have t1 := mnE_take_le es (i + 1)
      have t2 := mnE_take_succ hn
      obtain ⟨x0, x1, x2, he, b0, b1, ⟨b2, c2⟩⟩ := inv_Node (ok.nth_ hn)
      have t3 : mnC es[i] = 0 + 1 + 1 + mnE x2 := by rw [he]; simp -implicitDefEqProofs only [mnC, D.mn] <;> omega
      have m0 := markText (q + (mnE (es.take i) : Int)) (by omega) (by omega)
      have m1 := markText (q + (mnE (es.take i) : Int) + 1) (by omega) (by omega)
      have m2 := h x2 ⟨_, nth_mem hn, by rw [he]; simp -implicitDefEqProofs only [List.mem_cons, true_or, or_true]⟩ (q + (mnE (es.take i) : Int) + 1 + 1) (by omega) (by omega)
      obtain ⟨w0, w1, d2, t4⟩ : (IntKind.i64.wrap (q + (mnE (es.take i) : Int) + 1) = q + (mnE (es.take i) : Int) + 1) ∧ (IntKind.i64.wrap (q + (mnE (es.take i) : Int) + 1 + 1) = q + (mnE (es.take i) : Int) + 1 + 1) ∧ (¬ (q + (mnE (es.take i) : Int) + 1 + 1 + (mnE x2 : Int) < 0)) ∧ (q + (mnE (es.take (i + 1)) : Int) = q + (mnE (es.take i) : Int) + 1 + 1 + (mnE x2 : Int)) := ⟨i64_wrap (by omega), i64_wrap (by omega), by omega, by omega⟩
      have g := nth_mkE es q i _ hn
      rw [he] at g
      simp -implicitDefEqProofs only [mkC, D.mk, D.mn, Int.natCast_one] at g
      have i3 : (1 : Int) ≤ 3 := by omega
      simp -implicitDefEqProofs only [lp21_0, m0, m1, m2, w0, w1, d2, t4, i3, mkE_length, g, hi, ilt hi, wi hi (Nat.le_trans hB (by simp [maxLen, big])), Int.natCast_nonneg, decide_eq_true_eq, go_sem, reduceIte, Nat.reduceAdd, Nat.reduceEqDiff, Nat.reduceMul, Nat.reduceLeDiff, Nat.reduceBEq, Nat.reduceBNe, Nat.reduceSub, Nat.reduceLT])
  simp -implicitDefEqProofs only [Int.natCast_zero, List.take_zero, mnE, Int.add_zero] at hl
  simp -implicitDefEqProofs only [hl, go_sem, reduceIte, Nat.reduceAdd, Nat.reduceEqDiff, Nat.reduceMul, Nat.reduceLeDiff, Nat.reduceBEq, Nat.reduceBNe, Nat.reduceSub, Nat.reduceLT]
theorem held_Node_n (n : Nat) : ∀ (es : List (List D)), SizeOf.sizeOf es < n → es.length ≤ big → OkE big 2 es → ∀ (q : Int), 0 < q → q + mnE es ≤ 4611686018427387904 → lim T 21 [.val false [.d (.list 3 false (mkE es q))], .val false [.d (.int .i64 q)]] = some ([.val false [.d (.int .i64 (q + mnE es))]], []) := by
  induction n with
  | zero => intro es h; omega
  | succ n hi =>
    intro es hn hB ok q h0 h1
    refine held_NodeS_s es hB ok (fun x hx => ?_) q h0 h1
    obtain ⟨e, he, hx⟩ := hx
    have hz := Nat.lt_of_lt_of_le (size_in2 hx he) (Nat.le_of_lt_succ hn)
    obtain ⟨x0, x1, x2, rfl, b0, b1, ⟨b2, c2⟩⟩ := inv_Node (ok.mem e he)
    simp -implicitDefEqProofs only [List.mem_cons, List.not_mem_nil, reduceCtorEq, false_or, or_false, D.list.injEq, Nat.reduceEqDiff, Bool.false_eq_true, Bool.true_eq_false, false_and, and_false, true_and] at hx
    subst hx
    exact hi _ hz b2 c2
theorem held_NodeS (es : List (List D)) (hB : es.length ≤ big) (ok : OkE big 2 es) (q : Int) (h0 : 0 < q) (h1 : q + mnE es ≤ 4611686018427387904) : lim T 21 [.val false [.d (.list 3 false (mkE es q))], .val false [.d (.int .i64 q)]] = some ([.val false [.d (.int .i64 (q + mnE es))]], []) := held_Node_n (SizeOf.sizeOf es + 1) es (by omega) hB ok q h0 h1
theorem held_EditS_s (es : List (List D)) (hB : es.length ≤ big) (ok : OkE big 3 es) (h : ∀ x, (∃ e ∈ es, D.list 4 false x ∈ e) → ∀ (q : Int), 0 < q → q + mnE x ≤ 4611686018427387904 → lim T 22 [.val false [.d (.list 4 false (mkE x q))], .val false [.d (.int .i64 q)]] = some ([.val false [.d (.int .i64 (q + mnE x))]], [])) (q : Int) (h0 : 0 < q) (h1 : q + mnE es ≤ 4611686018427387904) :
    lim T 22 [.val false [.d (.list 4 false (mkE es q))], .val false [.d (.int .i64 q)]] = some ([.val false [.d (.int .i64 (q + mnE es))]], []) := by
  rw [lim_fn (f := 22) rfl rfl]
  have hl := loop0 (T := T) (mf := mf0) (body := lp22_0) (fun i => ⟨[(0, .d (.list 4 false (mkE es q))), (1, .d (.int .i64 (q + mnE (es.take i)))), (5, .d (.int .i64 i))], [], []⟩) es.length (e := .exit 0) (by simp)
    (by simp -implicitDefEqProofs only [lp22_0, mkE_length, nlt, List.take_length, go_sem, reduceIte, Nat.reduceAdd, Nat.reduceEqDiff, Nat.reduceMul, Nat.reduceLeDiff, Nat.reduceBEq, Nat.reduceBNe, Nat.reduceSub, Nat.reduceLT]; rfl)
    (by
      intro i hi
      have hn := nth_lt hi
      have t1 := mnE_take_le es (i + 1)
      have t2 := mnE_take_succ hn
      obtain ⟨x0, x1, x2, x3, he, _, b1, b2, ⟨b3, c3⟩⟩ := inv_Edit (ok.nth_ hn)
      have t3 : mnC es[i] = 0 + 1 + 1 + 1 + mnE x3 := by rw [he]; simp -implicitDefEqProofs only [mnC, D.mn] <;> omega
      have m1 := markText (q + (mnE (es.take i) : Int) + 1) (by omega) (by omega)
      have m2 := markText (q + (mnE (es.take i) : Int) + 1 + 1) (by omega) (by omega)
      have m3 := h x3 ⟨_, nth_mem hn, by rw [he]; simp -implicitDefEqProofs only [List.mem_cons, true_or, or_true]⟩ (q + (mnE (es.take i) : Int) + 1 + 1 + 1) (by omega) (by omega)
      obtain ⟨w0, w1, w2, d3, t4⟩ : (IntKind.i64.wrap (q + (mnE (es.take i) : Int) + 1) = q + (mnE (es.take i) : Int) + 1) ∧ (IntKind.i64.wrap (q + (mnE (es.take i) : Int) + 1 + 1) = q + (mnE (es.take i) : Int) + 1 + 1) ∧ (IntKind.i64.wrap (q + (mnE (es.take i) : Int) + 1 + 1 + 1) = q + (mnE (es.take i) : Int) + 1 + 1 + 1) ∧ (¬ (q + (mnE (es.take i) : Int) + 1 + 1 + 1 + (mnE x3 : Int) < 0)) ∧ (q + (mnE (es.take (i + 1)) : Int) = q + (mnE (es.take i) : Int) + 1 + 1 + 1 + (mnE x3 : Int)) := ⟨i64_wrap (by omega), i64_wrap (by omega), i64_wrap (by omega), by omega, by omega⟩
      have g := nth_mkE es q i _ hn
      rw [he] at g
      simp -implicitDefEqProofs only [mkC, D.mk, D.mn, Int.natCast_one] at g
      have i3 : (1 : Int) ≤ 3 := by omega
      simp -implicitDefEqProofs only [lp22_0, m1, m2, m3, w0, w1, w2, d3, t4, i3, mkE_length, g, hi, ilt hi, wi hi (Nat.le_trans hB (by simp [maxLen, big])), Int.natCast_nonneg, decide_eq_true_eq, go_sem, reduceIte, Nat.reduceAdd, Nat.reduceEqDiff, Nat.reduceMul, Nat.reduceLeDiff, Nat.reduceBEq, Nat.reduceBNe, Nat.reduceSub, Nat.reduceLT])
  simp -implicitDefEqProofs only [Int.natCast_zero, List.take_zero, mnE, Int.add_zero] at hl
  simp -implicitDefEqProofs only [hl, go_sem, reduceIte, Nat.reduceAdd, Nat.reduceEqDiff, Nat.reduceMul, Nat.reduceLeDiff, Nat.reduceBEq, Nat.reduceBNe, Nat.reduceSub, Nat.reduceLT]
theorem held_Edit_n (n : Nat) : ∀ (es : List (List D)), SizeOf.sizeOf es < n → es.length ≤ big → OkE big 3 es → ∀ (q : Int), 0 < q → q + mnE es ≤ 4611686018427387904 → lim T 22 [.val false [.d (.list 4 false (mkE es q))], .val false [.d (.int .i64 q)]] = some ([.val false [.d (.int .i64 (q + mnE es))]], []) := by
  induction n with
  | zero => intro es h; omega
  | succ n hi =>
    intro es hn hB ok q h0 h1
    refine held_EditS_s es hB ok (fun x hx => ?_) q h0 h1
    obtain ⟨e, he, hx⟩ := hx
    have hz := Nat.lt_of_lt_of_le (size_in2 hx he) (Nat.le_of_lt_succ hn)
    obtain ⟨x0, x1, x2, x3, rfl, _, b1, b2, ⟨b3, c3⟩⟩ := inv_Edit (ok.mem e he)
    simp -implicitDefEqProofs only [List.mem_cons, List.not_mem_nil, reduceCtorEq, false_or, or_false, D.list.injEq, Nat.reduceEqDiff, Bool.false_eq_true, Bool.true_eq_false, false_and, and_false, true_and] at hx
    subst hx
    exact hi _ hz b3 c3
theorem held_EditS (es : List (List D)) (hB : es.length ≤ big) (ok : OkE big 3 es) (q : Int) (h0 : 0 < q) (h1 : q + mnE es ≤ 4611686018427387904) : lim T 22 [.val false [.d (.list 4 false (mkE es q))], .val false [.d (.int .i64 q)]] = some ([.val false [.d (.int .i64 (q + mnE es))]], []) := held_Edit_n (SizeOf.sizeOf es + 1) es (by omega) hB ok q h0 h1
theorem held_ChangeS (es : List (List D)) (hB : es.length ≤ big) (ok : OkE big 4 es) (q : Int) (h0 : 0 < q) (h1 : q + mnE es ≤ 4611686018427387904) :
    lim T 23 [.val false [.d (.list 3 false (mkE es q))], .val false [.d (.int .i64 q)]] = some ([.val false [.d (.int .i64 (q + mnE es))]], []) := by
  rw [lim_fn (f := 23) rfl rfl]
  have hl := loop0 (T := T) (mf := mf0) (body := lp23_0) (fun i => ⟨[(0, .d (.list 3 false (mkE es q))), (1, .d (.int .i64 (q + mnE (es.take i)))), (5, .d (.int .i64 i))], [], []⟩) es.length (e := .exit 0) (by simp)
    (by simp -implicitDefEqProofs only [lp23_0, mkE_length, nlt, List.take_length, go_sem, reduceIte, Nat.reduceAdd, Nat.reduceEqDiff, Nat.reduceMul, Nat.reduceLeDiff, Nat.reduceBEq, Nat.reduceBNe, Nat.reduceSub, Nat.reduceLT]; rfl)
    (by
      intro i hi
      have hn := nth_lt hi
      have t1 := mnE_take_le es (i + 1)
      have t2 := mnE_take_succ hn
      obtain ⟨x0, x1, x2, he, _, _, ⟨b2, c2⟩⟩ := inv_Change (ok.nth_ hn)
      have t3 : mnC es[i] = 0 + 1 + 1 + mnE x2 := by rw [he]; simp -implicitDefEqProofs only [mnC, D.mn] <;> omega
      have m2 := held_EditS x2 b2 c2 (q + (mnE (es.take i) : Int) + 1 + 1) (by omega) (by omega)
      obtain ⟨w0, w1, d2, t4⟩ : (IntKind.i64.wrap (q + (mnE (es.take i) : Int) + 1) = q + (mnE (es.take i) : Int) + 1) ∧ (IntKind.i64.wrap (q + (mnE (es.take i) : Int) + 1 + 1) = q + (mnE (es.take i) : Int) + 1 + 1) ∧ (¬ (q + (mnE (es.take i) : Int) + 1 + 1 + (mnE x2 : Int) < 0)) ∧ (q + (mnE (es.take (i + 1)) : Int) = q + (mnE (es.take i) : Int) + 1 + 1 + (mnE x2 : Int)) := ⟨i64_wrap (by omega), i64_wrap (by omega), by omega, by omega⟩
      have g := nth_mkE es q i _ hn
      rw [he] at g
      simp -implicitDefEqProofs only [mkC, D.mk, D.mn, Int.natCast_one] at g
      have i3 : (1 : Int) ≤ 3 := by omega
      simp -implicitDefEqProofs only [lp23_0, m2, w0, w1, d2, t4, i3, mkE_length, g, hi, ilt hi, wi hi (Nat.le_trans hB (by simp [maxLen, big])), Int.natCast_nonneg, decide_eq_true_eq, go_sem, reduceIte, Nat.reduceAdd, Nat.reduceEqDiff, Nat.reduceMul, Nat.reduceLeDiff, Nat.reduceBEq, Nat.reduceBNe, Nat.reduceSub, Nat.reduceLT])
  simp -implicitDefEqProofs only [Int.natCast_zero, List.take_zero, mnE, Int.add_zero] at hl
  simp -implicitDefEqProofs only [hl, go_sem, reduceIte, Nat.reduceAdd, Nat.reduceEqDiff, Nat.reduceMul, Nat.reduceLeDiff, Nat.reduceBEq, Nat.reduceBNe, Nat.reduceSub, Nat.reduceLT]
theorem held_Journal (e : List D) (ok : OkC big (lay 5) e) (q : Int) (h0 : 0 < q) (h1 : q + mnA e ≤ 4611686018427387904) :
    lim T 24 [.val true ((mkA e q).map .d), .val false [.d (.int .i64 q)]] = some ([.val false [.d (.int .i64 (q + mnA e))]], []) := by
  obtain ⟨x0, x1, rfl, ⟨b0, c0⟩, ⟨b1, c1⟩⟩ := inv_Journal ok
  simp -implicitDefEqProofs only [mnA, D.mnA, Nat.zero_add, Nat.add_zero] at h1
  have m0 := held_NodeS x0 b0 c0 (q) (by omega) (by omega)
  have d0 : ¬ (q + (mnE x0 : Int) < 0) := by omega
  have m1 := held_ChangeS x1 b1 c1 (q + (mnE x0 : Int)) (by omega) (by omega)
  have d1 : ¬ (q + (mnE x0 : Int) + (mnE x1 : Int) < 0) := by omega
  have t : q + ((mnE x0 + (mnE x1) : Nat) : Int) = q + (mnE x0 : Int) + (mnE x1 : Int) := by omega
  simp -implicitDefEqProofs only [mkA, D.mkA, mnA, D.mnA, Nat.zero_add, Nat.add_zero, Int.natCast_zero, Int.add_zero, t, List.map_cons, List.map_nil]
  rw [lim_fn (f := 24) rfl rfl]
  simp -implicitDefEqProofs only [m0, d0, m1, d1, List.set_cons_zero, go_sem, reduceIte, Nat.reduceAdd, Nat.reduceEqDiff, Nat.reduceMul, Nat.reduceLeDiff, Nat.reduceBEq, Nat.reduceBNe, Nat.reduceSub, Nat.reduceLT]

end Go.Proofs.Ytmaigpiappmpcaa
