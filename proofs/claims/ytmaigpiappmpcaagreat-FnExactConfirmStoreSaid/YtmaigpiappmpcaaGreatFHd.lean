/-
  What the functions held.. answer for marked data: how far the marks go. Printed by a program of our own.
-/
import Derived.Test.YtmaigpiappmpcaaGreatFMk
namespace Go.Proofs.YtmaigpiappmpcaaGreat
open Go.RowKit
set_option maxRecDepth 100000
set_option maxHeartbeats 4000000
set_option linter.unusedSimpArgs false
set_option linter.unusedVariables false

theorem held_StringS (es : List (List D)) (hB : es.length ≤ big) (ok : OkE big 0 es) (q : Int) (h0 : 0 < q) (h1 : q + mnE es ≤ 4611686018427387904) :
    lim T 158 [.val false [.d (.list 1 true (mkE es q))], .val false [.d (.int .i64 q)]] = some ([.val false [.d (.int .i64 (q + mnE es))]], []) := by
  rw [lim_fn (f := 158) rfl rfl]
  have hl := loop0 (T := T) (mf := mf0) (body := lp158_0) (fun i => ⟨[(0, .d (.list 1 true (mkE es q))), (1, .d (.int .i64 (q + mnE (es.take i)))), (5, .d (.int .i64 i))], [], []⟩) es.length (e := .exit 0) (by simp)
    (by simp -implicitDefEqProofs only [lp158_0, mkE_length, nlt, List.take_length, go_sem, reduceIte, Nat.reduceAdd, Nat.reduceEqDiff, Nat.reduceMul, Nat.reduceLeDiff, Nat.reduceBEq, Nat.reduceBNe, Nat.reduceSub, Nat.reduceLT]; rfl)
    (by
      intro i hi
      have hn := nth_lt hi
      have t1 := mnE_take_le es (i + 1)
      have t2 := mnE_take_succ hn
      obtain ⟨x0, he, b0⟩ := inv_str (ok.nth_ hn)
      have t3 : mnC es[i] = 0 + 1 := by rw [he]; simp -implicitDefEqProofs only [mnC, D.mn] <;> omega
      have m0 := markText (q + (mnE (es.take i) : Int)) (by omega) (by omega)
      obtain ⟨w0, t4⟩ : (IntKind.i64.wrap (q + (mnE (es.take i) : Int) + 1) = q + (mnE (es.take i) : Int) + 1) ∧ (q + (mnE (es.take (i + 1)) : Int) = q + (mnE (es.take i) : Int) + 1) := ⟨i64_wrap (by omega), by omega⟩
      have g := nth_mkE es q i _ hn
      rw [he] at g
      simp -implicitDefEqProofs only [mkC, D.mk, D.mn, Int.natCast_one] at g
      have i3 : (1 : Int) ≤ 3 := by omega
      simp -implicitDefEqProofs only [lp158_0, m0, w0, t4, i3, mkE_length, g, hi, ilt hi, wi hi (Nat.le_trans hB (by simp [maxLen, big])), Int.natCast_nonneg, decide_eq_true_eq, go_sem, reduceIte, Nat.reduceAdd, Nat.reduceEqDiff, Nat.reduceMul, Nat.reduceLeDiff, Nat.reduceBEq, Nat.reduceBNe, Nat.reduceSub, Nat.reduceLT])
  simp -implicitDefEqProofs only [Int.natCast_zero, List.take_zero, mnE, Int.add_zero] at hl
  simp -implicitDefEqProofs only [hl, go_sem, reduceIte, Nat.reduceAdd, Nat.reduceEqDiff, Nat.reduceMul, Nat.reduceLeDiff, Nat.reduceBEq, Nat.reduceBNe, Nat.reduceSub, Nat.reduceLT]
theorem held_RangeS (es : List (List D)) (hB : es.length ≤ big) (ok : OkE big 6 es) (q : Int) (h0 : 0 < q) (h1 : q + mnE es ≤ 4611686018427387904) :
    lim T 157 [.val false [.d (.list 2 true (mkE es q))], .val false [.d (.int .i64 q)]] = some ([.val false [.d (.int .i64 (q + mnE es))]], []) := by
  rw [lim_fn (f := 157) rfl rfl]
  have hl := loop0 (T := T) (mf := mf0) (body := lp157_0) (fun i => ⟨[(0, .d (.list 2 true (mkE es q))), (1, .d (.int .i64 (q + mnE (es.take i)))), (5, .d (.int .i64 i))], [], []⟩) es.length (e := .exit 0) (by simp)
    (by simp -implicitDefEqProofs only [lp157_0, mkE_length, nlt, List.take_length, go_sem, reduceIte, Nat.reduceAdd, Nat.reduceEqDiff, Nat.reduceMul, Nat.reduceLeDiff, Nat.reduceBEq, Nat.reduceBNe, Nat.reduceSub, Nat.reduceLT]; rfl)
    (by
      intro i hi
      have hn := nth_lt hi
      have t1 := mnE_take_le es (i + 1)
      have t2 := mnE_take_succ hn
      obtain ⟨x0, x1, he, _, _⟩ := inv_Range (ok.nth_ hn)
      have t3 : mnC es[i] = 0 + 1 + 1 := by rw [he]; simp -implicitDefEqProofs only [mnC, D.mn] <;> omega
      obtain ⟨w0, w1, t4⟩ : (IntKind.i64.wrap (q + (mnE (es.take i) : Int) + 1) = q + (mnE (es.take i) : Int) + 1) ∧ (IntKind.i64.wrap (q + (mnE (es.take i) : Int) + 1 + 1) = q + (mnE (es.take i) : Int) + 1 + 1) ∧ (q + (mnE (es.take (i + 1)) : Int) = q + (mnE (es.take i) : Int) + 1 + 1) := ⟨i64_wrap (by omega), i64_wrap (by omega), by omega⟩
      have g := nth_mkE es q i _ hn
      rw [he] at g
      simp -implicitDefEqProofs only [mkC, D.mk, D.mn, Int.natCast_one] at g
      have i3 : (1 : Int) ≤ 3 := by omega
      simp -implicitDefEqProofs only [lp157_0, w0, w1, t4, i3, mkE_length, g, hi, ilt hi, wi hi (Nat.le_trans hB (by simp [maxLen, big])), Int.natCast_nonneg, decide_eq_true_eq, go_sem, reduceIte, Nat.reduceAdd, Nat.reduceEqDiff, Nat.reduceMul, Nat.reduceLeDiff, Nat.reduceBEq, Nat.reduceBNe, Nat.reduceSub, Nat.reduceLT])
  simp -implicitDefEqProofs only [Int.natCast_zero, List.take_zero, mnE, Int.add_zero] at hl
  simp -implicitDefEqProofs only [hl, go_sem, reduceIte, Nat.reduceAdd, Nat.reduceEqDiff, Nat.reduceMul, Nat.reduceLeDiff, Nat.reduceBEq, Nat.reduceBNe, Nat.reduceSub, Nat.reduceLT]
theorem held_TestS (es : List (List D)) (hB : es.length ≤ big) (ok : OkE big 8 es) (q : Int) (h0 : 0 < q) (h1 : q + mnE es ≤ 4611686018427387904) :
    lim T 159 [.val false [.d (.list 2 true (mkE es q))], .val false [.d (.int .i64 q)]] = some ([.val false [.d (.int .i64 (q + mnE es))]], []) := by
  rw [lim_fn (f := 159) rfl rfl]
  have hl := loop0 (T := T) (mf := mf0) (body := lp159_0) (fun i => ⟨[(0, .d (.list 2 true (mkE es q))), (1, .d (.int .i64 (q + mnE (es.take i)))), (5, .d (.int .i64 i))], [], []⟩) es.length (e := .exit 0) (by simp)
    (by simp -implicitDefEqProofs only [lp159_0, mkE_length, nlt, List.take_length, go_sem, reduceIte, Nat.reduceAdd, Nat.reduceEqDiff, Nat.reduceMul, Nat.reduceLeDiff, Nat.reduceBEq, Nat.reduceBNe, Nat.reduceSub, Nat.reduceLT]; rfl)
    (by
      intro i hi
      have hn := nth_lt hi
      have t1 := mnE_take_le es (i + 1)
      have t2 := mnE_take_succ hn
      obtain ⟨x0, x1, he, b0, b1⟩ := inv_Test (ok.nth_ hn)
      have t3 : mnC es[i] = 0 + 1 + 1 := by rw [he]; simp -implicitDefEqProofs only [mnC, D.mn] <;> omega
      have m0 := markText (q + (mnE (es.take i) : Int)) (by omega) (by omega)
      have m1 := markText (q + (mnE (es.take i) : Int) + 1) (by omega) (by omega)
      obtain ⟨w0, w1, t4⟩ : (IntKind.i64.wrap (q + (mnE (es.take i) : Int) + 1) = q + (mnE (es.take i) : Int) + 1) ∧ (IntKind.i64.wrap (q + (mnE (es.take i) : Int) + 1 + 1) = q + (mnE (es.take i) : Int) + 1 + 1) ∧ (q + (mnE (es.take (i + 1)) : Int) = q + (mnE (es.take i) : Int) + 1 + 1) := ⟨i64_wrap (by omega), i64_wrap (by omega), by omega⟩
      have g := nth_mkE es q i _ hn
      rw [he] at g
      simp -implicitDefEqProofs only [mkC, D.mk, D.mn, Int.natCast_one] at g
      have i3 : (1 : Int) ≤ 3 := by omega
      simp -implicitDefEqProofs only [lp159_0, m0, m1, w0, w1, t4, i3, mkE_length, g, hi, ilt hi, wi hi (Nat.le_trans hB (by simp [maxLen, big])), Int.natCast_nonneg, decide_eq_true_eq, go_sem, reduceIte, Nat.reduceAdd, Nat.reduceEqDiff, Nat.reduceMul, Nat.reduceLeDiff, Nat.reduceBEq, Nat.reduceBNe, Nat.reduceSub, Nat.reduceLT])
  simp -implicitDefEqProofs only [Int.natCast_zero, List.take_zero, mnE, Int.add_zero] at hl
  simp -implicitDefEqProofs only [hl, go_sem, reduceIte, Nat.reduceAdd, Nat.reduceEqDiff, Nat.reduceMul, Nat.reduceLeDiff, Nat.reduceBEq, Nat.reduceBNe, Nat.reduceSub, Nat.reduceLT]
theorem held_StepS (es : List (List D)) (hB : es.length ≤ big) (ok : OkE big 9 es) (q : Int) (h0 : 0 < q) (h1 : q + mnE es ≤ 4611686018427387904) :
    lim T 160 [.val false [.d (.list 2 false (mkE es q))], .val false [.d (.int .i64 q)]] = some ([.val false [.d (.int .i64 (q + mnE es))]], []) := by
  rw [lim_fn (f := 160) rfl rfl]
  have hl := loop0 (T := T) (mf := mf0) (body := lp160_0) (fun i => ⟨[(0, .d (.list 2 false (mkE es q))), (1, .d (.int .i64 (q + mnE (es.take i)))), (5, .d (.int .i64 i))], [], []⟩) es.length (e := .exit 0) (by simp)
    (by simp -implicitDefEqProofs only [lp160_0, mkE_length, nlt, List.take_length, go_sem, reduceIte, Nat.reduceAdd, Nat.reduceEqDiff, Nat.reduceMul, Nat.reduceLeDiff, Nat.reduceBEq, Nat.reduceBNe, Nat.reduceSub, Nat.reduceLT]; rfl)
    (by
      intro i hi
      have hn := nth_lt hi
      have t1 := mnE_take_le es (i + 1)
      have t2 := mnE_take_succ hn
      obtain ⟨x0, x1, he, b0, ⟨b1, c1⟩⟩ := inv_Step (ok.nth_ hn)
      have t3 : mnC es[i] = 0 + 1 + mnE x1 := by rw [he]; simp -implicitDefEqProofs only [mnC, D.mn] <;> omega
      have m0 := markText (q + (mnE (es.take i) : Int)) (by omega) (by omega)
      have m1 := held_TestS x1 b1 c1 (q + (mnE (es.take i) : Int) + 1) (by omega) (by omega)
      obtain ⟨w0, d1, t4⟩ : (IntKind.i64.wrap (q + (mnE (es.take i) : Int) + 1) = q + (mnE (es.take i) : Int) + 1) ∧ (¬ (q + (mnE (es.take i) : Int) + 1 + (mnE x1 : Int) < 0)) ∧ (q + (mnE (es.take (i + 1)) : Int) = q + (mnE (es.take i) : Int) + 1 + (mnE x1 : Int)) := ⟨i64_wrap (by omega), by omega, by omega⟩
      have g := nth_mkE es q i _ hn
      rw [he] at g
      simp -implicitDefEqProofs only [mkC, D.mk, D.mn, Int.natCast_one] at g
      have i3 : (1 : Int) ≤ 3 := by omega
      simp -implicitDefEqProofs only [lp160_0, m0, m1, w0, d1, t4, i3, mkE_length, g, hi, ilt hi, wi hi (Nat.le_trans hB (by simp [maxLen, big])), Int.natCast_nonneg, decide_eq_true_eq, go_sem, reduceIte, Nat.reduceAdd, Nat.reduceEqDiff, Nat.reduceMul, Nat.reduceLeDiff, Nat.reduceBEq, Nat.reduceBNe, Nat.reduceSub, Nat.reduceLT])
  simp -implicitDefEqProofs only [Int.natCast_zero, List.take_zero, mnE, Int.add_zero] at hl
  simp -implicitDefEqProofs only [hl, go_sem, reduceIte, Nat.reduceAdd, Nat.reduceEqDiff, Nat.reduceMul, Nat.reduceLeDiff, Nat.reduceBEq, Nat.reduceBNe, Nat.reduceSub, Nat.reduceLT]
theorem held_ExprS_s (es : List (List D)) (hB : es.length ≤ big) (ok : OkE big 11 es) (h : ∀ x, (∃ e ∈ es, D.list 7 false x ∈ e) → ∀ (q : Int), 0 < q → q + mnE x ≤ 4611686018427387904 → lim T 161 [.val false [.d (.list 7 false (mkE x q))], .val false [.d (.int .i64 q)]] = some ([.val false [.d (.int .i64 (q + mnE x))]], [])) (q : Int) (h0 : 0 < q) (h1 : q + mnE es ≤ 4611686018427387904) :
    lim T 161 [.val false [.d (.list 7 false (mkE es q))], .val false [.d (.int .i64 q)]] = some ([.val false [.d (.int .i64 (q + mnE es))]], []) := by
  rw [lim_fn (f := 161) rfl rfl]
  have hl := loop0 (T := T) (mf := mf0) (body := lp161_0) (fun i => ⟨[(0, .d (.list 7 false (mkE es q))), (1, .d (.int .i64 (q + mnE (es.take i)))), (5, .d (.int .i64 i))], [], []⟩) es.length (e := .exit 0) (by simp)
    (by simp -implicitDefEqProofs only [lp161_0, mkE_length, nlt, List.take_length, go_sem, reduceIte, Nat.reduceAdd, Nat.reduceEqDiff, Nat.reduceMul, Nat.reduceLeDiff, Nat.reduceBEq, Nat.reduceBNe, Nat.reduceSub, Nat.reduceLT]; rfl)
    (by
      intro i hi
      have hn := nth_lt hi
      have t1 := mnE_take_le es (i + 1)
      have t2 := mnE_take_succ hn
      obtain ⟨x0, x1, x2, x3, x4, x5, x6, he, _, _, b2, _, _, ⟨b5, c5⟩, ⟨b6, c6⟩⟩ := inv_Expr (ok.nth_ hn)
      have t3 : mnC es[i] = 0 + 1 + 1 + 1 + 1 + 1 + mnE x5 + mnE x6 := by rw [he]; simp -implicitDefEqProofs only [mnC, D.mn] <;> omega
      have m2 := markText (q + (mnE (es.take i) : Int) + 1 + 1) (by omega) (by omega)
      have m5 := held_StepS x5 b5 c5 (q + (mnE (es.take i) : Int) + 1 + 1 + 1 + 1 + 1) (by omega) (by omega)
      have m6 := h x6 ⟨_, nth_mem hn, by rw [he]; simp -implicitDefEqProofs only [List.mem_cons, true_or, or_true]⟩ (q + (mnE (es.take i) : Int) + 1 + 1 + 1 + 1 + 1 + (mnE x5 : Int)) (by omega) (by omega)
      obtain ⟨w0, w1, w2, m3, w3, w4, d5, d6, t4⟩ : (IntKind.i64.wrap (q + (mnE (es.take i) : Int) + 1) = q + (mnE (es.take i) : Int) + 1) ∧ (IntKind.i64.wrap (q + (mnE (es.take i) : Int) + 1 + 1) = q + (mnE (es.take i) : Int) + 1 + 1) ∧ (IntKind.i64.wrap (q + (mnE (es.take i) : Int) + 1 + 1 + 1) = q + (mnE (es.take i) : Int) + 1 + 1 + 1) ∧ ((0 : Int) ≤ q + (mnE (es.take i) : Int) + 1 + 1 + 1) ∧ (IntKind.i64.wrap (q + (mnE (es.take i) : Int) + 1 + 1 + 1 + 1) = q + (mnE (es.take i) : Int) + 1 + 1 + 1 + 1) ∧ (IntKind.i64.wrap (q + (mnE (es.take i) : Int) + 1 + 1 + 1 + 1 + 1) = q + (mnE (es.take i) : Int) + 1 + 1 + 1 + 1 + 1) ∧ (¬ (q + (mnE (es.take i) : Int) + 1 + 1 + 1 + 1 + 1 + (mnE x5 : Int) < 0)) ∧ (¬ (q + (mnE (es.take i) : Int) + 1 + 1 + 1 + 1 + 1 + (mnE x5 : Int) + (mnE x6 : Int) < 0)) ∧ (q + (mnE (es.take (i + 1)) : Int) = q + (mnE (es.take i) : Int) + 1 + 1 + 1 + 1 + 1 + (mnE x5 : Int) + (mnE x6 : Int)) := ⟨i64_wrap (by omega), i64_wrap (by omega), i64_wrap (by omega), by omega, i64_wrap (by omega), i64_wrap (by omega), by omega, by omega, by omega⟩
      have g := nth_mkE es q i _ hn
      rw [he] at g
      simp -implicitDefEqProofs only [mkC, D.mk, D.mn, Int.natCast_one] at g
      have i3 : (1 : Int) ≤ 3 := by omega
      simp -implicitDefEqProofs only [lp161_0, m2, m5, m6, w0, w1, w2, m3, w3, w4, d5, d6, t4, i3, mkE_length, g, hi, ilt hi, wi hi (Nat.le_trans hB (by simp [maxLen, big])), Int.natCast_nonneg, decide_eq_true_eq, go_sem, reduceIte, Nat.reduceAdd, Nat.reduceEqDiff, Nat.reduceMul, Nat.reduceLeDiff, Nat.reduceBEq, Nat.reduceBNe, Nat.reduceSub, Nat.reduceLT])
  simp -implicitDefEqProofs only [Int.natCast_zero, List.take_zero, mnE, Int.add_zero] at hl
  simp -implicitDefEqProofs only [hl, go_sem, reduceIte, Nat.reduceAdd, Nat.reduceEqDiff, Nat.reduceMul, Nat.reduceLeDiff, Nat.reduceBEq, Nat.reduceBNe, Nat.reduceSub, Nat.reduceLT]
theorem held_Expr_n (n : Nat) : ∀ (es : List (List D)), SizeOf.sizeOf es < n → es.length ≤ big → OkE big 11 es → ∀ (q : Int), 0 < q → q + mnE es ≤ 4611686018427387904 → lim T 161 [.val false [.d (.list 7 false (mkE es q))], .val false [.d (.int .i64 q)]] = some ([.val false [.d (.int .i64 (q + mnE es))]], []) := by
  induction n with
  | zero => intro es h; omega
  | succ n hi =>
    intro es hn hB ok q h0 h1
    refine held_ExprS_s es hB ok (fun x hx => ?_) q h0 h1
    obtain ⟨e, he, hx⟩ := hx
    have hz := Nat.lt_of_lt_of_le (size_in2 hx he) (Nat.le_of_lt_succ hn)
    obtain ⟨x0, x1, x2, x3, x4, x5, x6, rfl, _, _, b2, _, _, ⟨b5, c5⟩, ⟨b6, c6⟩⟩ := inv_Expr (ok.mem e he)
    simp -implicitDefEqProofs only [List.mem_cons, List.not_mem_nil, reduceCtorEq, false_or, or_false, D.list.injEq, Nat.reduceEqDiff, Bool.false_eq_true, Bool.true_eq_false, false_and, and_false, true_and] at hx
    subst hx
    exact hi _ hz b6 c6
theorem held_ExprS (es : List (List D)) (hB : es.length ≤ big) (ok : OkE big 11 es) (q : Int) (h0 : 0 < q) (h1 : q + mnE es ≤ 4611686018427387904) : lim T 161 [.val false [.d (.list 7 false (mkE es q))], .val false [.d (.int .i64 q)]] = some ([.val false [.d (.int .i64 (q + mnE es))]], []) := held_Expr_n (SizeOf.sizeOf es + 1) es (by omega) hB ok q h0 h1
theorem held_SchemaS_s (es : List (List D)) (hB : es.length ≤ big) (ok : OkE big 12 es) (h : ∀ x, (∃ e ∈ es, D.list 19 false x ∈ e) → ∀ (q : Int), 0 < q → q + mnE x ≤ 4611686018427387904 → lim T 162 [.val false [.d (.list 19 false (mkE x q))], .val false [.d (.int .i64 q)]] = some ([.val false [.d (.int .i64 (q + mnE x))]], [])) (q : Int) (h0 : 0 < q) (h1 : q + mnE es ≤ 4611686018427387904) :
    lim T 162 [.val false [.d (.list 19 false (mkE es q))], .val false [.d (.int .i64 q)]] = some ([.val false [.d (.int .i64 (q + mnE es))]], []) := by
  rw [lim_fn (f := 162) rfl rfl]
  have hl := loop0 (T := T) (mf := mf0) (body := lp162_0) (fun i => ⟨[(0, .d (.list 19 false (mkE es q))), (1, .d (.int .i64 (q + mnE (es.take i)))), (5, .d (.int .i64 i))], [], []⟩) es.length (e := .exit 0) (by simp)
    (by simp -implicitDefEqProofs only [lp162_0, mkE_length, nlt, List.take_length, go_sem, reduceIte, Nat.reduceAdd, Nat.reduceEqDiff, Nat.reduceMul, Nat.reduceLeDiff, Nat.reduceBEq, Nat.reduceBNe, Nat.reduceSub, Nat.reduceLT]; rfl)
    (by
      intro i hi
      have hn := nth_lt hi
      have t1 := mnE_take_le es (i + 1)
      have t2 := mnE_take_succ hn
      obtain ⟨x0, x1, x2, x3, x4, x5, x6, x7, x8, x9, x10, x11, x12, x13, x14, x15, x16, x17, x18, he, _, b1, _, ⟨b3, c3⟩, ⟨b4, c4⟩, b5, b6, ⟨b7, c7⟩, ⟨b8, c8⟩, b9, _, _, _, _, _, _, ⟨b16, c16⟩, ⟨b17, c17⟩, ⟨b18, c18⟩⟩ := inv_Schema (ok.nth_ hn)
      have t3 : mnC es[i] = 0 + 1 + 1 + 1 + mnE x3 + mnE x4 + 1 + 1 + mnE x7 + mnE x8 + 1 + 1 + 1 + 1 + 1 + 1 + 1 + mnE x16 + mnE x17 + mnE x18 := by rw [he]; simp -implicitDefEqProofs only [mnC, D.mn] <;> omega
      have m1 := markText (q + (mnE (es.take i) : Int) + 1) (by omega) (by omega)
      have m3 := held_RangeS x3 b3 c3 (q + (mnE (es.take i) : Int) + 1 + 1 + 1) (by omega) (by omega)
      have m4 := held_StringS x4 b4 c4 (q + (mnE (es.take i) : Int) + 1 + 1 + 1 + (mnE x3 : Int)) (by omega) (by omega)
      have m5 := markText (q + (mnE (es.take i) : Int) + 1 + 1 + 1 + (mnE x3 : Int) + (mnE x4 : Int)) (by omega) (by omega)
      have m6 := markText (q + (mnE (es.take i) : Int) + 1 + 1 + 1 + (mnE x3 : Int) + (mnE x4 : Int) + 1) (by omega) (by omega)
      have m7 := held_StringS x7 b7 c7 (q + (mnE (es.take i) : Int) + 1 + 1 + 1 + (mnE x3 : Int) + (mnE x4 : Int) + 1 + 1) (by omega) (by omega)
      have m8 := held_StringS x8 b8 c8 (q + (mnE (es.take i) : Int) + 1 + 1 + 1 + (mnE x3 : Int) + (mnE x4 : Int) + 1 + 1 + (mnE x7 : Int)) (by omega) (by omega)
      have m9 := markText (q + (mnE (es.take i) : Int) + 1 + 1 + 1 + (mnE x3 : Int) + (mnE x4 : Int) + 1 + 1 + (mnE x7 : Int) + (mnE x8 : Int)) (by omega) (by omega)
      have m16 := held_ExprS x16 b16 c16 (q + (mnE (es.take i) : Int) + 1 + 1 + 1 + (mnE x3 : Int) + (mnE x4 : Int) + 1 + 1 + (mnE x7 : Int) + (mnE x8 : Int) + 1 + 1 + 1 + 1 + 1 + 1 + 1) (by omega) (by omega)
      have m17 := held_ExprS x17 b17 c17 (q + (mnE (es.take i) : Int) + 1 + 1 + 1 + (mnE x3 : Int) + (mnE x4 : Int) + 1 + 1 + (mnE x7 : Int) + (mnE x8 : Int) + 1 + 1 + 1 + 1 + 1 + 1 + 1 + (mnE x16 : Int)) (by omega) (by omega)
      have m18 := h x18 ⟨_, nth_mem hn, by rw [he]; simp -implicitDefEqProofs only [List.mem_cons, true_or, or_true]⟩ (q + (mnE (es.take i) : Int) + 1 + 1 + 1 + (mnE x3 : Int) + (mnE x4 : Int) + 1 + 1 + (mnE x7 : Int) + (mnE x8 : Int) + 1 + 1 + 1 + 1 + 1 + 1 + 1 + (mnE x16 : Int) + (mnE x17 : Int)) (by omega) (by omega)
      obtain ⟨w0, w1, w2, d3, d4, w5, w6, d7, d8, w9, m10, w10, m11, w11, m12, w12, m13, w13, w14, w15, d16, d17, d18, t4⟩ : (IntKind.i64.wrap (q + (mnE (es.take i) : Int) + 1) = q + (mnE (es.take i) : Int) + 1) ∧ (IntKind.i64.wrap (q + (mnE (es.take i) : Int) + 1 + 1) = q + (mnE (es.take i) : Int) + 1 + 1) ∧ (IntKind.i64.wrap (q + (mnE (es.take i) : Int) + 1 + 1 + 1) = q + (mnE (es.take i) : Int) + 1 + 1 + 1) ∧ (¬ (q + (mnE (es.take i) : Int) + 1 + 1 + 1 + (mnE x3 : Int) < 0)) ∧ (¬ (q + (mnE (es.take i) : Int) + 1 + 1 + 1 + (mnE x3 : Int) + (mnE x4 : Int) < 0)) ∧ (IntKind.i64.wrap (q + (mnE (es.take i) : Int) + 1 + 1 + 1 + (mnE x3 : Int) + (mnE x4 : Int) + 1) = q + (mnE (es.take i) : Int) + 1 + 1 + 1 + (mnE x3 : Int) + (mnE x4 : Int) + 1) ∧ (IntKind.i64.wrap (q + (mnE (es.take i) : Int) + 1 + 1 + 1 + (mnE x3 : Int) + (mnE x4 : Int) + 1 + 1) = q + (mnE (es.take i) : Int) + 1 + 1 + 1 + (mnE x3 : Int) + (mnE x4 : Int) + 1 + 1) ∧ (¬ (q + (mnE (es.take i) : Int) + 1 + 1 + 1 + (mnE x3 : Int) + (mnE x4 : Int) + 1 + 1 + (mnE x7 : Int) < 0)) ∧ (¬ (q + (mnE (es.take i) : Int) + 1 + 1 + 1 + (mnE x3 : Int) + (mnE x4 : Int) + 1 + 1 + (mnE x7 : Int) + (mnE x8 : Int) < 0)) ∧ (IntKind.i64.wrap (q + (mnE (es.take i) : Int) + 1 + 1 + 1 + (mnE x3 : Int) + (mnE x4 : Int) + 1 + 1 + (mnE x7 : Int) + (mnE x8 : Int) + 1) = q + (mnE (es.take i) : Int) + 1 + 1 + 1 + (mnE x3 : Int) + (mnE x4 : Int) + 1 + 1 + (mnE x7 : Int) + (mnE x8 : Int) + 1) ∧ ((0 : Int) ≤ q + (mnE (es.take i) : Int) + 1 + 1 + 1 + (mnE x3 : Int) + (mnE x4 : Int) + 1 + 1 + (mnE x7 : Int) + (mnE x8 : Int) + 1) ∧ (IntKind.i64.wrap (q + (mnE (es.take i) : Int) + 1 + 1 + 1 + (mnE x3 : Int) + (mnE x4 : Int) + 1 + 1 + (mnE x7 : Int) + (mnE x8 : Int) + 1 + 1) = q + (mnE (es.take i) : Int) + 1 + 1 + 1 + (mnE x3 : Int) + (mnE x4 : Int) + 1 + 1 + (mnE x7 : Int) + (mnE x8 : Int) + 1 + 1) ∧ ((0 : Int) ≤ q + (mnE (es.take i) : Int) + 1 + 1 + 1 + (mnE x3 : Int) + (mnE x4 : Int) + 1 + 1 + (mnE x7 : Int) + (mnE x8 : Int) + 1 + 1) ∧ (IntKind.i64.wrap (q + (mnE (es.take i) : Int) + 1 + 1 + 1 + (mnE x3 : Int) + (mnE x4 : Int) + 1 + 1 + (mnE x7 : Int) + (mnE x8 : Int) + 1 + 1 + 1) = q + (mnE (es.take i) : Int) + 1 + 1 + 1 + (mnE x3 : Int) + (mnE x4 : Int) + 1 + 1 + (mnE x7 : Int) + (mnE x8 : Int) + 1 + 1 + 1) ∧ ((0 : Int) ≤ q + (mnE (es.take i) : Int) + 1 + 1 + 1 + (mnE x3 : Int) + (mnE x4 : Int) + 1 + 1 + (mnE x7 : Int) + (mnE x8 : Int) + 1 + 1 + 1) ∧ (IntKind.i64.wrap (q + (mnE (es.take i) : Int) + 1 + 1 + 1 + (mnE x3 : Int) + (mnE x4 : Int) + 1 + 1 + (mnE x7 : Int) + (mnE x8 : Int) + 1 + 1 + 1 + 1) = q + (mnE (es.take i) : Int) + 1 + 1 + 1 + (mnE x3 : Int) + (mnE x4 : Int) + 1 + 1 + (mnE x7 : Int) + (mnE x8 : Int) + 1 + 1 + 1 + 1) ∧ ((0 : Int) ≤ q + (mnE (es.take i) : Int) + 1 + 1 + 1 + (mnE x3 : Int) + (mnE x4 : Int) + 1 + 1 + (mnE x7 : Int) + (mnE x8 : Int) + 1 + 1 + 1 + 1) ∧ (IntKind.i64.wrap (q + (mnE (es.take i) : Int) + 1 + 1 + 1 + (mnE x3 : Int) + (mnE x4 : Int) + 1 + 1 + (mnE x7 : Int) + (mnE x8 : Int) + 1 + 1 + 1 + 1 + 1) = q + (mnE (es.take i) : Int) + 1 + 1 + 1 + (mnE x3 : Int) + (mnE x4 : Int) + 1 + 1 + (mnE x7 : Int) + (mnE x8 : Int) + 1 + 1 + 1 + 1 + 1) ∧ (IntKind.i64.wrap (q + (mnE (es.take i) : Int) + 1 + 1 + 1 + (mnE x3 : Int) + (mnE x4 : Int) + 1 + 1 + (mnE x7 : Int) + (mnE x8 : Int) + 1 + 1 + 1 + 1 + 1 + 1) = q + (mnE (es.take i) : Int) + 1 + 1 + 1 + (mnE x3 : Int) + (mnE x4 : Int) + 1 + 1 + (mnE x7 : Int) + (mnE x8 : Int) + 1 + 1 + 1 + 1 + 1 + 1) ∧ (IntKind.i64.wrap (q + (mnE (es.take i) : Int) + 1 + 1 + 1 + (mnE x3 : Int) + (mnE x4 : Int) + 1 + 1 + (mnE x7 : Int) + (mnE x8 : Int) + 1 + 1 + 1 + 1 + 1 + 1 + 1) = q + (mnE (es.take i) : Int) + 1 + 1 + 1 + (mnE x3 : Int) + (mnE x4 : Int) + 1 + 1 + (mnE x7 : Int) + (mnE x8 : Int) + 1 + 1 + 1 + 1 + 1 + 1 + 1) ∧ (¬ (q + (mnE (es.take i) : Int) + 1 + 1 + 1 + (mnE x3 : Int) + (mnE x4 : Int) + 1 + 1 + (mnE x7 : Int) + (mnE x8 : Int) + 1 + 1 + 1 + 1 + 1 + 1 + 1 + (mnE x16 : Int) < 0)) ∧ (¬ (q + (mnE (es.take i) : Int) + 1 + 1 + 1 + (mnE x3 : Int) + (mnE x4 : Int) + 1 + 1 + (mnE x7 : Int) + (mnE x8 : Int) + 1 + 1 + 1 + 1 + 1 + 1 + 1 + (mnE x16 : Int) + (mnE x17 : Int) < 0)) ∧ (¬ (q + (mnE (es.take i) : Int) + 1 + 1 + 1 + (mnE x3 : Int) + (mnE x4 : Int) + 1 + 1 + (mnE x7 : Int) + (mnE x8 : Int) + 1 + 1 + 1 + 1 + 1 + 1 + 1 + (mnE x16 : Int) + (mnE x17 : Int) + (mnE x18 : Int) < 0)) ∧ (q + (mnE (es.take (i + 1)) : Int) = q + (mnE (es.take i) : Int) + 1 + 1 + 1 + (mnE x3 : Int) + (mnE x4 : Int) + 1 + 1 + (mnE x7 : Int) + (mnE x8 : Int) + 1 + 1 + 1 + 1 + 1 + 1 + 1 + (mnE x16 : Int) + (mnE x17 : Int) + (mnE x18 : Int)) := ⟨i64_wrap (by omega), i64_wrap (by omega), i64_wrap (by omega), by omega, by omega, i64_wrap (by omega), i64_wrap (by omega), by omega, by omega, i64_wrap (by omega), by omega, i64_wrap (by omega), by omega, i64_wrap (by omega), by omega, i64_wrap (by omega), by omega, i64_wrap (by omega), i64_wrap (by omega), i64_wrap (by omega), by omega, by omega, by omega, by omega⟩
      have g := nth_mkE es q i _ hn
      rw [he] at g
      simp -implicitDefEqProofs only [mkC, D.mk, D.mn, Int.natCast_one] at g
      have i3 : (1 : Int) ≤ 3 := by omega
      simp -implicitDefEqProofs only [lp162_0, m1, m3, m4, m5, m6, m7, m8, m9, m16, m17, m18, w0, w1, w2, d3, d4, w5, w6, d7, d8, w9, m10, w10, m11, w11, m12, w12, m13, w13, w14, w15, d16, d17, d18, t4, i3, mkE_length, g, hi, ilt hi, wi hi (Nat.le_trans hB (by simp [maxLen, big])), Int.natCast_nonneg, decide_eq_true_eq, go_sem, reduceIte, Nat.reduceAdd, Nat.reduceEqDiff, Nat.reduceMul, Nat.reduceLeDiff, Nat.reduceBEq, Nat.reduceBNe, Nat.reduceSub, Nat.reduceLT])
  simp -implicitDefEqProofs only [Int.natCast_zero, List.take_zero, mnE, Int.add_zero] at hl
  simp -implicitDefEqProofs only [hl, go_sem, reduceIte, Nat.reduceAdd, Nat.reduceEqDiff, Nat.reduceMul, Nat.reduceLeDiff, Nat.reduceBEq, Nat.reduceBNe, Nat.reduceSub, Nat.reduceLT]
theorem held_Schema_n (n : Nat) : ∀ (es : List (List D)), SizeOf.sizeOf es < n → es.length ≤ big → OkE big 12 es → ∀ (q : Int), 0 < q → q + mnE es ≤ 4611686018427387904 → lim T 162 [.val false [.d (.list 19 false (mkE es q))], .val false [.d (.int .i64 q)]] = some ([.val false [.d (.int .i64 (q + mnE es))]], []) := by
  induction n with
  | zero => intro es h; omega
  | succ n hi =>
    intro es hn hB ok q h0 h1
    refine held_SchemaS_s es hB ok (fun x hx => ?_) q h0 h1
    obtain ⟨e, he, hx⟩ := hx
    have hz := Nat.lt_of_lt_of_le (size_in2 hx he) (Nat.le_of_lt_succ hn)
    obtain ⟨x0, x1, x2, x3, x4, x5, x6, x7, x8, x9, x10, x11, x12, x13, x14, x15, x16, x17, x18, rfl, _, b1, _, ⟨b3, c3⟩, ⟨b4, c4⟩, b5, b6, ⟨b7, c7⟩, ⟨b8, c8⟩, b9, _, _, _, _, _, _, ⟨b16, c16⟩, ⟨b17, c17⟩, ⟨b18, c18⟩⟩ := inv_Schema (ok.mem e he)
    simp -implicitDefEqProofs only [List.mem_cons, List.not_mem_nil, reduceCtorEq, false_or, or_false, D.list.injEq, Nat.reduceEqDiff, Bool.false_eq_true, Bool.true_eq_false, false_and, and_false, true_and] at hx
    subst hx
    exact hi _ hz b18 c18
theorem held_SchemaS (es : List (List D)) (hB : es.length ≤ big) (ok : OkE big 12 es) (q : Int) (h0 : 0 < q) (h1 : q + mnE es ≤ 4611686018427387904) : lim T 162 [.val false [.d (.list 19 false (mkE es q))], .val false [.d (.int .i64 q)]] = some ([.val false [.d (.int .i64 (q + mnE es))]], []) := held_Schema_n (SizeOf.sizeOf es + 1) es (by omega) hB ok q h0 h1
theorem held_NodeS_s (es : List (List D)) (hB : es.length ≤ big) (ok : OkE big 2 es) (h : ∀ x, (∃ e ∈ es, D.list 3 false x ∈ e) → ∀ (q : Int), 0 < q → q + mnE x ≤ 4611686018427387904 → lim T 21 [.val false [.d (.list 3 false (mkE x q))], .val false [.d (.int .i64 q)]] = some ([.val false [.d (.int .i64 (q + mnE x))]], [])) (q : Int) (h0 : 0 < q) (h1 : q + mnE es ≤ 4611686018427387904) :
    lim T 21 [.val false [.d (.list 3 false (mkE es q))], .val false [.d (.int .i64 q)]] = some ([.val false [.d (.int .i64 (q + mnE es))]], []) := by
  rw [lim_fn (f := 21) rfl rfl]
  have hl := loop0 (T := T) (mf := mf0) (body := lp21_0) (fun i => ⟨[(0, .d (.list 3 false (mkE es q))), (1, .d (.int .i64 (q + mnE (es.take i)))), (5, .d (.int .i64 i))], [], []⟩) es.length (e := .exit 0) (by simp)
    (by simp -implicitDefEqProofs only [lp21_0, mkE_length, nlt, List.take_length, go_sem, reduceIte, Nat.reduceAdd, Nat.reduceEqDiff, Nat.reduceMul, Nat.reduceLeDiff, Nat.reduceBEq, Nat.reduceBNe, Nat.reduceSub, Nat.reduceLT]; rfl)
    (by
      intro i hi
      have hn := nth_lt hi
      have t1 := mnE_take_le es (i + 1)
      have t2 := mnE_take_succ hn
      obtain ⟨x0, x1, x2, he, b0, b1, ⟨b2, c2⟩⟩ := inv_Node (ok.nth_ hn)
      have t3 : mnC es[i] = 0 + 1 + 1 + mnE x2 := by rw [he]; simp -implicitDefEqProofs only [mnC, D.mn] <;> omega
      have m0 := markText (q + (mnE (es.take i) : Int)) (by omega) (by omega)
      have m1 := markText (q + (mnE (es.take i) : Int) + 1) (by omega) (by omega)
      have m2 := h x2 ⟨_, nth_mem hn, by rw [he]; simp -implicitDefEqProofs only [List.mem_cons, true_or, or_true]⟩ (q + (mnE (es.take i) : Int) + 1 + 1) (by omega) (by omega)
      obtain ⟨w0, w1, d2, t4⟩ : (IntKind.i64.wrap (q + (mnE (es.take i) : Int) + 1) = q + (mnE (es.take i) : Int) + 1) ∧ (IntKind.i64.wrap (q + (mnE (es.take i) : Int) + 1 + 1) = q + (mnE (es.take i) : Int) + 1 + 1) ∧ (¬ (q + (mnE (es.take i) : Int) + 1 + 1 + (mnE x2 : Int) < 0)) ∧ (q + (mnE (es.take (i + 1)) : Int) = q + (mnE (es.take i) : Int) + 1 + 1 + (mnE x2 : Int)) := ⟨i64_wrap (by omega), i64_wrap (by omega), by omega, by omega⟩
      have g := nth_mkE es q i _ hn
      rw [he] at g
      simp -implicitDefEqProofs only [mkC, D.mk, D.mn, Int.natCast_one] at g
      have i3 : (1 : Int) ≤ 3 := by omega
      simp -implicitDefEqProofs only [lp21_0, m0, m1, m2, w0, w1, d2, t4, i3, mkE_length, g, hi, ilt hi, wi hi (Nat.le_trans hB (by simp [maxLen, big])), Int.natCast_nonneg, decide_eq_true_eq, go_sem, reduceIte, Nat.reduceAdd, Nat.reduceEqDiff, Nat.reduceMul, Nat.reduceLeDiff, Nat.reduceBEq, Nat.reduceBNe, Nat.reduceSub, Nat.reduceLT])
  simp -implicitDefEqProofs only [Int.natCast_zero, List.take_zero, mnE, Int.add_zero] at hl
  simp -implicitDefEqProofs only [hl, go_sem, reduceIte, Nat.reduceAdd, Nat.reduceEqDiff, Nat.reduceMul, Nat.reduceLeDiff, Nat.reduceBEq, Nat.reduceBNe, Nat.reduceSub, Nat.reduceLT]
theorem held_Node_n (n : Nat) : ∀ (es : List (List D)), SizeOf.sizeOf es < n → es.length ≤ big → OkE big 2 es → ∀ (q : Int), 0 < q → q + mnE es ≤ 4611686018427387904 → lim T 21 [.val false [.d (.list 3 false (mkE es q))], .val false [.d (.int .i64 q)]] = some ([.val false [.d (.int .i64 (q + mnE es))]], []) := by
  induction n with
  | zero => intro es h; omega
  | succ n hi =>
    intro es hn hB ok q h0 h1
    refine held_NodeS_s es hB ok (fun x hx => ?_) q h0 h1
    obtain ⟨e, he, hx⟩ := hx
    have hz := Nat.lt_of_lt_of_le (size_in2 hx he) (Nat.le_of_lt_succ hn)
    obtain ⟨x0, x1, x2, rfl, b0, b1, ⟨b2, c2⟩⟩ := inv_Node (ok.mem e he)
    simp -implicitDefEqProofs only [List.mem_cons, List.not_mem_nil, reduceCtorEq, false_or, or_false, D.list.injEq, Nat.reduceEqDiff, Bool.false_eq_true, Bool.true_eq_false, false_and, and_false, true_and] at hx
    subst hx
    exact hi _ hz b2 c2
theorem held_NodeS (es : List (List D)) (hB : es.length ≤ big) (ok : OkE big 2 es) (q : Int) (h0 : 0 < q) (h1 : q + mnE es ≤ 4611686018427387904) : lim T 21 [.val false [.d (.list 3 false (mkE es q))], .val false [.d (.int .i64 q)]] = some ([.val false [.d (.int .i64 (q + mnE es))]], []) := held_Node_n (SizeOf.sizeOf es + 1) es (by omega) hB ok q h0 h1
theorem held_VersionS (es : List (List D)) (hB : es.length ≤ big) (ok : OkE big 13 es) (q : Int) (h0 : 0 < q) (h1 : q + mnE es ≤ 4611686018427387904) :
    lim T 163 [.val false [.d (.list 3 false (mkE es q))], .val false [.d (.int .i64 q)]] = some ([.val false [.d (.int .i64 (q + mnE es))]], []) := by
  rw [lim_fn (f := 163) rfl rfl]
  have hl := loop0 (T := T) (mf := mf0) (body := lp163_0) (fun i => ⟨[(0, .d (.list 3 false (mkE es q))), (1, .d (.int .i64 (q + mnE (es.take i)))), (5, .d (.int .i64 i))], [], []⟩) es.length (e := .exit 0) (by simp)
    (by simp -implicitDefEqProofs only [lp163_0, mkE_length, nlt, List.take_length, go_sem, reduceIte, Nat.reduceAdd, Nat.reduceEqDiff, Nat.reduceMul, Nat.reduceLeDiff, Nat.reduceBEq, Nat.reduceBNe, Nat.reduceSub, Nat.reduceLT]; rfl)
    (by
      intro i hi
      have hn := nth_lt hi
      have t1 := mnE_take_le es (i + 1)
      have t2 := mnE_take_succ hn
      obtain ⟨x0, x1, x2, he, ⟨b0, c0⟩, _, _⟩ := inv_Version (ok.nth_ hn)
      have t3 : mnC es[i] = 0 + mnE x0 + 1 + 1 := by rw [he]; simp -implicitDefEqProofs only [mnC, D.mn] <;> omega
      have m0 := held_NodeS x0 b0 c0 (q + (mnE (es.take i) : Int)) (by omega) (by omega)
      obtain ⟨d0, w1, w2, t4⟩ : (¬ (q + (mnE (es.take i) : Int) + (mnE x0 : Int) < 0)) ∧ (IntKind.i64.wrap (q + (mnE (es.take i) : Int) + (mnE x0 : Int) + 1) = q + (mnE (es.take i) : Int) + (mnE x0 : Int) + 1) ∧ (IntKind.i64.wrap (q + (mnE (es.take i) : Int) + (mnE x0 : Int) + 1 + 1) = q + (mnE (es.take i) : Int) + (mnE x0 : Int) + 1 + 1) ∧ (q + (mnE (es.take (i + 1)) : Int) = q + (mnE (es.take i) : Int) + (mnE x0 : Int) + 1 + 1) := ⟨by omega, i64_wrap (by omega), i64_wrap (by omega), by omega⟩
      have g := nth_mkE es q i _ hn
      rw [he] at g
      simp -implicitDefEqProofs only [mkC, D.mk, D.mn, Int.natCast_one] at g
      have i3 : (1 : Int) ≤ 3 := by omega
      simp -implicitDefEqProofs only [lp163_0, m0, d0, w1, w2, t4, i3, mkE_length, g, hi, ilt hi, wi hi (Nat.le_trans hB (by simp [maxLen, big])), Int.natCast_nonneg, decide_eq_true_eq, go_sem, reduceIte, Nat.reduceAdd, Nat.reduceEqDiff, Nat.reduceMul, Nat.reduceLeDiff, Nat.reduceBEq, Nat.reduceBNe, Nat.reduceSub, Nat.reduceLT])
  simp -implicitDefEqProofs only [Int.natCast_zero, List.take_zero, mnE, Int.add_zero] at hl
  simp -implicitDefEqProofs only [hl, go_sem, reduceIte, Nat.reduceAdd, Nat.reduceEqDiff, Nat.reduceMul, Nat.reduceLeDiff, Nat.reduceBEq, Nat.reduceBNe, Nat.reduceSub, Nat.reduceLT]
theorem held_Pending (e : List D) (ok : OkC big (lay 14) e) (q : Int) (h0 : 0 < q) (h1 : q + mnA e ≤ 4611686018427387904) :
    lim T 164 [.val true ((mkA e q).map .d), .val false [.d (.int .i64 q)]] = some ([.val false [.d (.int .i64 (q + mnA e))]], []) := by
  obtain ⟨x0, x1, x2, x3, x4, rfl, _, _, _, b3, ⟨b4, c4⟩⟩ := inv_Pending ok
  simp -implicitDefEqProofs only [mnA, D.mnA, Nat.zero_add, Nat.add_zero] at h1
  have m4 := held_NodeS x4 b4 c4 (q) (by omega) (by omega)
  have d4 : ¬ (q + (mnE x4 : Int) < 0) := by omega
  have t : q + ((mnE x4 : Nat) : Int) = q + (mnE x4 : Int) := by omega
  simp -implicitDefEqProofs only [mkA, D.mkA, mnA, D.mnA, Nat.zero_add, Nat.add_zero, Int.natCast_zero, Int.add_zero, t, List.map_cons, List.map_nil]
  rw [lim_fn (f := 164) rfl rfl]
  simp -implicitDefEqProofs only [m4, d4, List.set_cons_zero, go_sem, reduceIte, Nat.reduceAdd, Nat.reduceEqDiff, Nat.reduceMul, Nat.reduceLeDiff, Nat.reduceBEq, Nat.reduceBNe, Nat.reduceSub, Nat.reduceLT]
theorem held_Store (e : List D) (ok : OkC big (lay 15) e) (q : Int) (h0 : 0 < q) (h1 : q + mnA e ≤ 4611686018427387904) :
    lim T 165 [.val true ((mkA e q).map .d), .val false [.d (.int .i64 q)]] = some ([.val false [.d (.int .i64 (q + mnA e))]], []) := by
  obtain ⟨x0, x1, x2, x3, x4, x5, x6, x7, x8, x9, rfl, ⟨b0, c0⟩, ⟨b1, c1⟩, ⟨b2, c2⟩, _, ⟨b4, c4⟩, _, _, _, b8, ⟨b9, c9⟩⟩ := inv_Store ok
  simp -implicitDefEqProofs only [mnA, D.mnA, Nat.zero_add, Nat.add_zero] at h1
  have m0 := held_SchemaS x0 b0 c0 (q) (by omega) (by omega)
  have d0 : ¬ (q + (mnE x0 : Int) < 0) := by omega
  have m1 := held_NodeS x1 b1 c1 (q + (mnE x0 : Int)) (by omega) (by omega)
  have d1 : ¬ (q + (mnE x0 : Int) + (mnE x1 : Int) < 0) := by omega
  have m2 := held_NodeS x2 b2 c2 (q + (mnE x0 : Int) + (mnE x1 : Int)) (by omega) (by omega)
  have d2 : ¬ (q + (mnE x0 : Int) + (mnE x1 : Int) + (mnE x2 : Int) < 0) := by omega
  have m4 := held_VersionS x4 b4 c4 (q + (mnE x0 : Int) + (mnE x1 : Int) + (mnE x2 : Int)) (by omega) (by omega)
  have d4 : ¬ (q + (mnE x0 : Int) + (mnE x1 : Int) + (mnE x2 : Int) + (mnE x4 : Int) < 0) := by omega
  have m5 := held_Pending _ (OkC.sub 5 5 ok) (q + (mnE x0 : Int) + (mnE x1 : Int) + (mnE x2 : Int) + (mnE x4 : Int)) (by omega) (by simp -implicitDefEqProofs only [List.drop_succ_cons, List.drop_zero, List.take_succ_cons, List.take_zero, mnA, D.mnA, Nat.zero_add, Nat.add_zero]; omega)
  simp -implicitDefEqProofs only [List.drop_succ_cons, List.drop_zero, List.take_succ_cons, List.take_zero, List.map_cons, List.map_nil, mkA, D.mkA, mnA, D.mnA, Nat.zero_add, Nat.add_zero, Int.natCast_zero, Int.add_zero] at m5
  have d5 : ¬ (q + (mnE x0 : Int) + (mnE x1 : Int) + (mnE x2 : Int) + (mnE x4 : Int) + (mnE x9 : Int) < 0) := by omega
  have t : q + ((mnE x0 + (mnE x1 + (mnE x2 + (mnE x4 + (mnE x9)))) : Nat) : Int) = q + (mnE x0 : Int) + (mnE x1 : Int) + (mnE x2 : Int) + (mnE x4 : Int) + (mnE x9 : Int) := by omega
  simp -implicitDefEqProofs only [mkA, D.mkA, mnA, D.mnA, Nat.zero_add, Nat.add_zero, Int.natCast_zero, Int.add_zero, t, List.map_cons, List.map_nil]
  rw [lim_fn (f := 165) rfl rfl]
  simp -implicitDefEqProofs only [m0, d0, m1, d1, m2, d2, m4, d4, m5, d5, List.set_cons_zero, go_sem, reduceIte, Nat.reduceAdd, Nat.reduceEqDiff, Nat.reduceMul, Nat.reduceLeDiff, Nat.reduceBEq, Nat.reduceBNe, Nat.reduceSub, Nat.reduceLT]

end Go.Proofs.YtmaigpiappmpcaaGreat
