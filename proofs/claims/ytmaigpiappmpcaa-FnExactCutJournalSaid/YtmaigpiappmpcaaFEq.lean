/-
  What the functions eq.. answer for equal data: true. Printed by a program of our own.
-/
import Derived.Test.YtmaigpiappmpcaaInv
import Derived.Test.YtmaigpiappmpcaaKP1T
namespace Go.Proofs.Ytmaigpiappmpcaa
open Go.RowKit
set_option maxRecDepth 100000
set_option maxHeartbeats 4000000
set_option linter.unusedSimpArgs false
set_option linter.unusedVariables false

theorem eq_Node_s (x0 : ByteArray) (x1 : ByteArray) (x2 : List (List D)) (ok : OkC big (lay 2) [.str x0, .str x1, .list 3 false x2]) (ih : lim T 10 [.val false [.d (.list 3 false x2)], .val false [.d (.list 3 false x2)]] = some ([.val false [.d (.bool true)]], [])) :
    lim T 9 [.val true ([.str x0, .str x1, .list 3 false x2].map .d), .val true ([.str x0, .str x1, .list 3 false x2].map .d)] = some ([.val false [.d (.bool true)]], []) := by
  obtain ⟨y0, y1, y2, e0, b0, b1, ⟨b2, c2⟩⟩ := inv_Node ok
  simp -implicitDefEqProofs only [List.cons.injEq, D.str.injEq, D.int.injEq, D.bool.injEq, D.list.injEq, true_and, and_true] at e0
  obtain ⟨rfl, rfl, rfl⟩ := e0
  rw [lim_fn (f := 9) rfl rfl]
  simp -implicitDefEqProofs only [ih, go_sem, reduceIte, Nat.reduceAdd, Nat.reduceEqDiff, Nat.reduceMul, Nat.reduceLeDiff, Nat.reduceBEq, Nat.reduceBNe, Nat.reduceSub, Nat.reduceLT]
theorem eq_NodeS_s (es : List (List D)) (hB : es.length ≤ big) (ok : OkE big 2 es) (h : ∀ e ∈ es, lim T 9 [.val true (e.map .d), .val true (e.map .d)] = some ([.val false [.d (.bool true)]], [])) :
    lim T 10 [.val false [.d (.list 3 false es)], .val false [.d (.list 3 false es)]] = some ([.val false [.d (.bool true)]], []) := by
  rw [lim_fn (f := 10) rfl rfl]
  have hl := loop0 (T := T) (mf := mf0) (body := lp10_0) (fun i => ⟨[(0, .d (.list 3 false es)), (1, .d (.list 3 false es)), (5, .d (.int .i64 i))], [], []⟩) es.length (e := .exit 0) (by simp)
    (by simp -implicitDefEqProofs only [lp10_0, nlt, go_sem, reduceIte, Nat.reduceAdd, Nat.reduceEqDiff, Nat.reduceMul, Nat.reduceLeDiff, Nat.reduceBEq, Nat.reduceBNe, Nat.reduceSub, Nat.reduceLT]; rfl)
    (by
      intro i hi
      have hn := nth_lt hi
      obtain ⟨x0, x1, x2, he, _⟩ := inv_Node (ok.nth_ hn)
      have hx := h _ (nth_mem hn)
      rw [he] at hn hx
      simp -implicitDefEqProofs only [List.map_cons, List.map_nil] at hx
      simp -implicitDefEqProofs only [lp10_0, hn, hx, hi, ilt hi, wi hi (Nat.le_trans hB (by simp [maxLen, big])), Int.natCast_nonneg, go_sem, reduceIte, Nat.reduceAdd, Nat.reduceEqDiff, Nat.reduceMul, Nat.reduceLeDiff, Nat.reduceBEq, Nat.reduceBNe, Nat.reduceSub, Nat.reduceLT])
  simp -implicitDefEqProofs only [Int.natCast_zero] at hl
  simp -implicitDefEqProofs only [hl, go_sem, reduceIte, Nat.reduceAdd, Nat.reduceEqDiff, Nat.reduceMul, Nat.reduceLeDiff, Nat.reduceBEq, Nat.reduceBNe, Nat.reduceSub, Nat.reduceLT]
theorem eq_Node_n (n : Nat) : ∀ (e : List D), SizeOf.sizeOf e < n → OkC big (lay 2) e → lim T 9 [.val true (e.map .d), .val true (e.map .d)] = some ([.val false [.d (.bool true)]], []) := by
  induction n with
  | zero => intro e h; omega
  | succ n hi =>
    intro e hn ok
    obtain ⟨x0, x1, x2, he, b0, b1, ⟨b2, c2⟩⟩ := inv_Node ok
    rw [he] at hn ok ⊢
    refine eq_Node_s x0 x1 x2 ok (eq_NodeS_s x2 b2 c2 fun e he => hi e ?_ (c2.mem e he))
    exact Nat.lt_of_lt_of_le (size_in (k := 3) (fl := false) (es := x2) (by simp -implicitDefEqProofs only [List.mem_cons, true_or, or_true]) he) (Nat.le_of_lt_succ hn)
theorem eq_Node (e : List D) (ok : OkC big (lay 2) e) : lim T 9 [.val true (e.map .d), .val true (e.map .d)] = some ([.val false [.d (.bool true)]], []) := eq_Node_n (SizeOf.sizeOf e + 1) e (by omega) ok
theorem eq_NodeS (es : List (List D)) (hB : es.length ≤ big) (ok : OkE big 2 es) : lim T 10 [.val false [.d (.list 3 false es)], .val false [.d (.list 3 false es)]] = some ([.val false [.d (.bool true)]], []) := eq_NodeS_s es hB ok fun e he => eq_Node e (ok.mem e he)
theorem eq_Edit_s (x0 : Int) (x1 : ByteArray) (x2 : ByteArray) (x3 : List (List D)) (ok : OkC big (lay 3) [.int .i64 x0, .str x1, .str x2, .list 4 false x3]) (ih : lim T 12 [.val false [.d (.list 4 false x3)], .val false [.d (.list 4 false x3)]] = some ([.val false [.d (.bool true)]], [])) :
    lim T 11 [.val true ([.int .i64 x0, .str x1, .str x2, .list 4 false x3].map .d), .val true ([.int .i64 x0, .str x1, .str x2, .list 4 false x3].map .d)] = some ([.val false [.d (.bool true)]], []) := by
  obtain ⟨y0, y1, y2, y3, e0, _, b1, b2, ⟨b3, c3⟩⟩ := inv_Edit ok
  simp -implicitDefEqProofs only [List.cons.injEq, D.str.injEq, D.int.injEq, D.bool.injEq, D.list.injEq, true_and, and_true] at e0
  obtain ⟨rfl, rfl, rfl, rfl⟩ := e0
  rw [lim_fn (f := 11) rfl rfl]
  simp -implicitDefEqProofs only [ih, go_sem, reduceIte, Nat.reduceAdd, Nat.reduceEqDiff, Nat.reduceMul, Nat.reduceLeDiff, Nat.reduceBEq, Nat.reduceBNe, Nat.reduceSub, Nat.reduceLT]
theorem eq_EditS_s (es : List (List D)) (hB : es.length ≤ big) (ok : OkE big 3 es) (h : ∀ e ∈ es, lim T 11 [.val true (e.map .d), .val true (e.map .d)] = some ([.val false [.d (.bool true)]], [])) :
    lim T 12 [.val false [.d (.list 4 false es)], .val false [.d (.list 4 false es)]] = some ([.val false [.d (.bool true)]], []) := by
  rw [lim_fn (f := 12) rfl rfl]
  have hl := loop0 (T := T) (mf := mf0) (body := lp12_0) (fun i => ⟨[(0, .d (.list 4 false es)), (1, .d (.list 4 false es)), (5, .d (.int .i64 i))], [], []⟩) es.length (e := .exit 0) (by simp)
    (by simp -implicitDefEqProofs only [lp12_0, nlt, go_sem, reduceIte, Nat.reduceAdd, Nat.reduceEqDiff, Nat.reduceMul, Nat.reduceLeDiff, Nat.reduceBEq, Nat.reduceBNe, Nat.reduceSub, Nat.reduceLT]; rfl)
    (by
      intro i hi
      have hn := nth_lt hi
      obtain ⟨x0, x1, x2, x3, he, _⟩ := inv_Edit (ok.nth_ hn)
      have hx := h _ (nth_mem hn)
      rw [he] at hn hx
      simp -implicitDefEqProofs only [List.map_cons, List.map_nil] at hx
      simp -implicitDefEqProofs only [lp12_0, hn, hx, hi, ilt hi, wi hi (Nat.le_trans hB (by simp [maxLen, big])), Int.natCast_nonneg, go_sem, reduceIte, Nat.reduceAdd, Nat.reduceEqDiff, Nat.reduceMul, Nat.reduceLeDiff, Nat.reduceBEq, Nat.reduceBNe, Nat.reduceSub, Nat.reduceLT])
  simp -implicitDefEqProofs only [Int.natCast_zero] at hl
  simp -implicitDefEqProofs only [hl, go_sem, reduceIte, Nat.reduceAdd, Nat.reduceEqDiff, Nat.reduceMul, Nat.reduceLeDiff, Nat.reduceBEq, Nat.reduceBNe, Nat.reduceSub, Nat.reduceLT]
theorem eq_Edit_n (n : Nat) : ∀ (e : List D), SizeOf.sizeOf e < n → OkC big (lay 3) e → lim T 11 [.val true (e.map .d), .val true (e.map .d)] = some ([.val false [.d (.bool true)]], []) := by
  induction n with
  | zero => intro e h; omega
  | succ n hi =>
    intro e hn ok
    obtain ⟨x0, x1, x2, x3, he, _, b1, b2, ⟨b3, c3⟩⟩ := inv_Edit ok
    rw [he] at hn ok ⊢
    refine eq_Edit_s x0 x1 x2 x3 ok (eq_EditS_s x3 b3 c3 fun e he => hi e ?_ (c3.mem e he))
    exact Nat.lt_of_lt_of_le (size_in (k := 4) (fl := false) (es := x3) (by simp -implicitDefEqProofs only [List.mem_cons, true_or, or_true]) he) (Nat.le_of_lt_succ hn)
theorem eq_Edit (e : List D) (ok : OkC big (lay 3) e) : lim T 11 [.val true (e.map .d), .val true (e.map .d)] = some ([.val false [.d (.bool true)]], []) := eq_Edit_n (SizeOf.sizeOf e + 1) e (by omega) ok
theorem eq_EditS (es : List (List D)) (hB : es.length ≤ big) (ok : OkE big 3 es) : lim T 12 [.val false [.d (.list 4 false es)], .val false [.d (.list 4 false es)]] = some ([.val false [.d (.bool true)]], []) := eq_EditS_s es hB ok fun e he => eq_Edit e (ok.mem e he)
theorem eq_Change (e : List D) (ok : OkC big (lay 4) e) :
    lim T 13 [.val true (e.map .d), .val true (e.map .d)] = some ([.val false [.d (.bool true)]], []) := by
  obtain ⟨x0, x1, x2, rfl, _, _, ⟨b2, c2⟩⟩ := inv_Change ok
  have f2 := eq_EditS x2 b2 c2
  rw [lim_fn (f := 13) rfl rfl]
  simp -implicitDefEqProofs only [f2, go_sem, reduceIte, Nat.reduceAdd, Nat.reduceEqDiff, Nat.reduceMul, Nat.reduceLeDiff, Nat.reduceBEq, Nat.reduceBNe, Nat.reduceSub, Nat.reduceLT]
theorem eq_ChangeS (es : List (List D)) (hB : es.length ≤ big) (ok : OkE big 4 es) :
    lim T 14 [.val false [.d (.list 3 false es)], .val false [.d (.list 3 false es)]] = some ([.val false [.d (.bool true)]], []) := by
  have h : ∀ e ∈ es, lim T 13 [.val true (e.map .d), .val true (e.map .d)] = some ([.val false [.d (.bool true)]], []) := fun e he => eq_Change e (ok.mem e he)
  rw [lim_fn (f := 14) rfl rfl]
  have hl := loop0 (T := T) (mf := mf0) (body := lp14_0) (fun i => ⟨[(0, .d (.list 3 false es)), (1, .d (.list 3 false es)), (5, .d (.int .i64 i))], [], []⟩) es.length (e := .exit 0) (by simp)
    (by simp -implicitDefEqProofs only [lp14_0, nlt, go_sem, reduceIte, Nat.reduceAdd, Nat.reduceEqDiff, Nat.reduceMul, Nat.reduceLeDiff, Nat.reduceBEq, Nat.reduceBNe, Nat.reduceSub, Nat.reduceLT]; rfl)
    (by
      intro i hi
      have hn := nth_lt hi
      obtain ⟨x0, x1, x2, he, _⟩ := inv_Change (ok.nth_ hn)
      have hx := h _ (nth_mem hn)
      rw [he] at hn hx
      simp -implicitDefEqProofs only [List.map_cons, List.map_nil] at hx
      simp -implicitDefEqProofs only [lp14_0, hn, hx, hi, ilt hi, wi hi (Nat.le_trans hB (by simp [maxLen, big])), Int.natCast_nonneg, go_sem, reduceIte, Nat.reduceAdd, Nat.reduceEqDiff, Nat.reduceMul, Nat.reduceLeDiff, Nat.reduceBEq, Nat.reduceBNe, Nat.reduceSub, Nat.reduceLT])
  simp -implicitDefEqProofs only [Int.natCast_zero] at hl
  simp -implicitDefEqProofs only [hl, go_sem, reduceIte, Nat.reduceAdd, Nat.reduceEqDiff, Nat.reduceMul, Nat.reduceLeDiff, Nat.reduceBEq, Nat.reduceBNe, Nat.reduceSub, Nat.reduceLT]
theorem eq_Journal (e : List D) (ok : OkC big (lay 5) e) :
    lim T 15 [.val true (e.map .d), .val true (e.map .d)] = some ([.val false [.d (.bool true)]], []) := by
  obtain ⟨x0, x1, rfl, ⟨b0, c0⟩, ⟨b1, c1⟩⟩ := inv_Journal ok
  have f0 := eq_NodeS x0 b0 c0
  have f1 := eq_ChangeS x1 b1 c1
  rw [lim_fn (f := 15) rfl rfl]
  simp -implicitDefEqProofs only [f0, f1, go_sem, reduceIte, Nat.reduceAdd, Nat.reduceEqDiff, Nat.reduceMul, Nat.reduceLeDiff, Nat.reduceBEq, Nat.reduceBNe, Nat.reduceSub, Nat.reduceLT]

end Go.Proofs.Ytmaigpiappmpcaa
