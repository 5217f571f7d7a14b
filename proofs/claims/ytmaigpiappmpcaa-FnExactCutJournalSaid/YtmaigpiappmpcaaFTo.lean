/-
  What the functions to.. answer: what they are given, as lists of their own. Printed by a program of our own.
-/
import Derived.Test.YtmaigpiappmpcaaInv
import Derived.Test.YtmaigpiappmpcaaKP1T
namespace Go.Proofs.Ytmaigpiappmpcaa
open Go.RowKit
set_option maxRecDepth 100000
set_option maxHeartbeats 4000000
set_option linter.unusedSimpArgs false
set_option linter.unusedVariables false

theorem to_Node_s (x0 : ByteArray) (x1 : ByteArray) (x2 : List (List D)) (ok : OkC big (lay 2) [.str x0, .str x1, .list 3 false x2]) (ih : lim T 6 [.val false [.d (.list 3 false x2)]] = some ([.val false [.row (orow 3 false x2)]], [])) :
    lim T 5 [.val true ([.str x0, .str x1, .list 3 false x2].map .d)] = some ([.val true ([.str x0, .str x1, .list 3 false x2].map own)], []) := by
  obtain ⟨y0, y1, y2, e0, b0, b1, ⟨b2, c2⟩⟩ := inv_Node ok
  simp -implicitDefEqProofs only [List.cons.injEq, D.str.injEq, D.int.injEq, D.bool.injEq, D.list.injEq, true_and, and_true] at e0
  obtain ⟨rfl, rfl, rfl⟩ := e0
  rw [lim_fn (f := 5) rfl rfl]
  simp -implicitDefEqProofs only [ih, own, go_sem, reduceIte, Nat.reduceAdd, Nat.reduceEqDiff, Nat.reduceMul, Nat.reduceLeDiff, Nat.reduceBEq, Nat.reduceBNe, Nat.reduceSub, Nat.reduceLT]
theorem to_NodeS_s (es : List (List D)) (hB : es.length ≤ big) (ok : OkE big 2 es) (h : ∀ e ∈ es, lim T 5 [.val true (e.map .d)] = some ([.val true (e.map own)], [])) :
    lim T 6 [.val false [.d (.list 3 false es)]] = some ([.val false [.row (orow 3 false es)]], []) := by
  rw [lim_fn (f := 6) rfl rfl]
  have hl := loop0 (T := T) (mf := mf0) (body := lp6_0) (fun i => ⟨[(0, .d (.list 3 false es)), (3, .ref 7), (4, .d (.int .i64 i))], [], [(7, orow 3 false (es.take i ++ List.replicate (es.length - i) [.str ⟨#[]⟩, .str ⟨#[]⟩, .list 3 false []]))]⟩) es.length (e := .exit 0) (by simp)
    (by simp -implicitDefEqProofs only [lp6_0, nlt, List.take_length, Nat.sub_self, List.replicate_zero, go_sem, reduceIte, Nat.reduceAdd, Nat.reduceEqDiff, Nat.reduceMul, Nat.reduceLeDiff, Nat.reduceBEq, Nat.reduceBNe, Nat.reduceSub, Nat.reduceLT]; rfl)
    (by
      intro i hi
      have hn := nth_lt hi
      obtain ⟨x0, x1, x2, he, _⟩ := inv_Node (ok.nth_ hn)
      have hx := h _ (nth_mem hn)
      rw [he] at hn hx
      simp -implicitDefEqProofs only [List.map_cons, List.map_nil, own] at hx
      simp -implicitDefEqProofs only [lp6_0, hn, hx, hi, ilt hi, nth_rep hi, len_rep (Nat.le_of_lt hi), wi hi (Nat.le_trans hB (by simp [maxLen, big])), fill_rep hn, Int.natCast_nonneg, go_sem, reduceIte, Nat.reduceAdd, Nat.reduceEqDiff, Nat.reduceMul, Nat.reduceLeDiff, Nat.reduceBEq, Nat.reduceBNe, Nat.reduceSub, Nat.reduceLT])
  have hm : ((0 : Int) ≤ (es.length : Int) ∧ es.length * 56 ≤ room ∧ ((es.length : Int) ≤ 4611686018427387904)) = True := by simp [room, big] at hB ⊢; omega
  simp -implicitDefEqProofs only [List.take_zero, List.nil_append, Nat.sub_zero, Int.natCast_zero] at hl
  simp -implicitDefEqProofs only [hl, hm, go_sem, reduceIte, Nat.reduceAdd, Nat.reduceEqDiff, Nat.reduceMul, Nat.reduceLeDiff, Nat.reduceBEq, Nat.reduceBNe, Nat.reduceSub, Nat.reduceLT]
theorem to_Node_n (n : Nat) : ∀ (e : List D), SizeOf.sizeOf e < n → OkC big (lay 2) e → lim T 5 [.val true (e.map .d)] = some ([.val true (e.map own)], []) := by
  induction n with
  | zero => intro e h; omega
  | succ n hi =>
    intro e hn ok
    obtain ⟨x0, x1, x2, he, b0, b1, ⟨b2, c2⟩⟩ := inv_Node ok
    rw [he] at hn ok ⊢
    refine to_Node_s x0 x1 x2 ok (to_NodeS_s x2 b2 c2 fun e he => hi e ?_ (c2.mem e he))
    exact Nat.lt_of_lt_of_le (size_in (k := 3) (fl := false) (es := x2) (by simp -implicitDefEqProofs only [List.mem_cons, true_or, or_true]) he) (Nat.le_of_lt_succ hn)
theorem to_Node (e : List D) (ok : OkC big (lay 2) e) : lim T 5 [.val true (e.map .d)] = some ([.val true (e.map own)], []) := to_Node_n (SizeOf.sizeOf e + 1) e (by omega) ok
theorem to_NodeS (es : List (List D)) (hB : es.length ≤ big) (ok : OkE big 2 es) : lim T 6 [.val false [.d (.list 3 false es)]] = some ([.val false [.row (orow 3 false es)]], []) := to_NodeS_s es hB ok fun e he => to_Node e (ok.mem e he)
theorem to_Edit_s (x0 : Int) (x1 : ByteArray) (x2 : ByteArray) (x3 : List (List D)) (ok : OkC big (lay 3) [.int .i64 x0, .str x1, .str x2, .list 4 false x3]) (ih : lim T 32 [.val false [.d (.list 4 false x3)]] = some ([.val false [.row (orow 4 false x3)]], [])) :
    lim T 31 [.val true ([.int .i64 x0, .str x1, .str x2, .list 4 false x3].map .d)] = some ([.val true ([.int .i64 x0, .str x1, .str x2, .list 4 false x3].map own)], []) := by
  obtain ⟨y0, y1, y2, y3, e0, _, b1, b2, ⟨b3, c3⟩⟩ := inv_Edit ok
  simp -implicitDefEqProofs only [List.cons.injEq, D.str.injEq, D.int.injEq, D.bool.injEq, D.list.injEq, true_and, and_true] at e0
  obtain ⟨rfl, rfl, rfl, rfl⟩ := e0
  rw [lim_fn (f := 31) rfl rfl]
  simp -implicitDefEqProofs only [ih, own, go_sem, reduceIte, Nat.reduceAdd, Nat.reduceEqDiff, Nat.reduceMul, Nat.reduceLeDiff, Nat.reduceBEq, Nat.reduceBNe, Nat.reduceSub, Nat.reduceLT]
theorem to_EditS_s (es : List (List D)) (hB : es.length ≤ big) (ok : OkE big 3 es) (h : ∀ e ∈ es, lim T 31 [.val true (e.map .d)] = some ([.val true (e.map own)], [])) :
    lim T 32 [.val false [.d (.list 4 false es)]] = some ([.val false [.row (orow 4 false es)]], []) := by
  rw [lim_fn (f := 32) rfl rfl]
  have hl := loop0 (T := T) (mf := mf0) (body := lp32_0) (fun i => ⟨[(0, .d (.list 4 false es)), (3, .ref 7), (4, .d (.int .i64 i))], [], [(7, orow 4 false (es.take i ++ List.replicate (es.length - i) [.int .i64 0, .str ⟨#[]⟩, .str ⟨#[]⟩, .list 4 false []]))]⟩) es.length (e := .exit 0) (by simp)
    (by simp -implicitDefEqProofs only [lp32_0, nlt, List.take_length, Nat.sub_self, List.replicate_zero, go_sem, reduceIte, Nat.reduceAdd, Nat.reduceEqDiff, Nat.reduceMul, Nat.reduceLeDiff, Nat.reduceBEq, Nat.reduceBNe, Nat.reduceSub, Nat.reduceLT]; rfl)
    (by
      intro i hi
      have hn := nth_lt hi
      obtain ⟨x0, x1, x2, x3, he, _⟩ := inv_Edit (ok.nth_ hn)
      have hx := h _ (nth_mem hn)
      rw [he] at hn hx
      simp -implicitDefEqProofs only [List.map_cons, List.map_nil, own] at hx
      simp -implicitDefEqProofs only [lp32_0, hn, hx, hi, ilt hi, nth_rep hi, len_rep (Nat.le_of_lt hi), wi hi (Nat.le_trans hB (by simp [maxLen, big])), fill_rep hn, Int.natCast_nonneg, go_sem, reduceIte, Nat.reduceAdd, Nat.reduceEqDiff, Nat.reduceMul, Nat.reduceLeDiff, Nat.reduceBEq, Nat.reduceBNe, Nat.reduceSub, Nat.reduceLT])
  have hm : ((0 : Int) ≤ (es.length : Int) ∧ es.length * 64 ≤ room ∧ ((es.length : Int) ≤ 4611686018427387904)) = True := by simp [room, big] at hB ⊢; omega
  simp -implicitDefEqProofs only [List.take_zero, List.nil_append, Nat.sub_zero, Int.natCast_zero] at hl
  simp -implicitDefEqProofs only [hl, hm, go_sem, reduceIte, Nat.reduceAdd, Nat.reduceEqDiff, Nat.reduceMul, Nat.reduceLeDiff, Nat.reduceBEq, Nat.reduceBNe, Nat.reduceSub, Nat.reduceLT]
theorem to_Edit_n (n : Nat) : ∀ (e : List D), SizeOf.sizeOf e < n → OkC big (lay 3) e → lim T 31 [.val true (e.map .d)] = some ([.val true (e.map own)], []) := by
  induction n with
  | zero => intro e h; omega
  | succ n hi =>
    intro e hn ok
    obtain ⟨x0, x1, x2, x3, he, _, b1, b2, ⟨b3, c3⟩⟩ := inv_Edit ok
    rw [he] at hn ok ⊢
    refine to_Edit_s x0 x1 x2 x3 ok (to_EditS_s x3 b3 c3 fun e he => hi e ?_ (c3.mem e he))
    exact Nat.lt_of_lt_of_le (size_in (k := 4) (fl := false) (es := x3) (by simp -implicitDefEqProofs only [List.mem_cons, true_or, or_true]) he) (Nat.le_of_lt_succ hn)
theorem to_Edit (e : List D) (ok : OkC big (lay 3) e) : lim T 31 [.val true (e.map .d)] = some ([.val true (e.map own)], []) := to_Edit_n (SizeOf.sizeOf e + 1) e (by omega) ok
theorem to_EditS (es : List (List D)) (hB : es.length ≤ big) (ok : OkE big 3 es) : lim T 32 [.val false [.d (.list 4 false es)]] = some ([.val false [.row (orow 4 false es)]], []) := to_EditS_s es hB ok fun e he => to_Edit e (ok.mem e he)
theorem to_Change (e : List D) (ok : OkC big (lay 4) e) :
    lim T 33 [.val true (e.map .d)] = some ([.val true (e.map own)], []) := by
  obtain ⟨x0, x1, x2, rfl, _, _, ⟨b2, c2⟩⟩ := inv_Change ok
  have f2 := to_EditS x2 b2 c2
  rw [lim_fn (f := 33) rfl rfl]
  simp -implicitDefEqProofs only [f2, own, go_sem, reduceIte, Nat.reduceAdd, Nat.reduceEqDiff, Nat.reduceMul, Nat.reduceLeDiff, Nat.reduceBEq, Nat.reduceBNe, Nat.reduceSub, Nat.reduceLT]
theorem to_ChangeS (es : List (List D)) (hB : es.length ≤ big) (ok : OkE big 4 es) :
    lim T 34 [.val false [.d (.list 3 false es)]] = some ([.val false [.row (orow 3 false es)]], []) := by
  have h : ∀ e ∈ es, lim T 33 [.val true (e.map .d)] = some ([.val true (e.map own)], []) := fun e he => to_Change e (ok.mem e he)
  rw [lim_fn (f := 34) rfl rfl]
  have hl := loop0 (T := T) (mf := mf0) (body := lp34_0) (fun i => ⟨[(0, .d (.list 3 false es)), (3, .ref 7), (4, .d (.int .i64 i))], [], [(7, orow 3 false (es.take i ++ List.replicate (es.length - i) [.int .i64 0, .int .i64 0, .list 4 false []]))]⟩) es.length (e := .exit 0) (by simp)
    (by simp -implicitDefEqProofs only [lp34_0, nlt, List.take_length, Nat.sub_self, List.replicate_zero, go_sem, reduceIte, Nat.reduceAdd, Nat.reduceEqDiff, Nat.reduceMul, Nat.reduceLeDiff, Nat.reduceBEq, Nat.reduceBNe, Nat.reduceSub, Nat.reduceLT]; rfl)
    (by
      intro i hi
      have hn := nth_lt hi
      obtain ⟨x0, x1, x2, he, _⟩ := inv_Change (ok.nth_ hn)
      have hx := h _ (nth_mem hn)
      rw [he] at hn hx
      simp -implicitDefEqProofs only [List.map_cons, List.map_nil, own] at hx
      simp -implicitDefEqProofs only [lp34_0, hn, hx, hi, ilt hi, nth_rep hi, len_rep (Nat.le_of_lt hi), wi hi (Nat.le_trans hB (by simp [maxLen, big])), fill_rep hn, Int.natCast_nonneg, go_sem, reduceIte, Nat.reduceAdd, Nat.reduceEqDiff, Nat.reduceMul, Nat.reduceLeDiff, Nat.reduceBEq, Nat.reduceBNe, Nat.reduceSub, Nat.reduceLT])
  have hm : ((0 : Int) ≤ (es.length : Int) ∧ es.length * 40 ≤ room ∧ ((es.length : Int) ≤ 4611686018427387904)) = True := by simp [room, big] at hB ⊢; omega
  simp -implicitDefEqProofs only [List.take_zero, List.nil_append, Nat.sub_zero, Int.natCast_zero] at hl
  simp -implicitDefEqProofs only [hl, hm, go_sem, reduceIte, Nat.reduceAdd, Nat.reduceEqDiff, Nat.reduceMul, Nat.reduceLeDiff, Nat.reduceBEq, Nat.reduceBNe, Nat.reduceSub, Nat.reduceLT]
theorem to_Journal (e : List D) (ok : OkC big (lay 5) e) :
    lim T 35 [.val true (e.map .d)] = some ([.val true (e.map own)], []) := by
  obtain ⟨x0, x1, rfl, ⟨b0, c0⟩, ⟨b1, c1⟩⟩ := inv_Journal ok
  have f0 := to_NodeS x0 b0 c0
  have f1 := to_ChangeS x1 b1 c1
  rw [lim_fn (f := 35) rfl rfl]
  simp -implicitDefEqProofs only [f0, f1, own, go_sem, reduceIte, Nat.reduceAdd, Nat.reduceEqDiff, Nat.reduceMul, Nat.reduceLeDiff, Nat.reduceBEq, Nat.reduceBNe, Nat.reduceSub, Nat.reduceLT]

end Go.Proofs.Ytmaigpiappmpcaa
