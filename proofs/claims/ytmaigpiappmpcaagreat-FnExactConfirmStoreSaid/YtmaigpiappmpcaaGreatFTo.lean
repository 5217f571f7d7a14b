/-
  What the functions to.. answer: what they are given, as lists of their own. Printed by a program of our own.
-/
import Derived.Test.YtmaigpiappmpcaaGreatInv
import Derived.Test.YtmaigpiappmpcaaGreatKP1T
namespace Go.Proofs.YtmaigpiappmpcaaGreat
open Go.RowKit
set_option maxRecDepth 100000
set_option maxHeartbeats 4000000
set_option linter.unusedSimpArgs false
set_option linter.unusedVariables false

theorem to_StringS (es : List (List D)) (hB : es.length ≤ big) (ok : OkE big 0 es) :
    lim T 61 [.val false [.d (.list 1 true es)]] = some ([.val false [.row (orow 1 true es)]], []) := by
  rw [lim_fn (f := 61) rfl rfl]
  have hl := loop0 (T := T) (mf := mf0) (body := lp61_0) (fun i => ⟨[(0, .d (.list 1 true es)), (3, .ref 7), (4, .d (.int .i64 i))], [], [(7, orow 1 true (es.take i ++ List.replicate (es.length - i) [.str ⟨#[]⟩]))]⟩) es.length (e := .exit 0) (by simp)
    (by simp -implicitDefEqProofs only [lp61_0, nlt, List.take_length, Nat.sub_self, List.replicate_zero, go_sem, reduceIte, Nat.reduceAdd, Nat.reduceEqDiff, Nat.reduceMul, Nat.reduceLeDiff, Nat.reduceBEq, Nat.reduceBNe, Nat.reduceSub, Nat.reduceLT]; rfl)
    (by
      intro i hi
      have hn := nth_lt hi
      obtain ⟨x0, he, _⟩ := inv_str (ok.nth_ hn)
      rw [he] at hn
      simp -implicitDefEqProofs only [lp61_0, hn, hi, ilt hi, nth_rep hi, len_rep (Nat.le_of_lt hi), wi hi (Nat.le_trans hB (by simp [maxLen, big])), fill_rep hn, Int.natCast_nonneg, go_sem, reduceIte, Nat.reduceAdd, Nat.reduceEqDiff, Nat.reduceMul, Nat.reduceLeDiff, Nat.reduceBEq, Nat.reduceBNe, Nat.reduceSub, Nat.reduceLT])
  have hm : ((0 : Int) ≤ (es.length : Int) ∧ es.length * 16 ≤ room ∧ ((es.length : Int) ≤ 4611686018427387904)) = True := by simp [room, big] at hB ⊢; omega
  simp -implicitDefEqProofs only [List.take_zero, List.nil_append, Nat.sub_zero, Int.natCast_zero] at hl
  simp -implicitDefEqProofs only [hl, hm, go_sem, reduceIte, Nat.reduceAdd, Nat.reduceEqDiff, Nat.reduceMul, Nat.reduceLeDiff, Nat.reduceBEq, Nat.reduceBNe, Nat.reduceSub, Nat.reduceLT]
theorem to_Range (e : List D) (ok : OkC big (lay 6) e) :
    lim T 59 [.val true (e.map .d)] = some ([.val true (e.map own)], []) := by
  obtain ⟨x0, x1, rfl, _, _⟩ := inv_Range ok
  rw [lim_fn (f := 59) rfl rfl]
  simp -implicitDefEqProofs only [own, go_sem, reduceIte, Nat.reduceAdd, Nat.reduceEqDiff, Nat.reduceMul, Nat.reduceLeDiff, Nat.reduceBEq, Nat.reduceBNe, Nat.reduceSub, Nat.reduceLT]
theorem to_RangeS (es : List (List D)) (hB : es.length ≤ big) (ok : OkE big 6 es) :
    lim T 60 [.val false [.d (.list 2 true es)]] = some ([.val false [.row (orow 2 true es)]], []) := by
  have h : ∀ e ∈ es, lim T 59 [.val true (e.map .d)] = some ([.val true (e.map own)], []) := fun e he => to_Range e (ok.mem e he)
  rw [lim_fn (f := 60) rfl rfl]
  have hl := loop0 (T := T) (mf := mf0) (body := lp60_0) (fun i => ⟨[(0, .d (.list 2 true es)), (3, .ref 7), (4, .d (.int .i64 i))], [], [(7, orow 2 true (es.take i ++ List.replicate (es.length - i) [.int .i64 0, .int .i64 0]))]⟩) es.length (e := .exit 0) (by simp)
    (by simp -implicitDefEqProofs only [lp60_0, nlt, List.take_length, Nat.sub_self, List.replicate_zero, go_sem, reduceIte, Nat.reduceAdd, Nat.reduceEqDiff, Nat.reduceMul, Nat.reduceLeDiff, Nat.reduceBEq, Nat.reduceBNe, Nat.reduceSub, Nat.reduceLT]; rfl)
    (by
      intro i hi
      have hn := nth_lt hi
      obtain ⟨x0, x1, he, _⟩ := inv_Range (ok.nth_ hn)
      have hx := h _ (nth_mem hn)
      rw [he] at hn hx
      simp -implicitDefEqProofs only [List.map_cons, List.map_nil, own] at hx
      simp -implicitDefEqProofs only [lp60_0, hn, hx, hi, ilt hi, nth_rep hi, len_rep (Nat.le_of_lt hi), wi hi (Nat.le_trans hB (by simp [maxLen, big])), fill_rep hn, Int.natCast_nonneg, go_sem, reduceIte, Nat.reduceAdd, Nat.reduceEqDiff, Nat.reduceMul, Nat.reduceLeDiff, Nat.reduceBEq, Nat.reduceBNe, Nat.reduceSub, Nat.reduceLT])
  have hm : ((0 : Int) ≤ (es.length : Int) ∧ es.length * 16 ≤ room ∧ ((es.length : Int) ≤ 4611686018427387904)) = True := by simp [room, big] at hB ⊢; omega
  simp -implicitDefEqProofs only [List.take_zero, List.nil_append, Nat.sub_zero, Int.natCast_zero] at hl
  simp -implicitDefEqProofs only [hl, hm, go_sem, reduceIte, Nat.reduceAdd, Nat.reduceEqDiff, Nat.reduceMul, Nat.reduceLeDiff, Nat.reduceBEq, Nat.reduceBNe, Nat.reduceSub, Nat.reduceLT]
theorem to_Type (e : List D) (ok : OkC big (lay 7) e) :
    lim T 62 [.val true (e.map .d)] = some ([.val true (e.map own)], []) := by
  obtain ⟨x0, x1, x2, x3, x4, rfl, _, ⟨b1, c1⟩, ⟨b2, c2⟩, b3, b4⟩ := inv_Type ok
  have f1 := to_RangeS x1 b1 c1
  have f2 := to_StringS x2 b2 c2
  rw [lim_fn (f := 62) rfl rfl]
  simp -implicitDefEqProofs only [f1, f2, own, go_sem, reduceIte, Nat.reduceAdd, Nat.reduceEqDiff, Nat.reduceMul, Nat.reduceLeDiff, Nat.reduceBEq, Nat.reduceBNe, Nat.reduceSub, Nat.reduceLT]
theorem to_Test (e : List D) (ok : OkC big (lay 8) e) :
    lim T 63 [.val true (e.map .d)] = some ([.val true (e.map own)], []) := by
  obtain ⟨x0, x1, rfl, b0, b1⟩ := inv_Test ok
  rw [lim_fn (f := 63) rfl rfl]
  simp -implicitDefEqProofs only [own, go_sem, reduceIte, Nat.reduceAdd, Nat.reduceEqDiff, Nat.reduceMul, Nat.reduceLeDiff, Nat.reduceBEq, Nat.reduceBNe, Nat.reduceSub, Nat.reduceLT]
theorem to_TestS (es : List (List D)) (hB : es.length ≤ big) (ok : OkE big 8 es) :
    lim T 64 [.val false [.d (.list 2 true es)]] = some ([.val false [.row (orow 2 true es)]], []) := by
  have h : ∀ e ∈ es, lim T 63 [.val true (e.map .d)] = some ([.val true (e.map own)], []) := fun e he => to_Test e (ok.mem e he)
  rw [lim_fn (f := 64) rfl rfl]
  have hl := loop0 (T := T) (mf := mf0) (body := lp64_0) (fun i => ⟨[(0, .d (.list 2 true es)), (3, .ref 7), (4, .d (.int .i64 i))], [], [(7, orow 2 true (es.take i ++ List.replicate (es.length - i) [.str ⟨#[]⟩, .str ⟨#[]⟩]))]⟩) es.length (e := .exit 0) (by simp)
    (by simp -implicitDefEqProofs only [lp64_0, nlt, List.take_length, Nat.sub_self, List.replicate_zero, go_sem, reduceIte, Nat.reduceAdd, Nat.reduceEqDiff, Nat.reduceMul, Nat.reduceLeDiff, Nat.reduceBEq, Nat.reduceBNe, Nat.reduceSub, Nat.reduceLT]; rfl)
    (by
      intro i hi
      have hn := nth_lt hi
      obtain ⟨x0, x1, he, _⟩ := inv_Test (ok.nth_ hn)
      have hx := h _ (nth_mem hn)
      rw [he] at hn hx
      simp -implicitDefEqProofs only [List.map_cons, List.map_nil, own] at hx
      simp -implicitDefEqProofs only [lp64_0, hn, hx, hi, ilt hi, nth_rep hi, len_rep (Nat.le_of_lt hi), wi hi (Nat.le_trans hB (by simp [maxLen, big])), fill_rep hn, Int.natCast_nonneg, go_sem, reduceIte, Nat.reduceAdd, Nat.reduceEqDiff, Nat.reduceMul, Nat.reduceLeDiff, Nat.reduceBEq, Nat.reduceBNe, Nat.reduceSub, Nat.reduceLT])
  have hm : ((0 : Int) ≤ (es.length : Int) ∧ es.length * 32 ≤ room ∧ ((es.length : Int) ≤ 4611686018427387904)) = True := by simp [room, big] at hB ⊢; omega
  simp -implicitDefEqProofs only [List.take_zero, List.nil_append, Nat.sub_zero, Int.natCast_zero] at hl
  simp -implicitDefEqProofs only [hl, hm, go_sem, reduceIte, Nat.reduceAdd, Nat.reduceEqDiff, Nat.reduceMul, Nat.reduceLeDiff, Nat.reduceBEq, Nat.reduceBNe, Nat.reduceSub, Nat.reduceLT]
theorem to_Step (e : List D) (ok : OkC big (lay 9) e) :
    lim T 65 [.val true (e.map .d)] = some ([.val true (e.map own)], []) := by
  obtain ⟨x0, x1, rfl, b0, ⟨b1, c1⟩⟩ := inv_Step ok
  have f1 := to_TestS x1 b1 c1
  rw [lim_fn (f := 65) rfl rfl]
  simp -implicitDefEqProofs only [f1, own, go_sem, reduceIte, Nat.reduceAdd, Nat.reduceEqDiff, Nat.reduceMul, Nat.reduceLeDiff, Nat.reduceBEq, Nat.reduceBNe, Nat.reduceSub, Nat.reduceLT]
theorem to_StepS (es : List (List D)) (hB : es.length ≤ big) (ok : OkE big 9 es) :
    lim T 66 [.val false [.d (.list 2 false es)]] = some ([.val false [.row (orow 2 false es)]], []) := by
  have h : ∀ e ∈ es, lim T 65 [.val true (e.map .d)] = some ([.val true (e.map own)], []) := fun e he => to_Step e (ok.mem e he)
  rw [lim_fn (f := 66) rfl rfl]
  have hl := loop0 (T := T) (mf := mf0) (body := lp66_0) (fun i => ⟨[(0, .d (.list 2 false es)), (3, .ref 7), (4, .d (.int .i64 i))], [], [(7, orow 2 false (es.take i ++ List.replicate (es.length - i) [.str ⟨#[]⟩, .list 2 true []]))]⟩) es.length (e := .exit 0) (by simp)
    (by simp -implicitDefEqProofs only [lp66_0, nlt, List.take_length, Nat.sub_self, List.replicate_zero, go_sem, reduceIte, Nat.reduceAdd, Nat.reduceEqDiff, Nat.reduceMul, Nat.reduceLeDiff, Nat.reduceBEq, Nat.reduceBNe, Nat.reduceSub, Nat.reduceLT]; rfl)
    (by
      intro i hi
      have hn := nth_lt hi
      obtain ⟨x0, x1, he, _⟩ := inv_Step (ok.nth_ hn)
      have hx := h _ (nth_mem hn)
      rw [he] at hn hx
      simp -implicitDefEqProofs only [List.map_cons, List.map_nil, own] at hx
      simp -implicitDefEqProofs only [lp66_0, hn, hx, hi, ilt hi, nth_rep hi, len_rep (Nat.le_of_lt hi), wi hi (Nat.le_trans hB (by simp [maxLen, big])), fill_rep hn, Int.natCast_nonneg, go_sem, reduceIte, Nat.reduceAdd, Nat.reduceEqDiff, Nat.reduceMul, Nat.reduceLeDiff, Nat.reduceBEq, Nat.reduceBNe, Nat.reduceSub, Nat.reduceLT])
  have hm : ((0 : Int) ≤ (es.length : Int) ∧ es.length * 40 ≤ room ∧ ((es.length : Int) ≤ 4611686018427387904)) = True := by simp [room, big] at hB ⊢; omega
  simp -implicitDefEqProofs only [List.take_zero, List.nil_append, Nat.sub_zero, Int.natCast_zero] at hl
  simp -implicitDefEqProofs only [hl, hm, go_sem, reduceIte, Nat.reduceAdd, Nat.reduceEqDiff, Nat.reduceMul, Nat.reduceLeDiff, Nat.reduceBEq, Nat.reduceBNe, Nat.reduceSub, Nat.reduceLT]
theorem to_Path (e : List D) (ok : OkC big (lay 10) e) :
    lim T 67 [.val true (e.map .d)] = some ([.val true (e.map own)], []) := by
  obtain ⟨x0, x1, x2, rfl, _, _, ⟨b2, c2⟩⟩ := inv_Path ok
  have f2 := to_StepS x2 b2 c2
  rw [lim_fn (f := 67) rfl rfl]
  simp -implicitDefEqProofs only [f2, own, go_sem, reduceIte, Nat.reduceAdd, Nat.reduceEqDiff, Nat.reduceMul, Nat.reduceLeDiff, Nat.reduceBEq, Nat.reduceBNe, Nat.reduceSub, Nat.reduceLT]
theorem to_Expr_s (x0 : Int) (x1 : Int) (x2 : ByteArray) (x3 : Bool) (x4 : Int) (x5 : List (List D)) (x6 : List (List D)) (ok : OkC big (lay 11) [.int .i64 x0, .int .i64 x1, .str x2, .bool x3, .int .i64 x4, .list 2 false x5, .list 7 false x6]) (ih : lim T 69 [.val false [.d (.list 7 false x6)]] = some ([.val false [.row (orow 7 false x6)]], [])) :
    lim T 68 [.val true ([.int .i64 x0, .int .i64 x1, .str x2, .bool x3, .int .i64 x4, .list 2 false x5, .list 7 false x6].map .d)] = some ([.val true ([.int .i64 x0, .int .i64 x1, .str x2, .bool x3, .int .i64 x4, .list 2 false x5, .list 7 false x6].map own)], []) := by
  obtain ⟨y0, y1, y2, y3, y4, y5, y6, e0, _, _, b2, _, _, ⟨b5, c5⟩, ⟨b6, c6⟩⟩ := inv_Expr ok
  simp -implicitDefEqProofs only [List.cons.injEq, D.str.injEq, D.int.injEq, D.bool.injEq, D.list.injEq, true_and, and_true] at e0
  obtain ⟨rfl, rfl, rfl, rfl, rfl, rfl, rfl⟩ := e0
  have f3 := to_Path _ (OkC.sub 3 3 ok)
  simp -implicitDefEqProofs only [List.drop_succ_cons, List.drop_zero, List.take_succ_cons, List.take_zero, List.map_cons, List.map_nil, own] at f3
  rw [lim_fn (f := 68) rfl rfl]
  simp -implicitDefEqProofs only [f3, ih, own, go_sem, reduceIte, Nat.reduceAdd, Nat.reduceEqDiff, Nat.reduceMul, Nat.reduceLeDiff, Nat.reduceBEq, Nat.reduceBNe, Nat.reduceSub, Nat.reduceLT]
theorem to_ExprS_s (es : List (List D)) (hB : es.length ≤ big) (ok : OkE big 11 es) (h : ∀ e ∈ es, lim T 68 [.val true (e.map .d)] = some ([.val true (e.map own)], [])) :
    lim T 69 [.val false [.d (.list 7 false es)]] = some ([.val false [.row (orow 7 false es)]], []) := by
  rw [lim_fn (f := 69) rfl rfl]
  have hl := loop0 (T := T) (mf := mf0) (body := lp69_0) (fun i => ⟨[(0, .d (.list 7 false es)), (3, .ref 7), (4, .d (.int .i64 i))], [], [(7, orow 7 false (es.take i ++ List.replicate (es.length - i) [.int .i64 0, .int .i64 0, .str ⟨#[]⟩, .bool false, .int .i64 0, .list 2 false [], .list 7 false []]))]⟩) es.length (e := .exit 0) (by simp)
    (by simp -implicitDefEqProofs only [lp69_0, nlt, List.take_length, Nat.sub_self, List.replicate_zero, go_sem, reduceIte, Nat.reduceAdd, Nat.reduceEqDiff, Nat.reduceMul, Nat.reduceLeDiff, Nat.reduceBEq, Nat.reduceBNe, Nat.reduceSub, Nat.reduceLT]; rfl)
    (by
      intro i hi
      have hn := nth_lt hi
      obtain ⟨x0, x1, x2, x3, x4, x5, x6, he, _⟩ := inv_Expr (ok.nth_ hn)
      have hx := h _ (nth_mem hn)
      rw [he] at hn hx
      simp -implicitDefEqProofs only [List.map_cons, List.map_nil, own] at hx
      simp -implicitDefEqProofs only [lp69_0, hn, hx, hi, ilt hi, nth_rep hi, len_rep (Nat.le_of_lt hi), wi hi (Nat.le_trans hB (by simp [maxLen, big])), fill_rep hn, Int.natCast_nonneg, go_sem, reduceIte, Nat.reduceAdd, Nat.reduceEqDiff, Nat.reduceMul, Nat.reduceLeDiff, Nat.reduceBEq, Nat.reduceBNe, Nat.reduceSub, Nat.reduceLT])
  have hm : ((0 : Int) ≤ (es.length : Int) ∧ es.length * 96 ≤ room ∧ ((es.length : Int) ≤ 4611686018427387904)) = True := by simp [room, big] at hB ⊢; omega
  simp -implicitDefEqProofs only [List.take_zero, List.nil_append, Nat.sub_zero, Int.natCast_zero] at hl
  simp -implicitDefEqProofs only [hl, hm, go_sem, reduceIte, Nat.reduceAdd, Nat.reduceEqDiff, Nat.reduceMul, Nat.reduceLeDiff, Nat.reduceBEq, Nat.reduceBNe, Nat.reduceSub, Nat.reduceLT]
theorem to_Expr_n (n : Nat) : ∀ (e : List D), SizeOf.sizeOf e < n → OkC big (lay 11) e → lim T 68 [.val true (e.map .d)] = some ([.val true (e.map own)], []) := by
  induction n with
  | zero => intro e h; omega
  | succ n hi =>
    intro e hn ok
    obtain ⟨x0, x1, x2, x3, x4, x5, x6, he, _, _, b2, _, _, ⟨b5, c5⟩, ⟨b6, c6⟩⟩ := inv_Expr ok
    rw [he] at hn ok ⊢
    refine to_Expr_s x0 x1 x2 x3 x4 x5 x6 ok (to_ExprS_s x6 b6 c6 fun e he => hi e ?_ (c6.mem e he))
    exact Nat.lt_of_lt_of_le (size_in (k := 7) (fl := false) (es := x6) (by simp -implicitDefEqProofs only [List.mem_cons, true_or, or_true]) he) (Nat.le_of_lt_succ hn)
theorem to_Expr (e : List D) (ok : OkC big (lay 11) e) : lim T 68 [.val true (e.map .d)] = some ([.val true (e.map own)], []) := to_Expr_n (SizeOf.sizeOf e + 1) e (by omega) ok
theorem to_ExprS (es : List (List D)) (hB : es.length ≤ big) (ok : OkE big 11 es) : lim T 69 [.val false [.d (.list 7 false es)]] = some ([.val false [.row (orow 7 false es)]], []) := to_ExprS_s es hB ok fun e he => to_Expr e (ok.mem e he)
theorem to_Schema_s (x0 : Int) (x1 : ByteArray) (x2 : Int) (x3 : List (List D)) (x4 : List (List D)) (x5 : ByteArray) (x6 : ByteArray) (x7 : List (List D)) (x8 : List (List D)) (x9 : ByteArray) (x10 : Bool) (x11 : Bool) (x12 : Bool) (x13 : Bool) (x14 : Int) (x15 : Int) (x16 : List (List D)) (x17 : List (List D)) (x18 : List (List D)) (ok : OkC big (lay 12) [.int .i64 x0, .str x1, .int .i64 x2, .list 2 true x3, .list 1 true x4, .str x5, .str x6, .list 1 true x7, .list 1 true x8, .str x9, .bool x10, .bool x11, .bool x12, .bool x13, .int .i64 x14, .int .i64 x15, .list 7 false x16, .list 7 false x17, .list 19 false x18]) (ih : lim T 71 [.val false [.d (.list 19 false x18)]] = some ([.val false [.row (orow 19 false x18)]], [])) :
    lim T 70 [.val true ([.int .i64 x0, .str x1, .int .i64 x2, .list 2 true x3, .list 1 true x4, .str x5, .str x6, .list 1 true x7, .list 1 true x8, .str x9, .bool x10, .bool x11, .bool x12, .bool x13, .int .i64 x14, .int .i64 x15, .list 7 false x16, .list 7 false x17, .list 19 false x18].map .d)] = some ([.val true ([.int .i64 x0, .str x1, .int .i64 x2, .list 2 true x3, .list 1 true x4, .str x5, .str x6, .list 1 true x7, .list 1 true x8, .str x9, .bool x10, .bool x11, .bool x12, .bool x13, .int .i64 x14, .int .i64 x15, .list 7 false x16, .list 7 false x17, .list 19 false x18].map own)], []) := by
  obtain ⟨y0, y1, y2, y3, y4, y5, y6, y7, y8, y9, y10, y11, y12, y13, y14, y15, y16, y17, y18, e0, _, b1, _, ⟨b3, c3⟩, ⟨b4, c4⟩, b5, b6, ⟨b7, c7⟩, ⟨b8, c8⟩, b9, _, _, _, _, _, _, ⟨b16, c16⟩, ⟨b17, c17⟩, ⟨b18, c18⟩⟩ := inv_Schema ok
  simp -implicitDefEqProofs only [List.cons.injEq, D.str.injEq, D.int.injEq, D.bool.injEq, D.list.injEq, true_and, and_true] at e0
  obtain ⟨rfl, rfl, rfl, rfl, rfl, rfl, rfl, rfl, rfl, rfl, rfl, rfl, rfl, rfl, rfl, rfl, rfl, rfl, rfl⟩ := e0
  have f2 := to_Type _ (OkC.sub 2 5 ok)
  simp -implicitDefEqProofs only [List.drop_succ_cons, List.drop_zero, List.take_succ_cons, List.take_zero, List.map_cons, List.map_nil, own] at f2
  have f7 := to_StringS x7 b7 c7
  have f8 := to_StringS x8 b8 c8
  have f16 := to_ExprS x16 b16 c16
  have f17 := to_ExprS x17 b17 c17
  rw [lim_fn (f := 70) rfl rfl]
  simp -implicitDefEqProofs only [f2, f7, f8, f16, f17, ih, own, go_sem, reduceIte, Nat.reduceAdd, Nat.reduceEqDiff, Nat.reduceMul, Nat.reduceLeDiff, Nat.reduceBEq, Nat.reduceBNe, Nat.reduceSub, Nat.reduceLT]
theorem to_SchemaS_s (es : List (List D)) (hB : es.length ≤ big) (ok : OkE big 12 es) (h : ∀ e ∈ es, lim T 70 [.val true (e.map .d)] = some ([.val true (e.map own)], [])) :
    lim T 71 [.val false [.d (.list 19 false es)]] = some ([.val false [.row (orow 19 false es)]], []) := by
  rw [lim_fn (f := 71) rfl rfl]
  have hl := loop0 (T := T) (mf := mf0) (body := lp71_0) (fun i => ⟨[(0, .d (.list 19 false es)), (3, .ref 7), (4, .d (.int .i64 i))], [], [(7, orow 19 false (es.take i ++ List.replicate (es.length - i) [.int .i64 0, .str ⟨#[]⟩, .int .i64 0, .list 2 true [], .list 1 true [], .str ⟨#[]⟩, .str ⟨#[]⟩, .list 1 true [], .list 1 true [], .str ⟨#[]⟩, .bool false, .bool false, .bool false, .bool false, .int .i64 0, .int .i64 0, .list 7 false [], .list 7 false [], .list 19 false []]))]⟩) es.length (e := .exit 0) (by simp)
    (by simp -implicitDefEqProofs only [lp71_0, nlt, List.take_length, Nat.sub_self, List.replicate_zero, go_sem, reduceIte, Nat.reduceAdd, Nat.reduceEqDiff, Nat.reduceMul, Nat.reduceLeDiff, Nat.reduceBEq, Nat.reduceBNe, Nat.reduceSub, Nat.reduceLT]; rfl)
    (by
      intro i hi
      have hn := nth_lt hi
      obtain ⟨x0, x1, x2, x3, x4, x5, x6, x7, x8, x9, x10, x11, x12, x13, x14, x15, x16, x17, x18, he, _⟩ := inv_Schema (ok.nth_ hn)
      have hx := h _ (nth_mem hn)
      rw [he] at hn hx
      simp -implicitDefEqProofs only [List.map_cons, List.map_nil, own] at hx
      simp -implicitDefEqProofs only [lp71_0, hn, hx, hi, ilt hi, nth_rep hi, len_rep (Nat.le_of_lt hi), wi hi (Nat.le_trans hB (by simp [maxLen, big])), fill_rep hn, Int.natCast_nonneg, go_sem, reduceIte, Nat.reduceAdd, Nat.reduceEqDiff, Nat.reduceMul, Nat.reduceLeDiff, Nat.reduceBEq, Nat.reduceBNe, Nat.reduceSub, Nat.reduceLT])
  have hm : ((0 : Int) ≤ (es.length : Int) ∧ es.length * 272 ≤ room ∧ ((es.length : Int) ≤ 4611686018427387904)) = True := by simp [room, big] at hB ⊢; omega
  simp -implicitDefEqProofs only [List.take_zero, List.nil_append, Nat.sub_zero, Int.natCast_zero] at hl
  simp -implicitDefEqProofs only [hl, hm, go_sem, reduceIte, Nat.reduceAdd, Nat.reduceEqDiff, Nat.reduceMul, Nat.reduceLeDiff, Nat.reduceBEq, Nat.reduceBNe, Nat.reduceSub, Nat.reduceLT]
theorem to_Schema_n (n : Nat) : ∀ (e : List D), SizeOf.sizeOf e < n → OkC big (lay 12) e → lim T 70 [.val true (e.map .d)] = some ([.val true (e.map own)], []) := by
  induction n with
  | zero => intro e h; omega
  | succ n hi =>
    intro e hn ok
    obtain ⟨x0, x1, x2, x3, x4, x5, x6, x7, x8, x9, x10, x11, x12, x13, x14, x15, x16, x17, x18, he, _, b1, _, ⟨b3, c3⟩, ⟨b4, c4⟩, b5, b6, ⟨b7, c7⟩, ⟨b8, c8⟩, b9, _, _, _, _, _, _, ⟨b16, c16⟩, ⟨b17, c17⟩, ⟨b18, c18⟩⟩ := inv_Schema ok
    rw [he] at hn ok ⊢
    refine to_Schema_s x0 x1 x2 x3 x4 x5 x6 x7 x8 x9 x10 x11 x12 x13 x14 x15 x16 x17 x18 ok (to_SchemaS_s x18 b18 c18 fun e he => hi e ?_ (c18.mem e he))
    exact Nat.lt_of_lt_of_le (size_in (k := 19) (fl := false) (es := x18) (by simp -implicitDefEqProofs only [List.mem_cons, true_or, or_true]) he) (Nat.le_of_lt_succ hn)
theorem to_Schema (e : List D) (ok : OkC big (lay 12) e) : lim T 70 [.val true (e.map .d)] = some ([.val true (e.map own)], []) := to_Schema_n (SizeOf.sizeOf e + 1) e (by omega) ok
theorem to_SchemaS (es : List (List D)) (hB : es.length ≤ big) (ok : OkE big 12 es) : lim T 71 [.val false [.d (.list 19 false es)]] = some ([.val false [.row (orow 19 false es)]], []) := to_SchemaS_s es hB ok fun e he => to_Schema e (ok.mem e he)
theorem to_Node_s (x0 : ByteArray) (x1 : ByteArray) (x2 : List (List D)) (ok : OkC big (lay 2) [.str x0, .str x1, .list 3 false x2]) (ih : lim T 6 [.val false [.d (.list 3 false x2)]] = some ([.val false [.row (orow 3 false x2)]], [])) :
    lim T 5 [.val true ([.str x0, .str x1, .list 3 false x2].map .d)] = some ([.val true ([.str x0, .str x1, .list 3 false x2].map own)], []) := by
  obtain ⟨y0, y1, y2, e0, b0, b1, ⟨b2, c2⟩⟩ := inv_Node ok
  simp -implicitDefEqProofs only [List.cons.injEq, D.str.injEq, D.int.injEq, D.bool.injEq, D.list.injEq, true_and, and_true] at e0
  obtain ⟨rfl, rfl, rfl⟩ := e0
  rw [lim_fn (f := 5) rfl rfl]
  simp -implicitDefEqProofs only [ih, own, go_sem, reduceIte, Nat.reduceAdd, Nat.reduceEqDiff, Nat.reduceMul, Nat.reduceLeDiff, Nat.reduceBEq, Nat.reduceBNe, Nat.reduceSub, Nat.reduceLT]
theorem to_NodeS_s (es : List (List D)) (hB : es.length ≤ big) (ok : OkE big 2 es) (h : ∀ e ∈ es, lim T 5 [.val true (e.map .d)] = some ([.val true (e.map own)], [])) :
    lim T 6 [.val false [.d (.list 3 false es)]] = some ([.val false [.row (orow 3 false es)]], []) := by
  rw [lim_fn (f := 6) rfl rfl]
  have hl := loop0 (T := T) (mf := mf0) (body := lp6_0) (fun i => ⟨[(0, .d (.list 3 false es)), (3, .ref 7), (4, .d (.int .i64 i))], [], [(7, orow 3 false (es.take i ++ List.replicate (es.length - i) [.str ⟨#[]⟩, .str ⟨#[]⟩, .list 3 false []]))]⟩) es.length (e := .exit 0) (by simp)
    (by simp -implicitDefEqProofs only [lp6_0, nlt, List.take_length, Nat.sub_self, List.replicate_zero, go_sem, reduceIte, Nat.reduceAdd, Nat.reduceEqDiff, Nat.reduceMul, Nat.reduceLeDiff, Nat.reduceBEq, Nat.reduceBNe, Nat.reduceSub, Nat.reduceLT]; rfl)
    (by
      intro i hi
      have hn := nth_lt hi
      obtain ⟨x0, x1, x2, he, _⟩ := inv_Node (ok.nth_ hn)
      have hx := h _ (nth_mem hn)
      rw [he] at hn hx
      simp -implicitDefEqProofs only [List.map_cons, List.map_nil, own] at hx
      simp -implicitDefEqProofs only [lp6_0, hn, hx, hi, ilt hi, nth_rep hi, len_rep (Nat.le_of_lt hi), wi hi (Nat.le_trans hB (by simp [maxLen, big])), fill_rep hn, Int.natCast_nonneg, go_sem, reduceIte, Nat.reduceAdd, Nat.reduceEqDiff, Nat.reduceMul, Nat.reduceLeDiff, Nat.reduceBEq, Nat.reduceBNe, Nat.reduceSub, Nat.reduceLT])
  have hm : ((0 : Int) ≤ (es.length : Int) ∧ es.length * 56 ≤ room ∧ ((es.length : Int) ≤ 4611686018427387904)) = True := by simp [room, big] at hB ⊢; omega
  simp -implicitDefEqProofs only [List.take_zero, List.nil_append, Nat.sub_zero, Int.natCast_zero] at hl
  simp -implicitDefEqProofs only [hl, hm, go_sem, reduceIte, Nat.reduceAdd, Nat.reduceEqDiff, Nat.reduceMul, Nat.reduceLeDiff, Nat.reduceBEq, Nat.reduceBNe, Nat.reduceSub, Nat.reduceLT]
theorem to_Node_n (n : Nat) : ∀ (e : List D), SizeOf.sizeOf e < n → OkC big (lay 2) e → lim T 5 [.val true (e.map .d)] = some ([.val true (e.map own)], []) := by
  induction n with
  | zero => intro e h; omega
  | succ n hi =>
    intro e hn ok
    obtain ⟨x0, x1, x2, he, b0, b1, ⟨b2, c2⟩⟩ := inv_Node ok
    rw [he] at hn ok ⊢
    refine to_Node_s x0 x1 x2 ok (to_NodeS_s x2 b2 c2 fun e he => hi e ?_ (c2.mem e he))
    exact Nat.lt_of_lt_of_le (size_in (k := 3) (fl := false) (es := x2) (by simp -implicitDefEqProofs only [List.mem_cons, true_or, or_true]) he) (Nat.le_of_lt_succ hn)
theorem to_Node (e : List D) (ok : OkC big (lay 2) e) : lim T 5 [.val true (e.map .d)] = some ([.val true (e.map own)], []) := to_Node_n (SizeOf.sizeOf e + 1) e (by omega) ok
theorem to_NodeS (es : List (List D)) (hB : es.length ≤ big) (ok : OkE big 2 es) : lim T 6 [.val false [.d (.list 3 false es)]] = some ([.val false [.row (orow 3 false es)]], []) := to_NodeS_s es hB ok fun e he => to_Node e (ok.mem e he)
theorem to_Version (e : List D) (ok : OkC big (lay 13) e) :
    lim T 128 [.val true (e.map .d)] = some ([.val true (e.map own)], []) := by
  obtain ⟨x0, x1, x2, rfl, ⟨b0, c0⟩, _, _⟩ := inv_Version ok
  have f0 := to_NodeS x0 b0 c0
  rw [lim_fn (f := 128) rfl rfl]
  simp -implicitDefEqProofs only [f0, own, go_sem, reduceIte, Nat.reduceAdd, Nat.reduceEqDiff, Nat.reduceMul, Nat.reduceLeDiff, Nat.reduceBEq, Nat.reduceBNe, Nat.reduceSub, Nat.reduceLT]
theorem to_VersionS (es : List (List D)) (hB : es.length ≤ big) (ok : OkE big 13 es) :
    lim T 129 [.val false [.d (.list 3 false es)]] = some ([.val false [.row (orow 3 false es)]], []) := by
  have h : ∀ e ∈ es, lim T 128 [.val true (e.map .d)] = some ([.val true (e.map own)], []) := fun e he => to_Version e (ok.mem e he)
  rw [lim_fn (f := 129) rfl rfl]
  have hl := loop0 (T := T) (mf := mf0) (body := lp129_0) (fun i => ⟨[(0, .d (.list 3 false es)), (3, .ref 7), (4, .d (.int .i64 i))], [], [(7, orow 3 false (es.take i ++ List.replicate (es.length - i) [.list 3 false [], .int .i64 0, .int .i64 0]))]⟩) es.length (e := .exit 0) (by simp)
    (by simp -implicitDefEqProofs only [lp129_0, nlt, List.take_length, Nat.sub_self, List.replicate_zero, go_sem, reduceIte, Nat.reduceAdd, Nat.reduceEqDiff, Nat.reduceMul, Nat.reduceLeDiff, Nat.reduceBEq, Nat.reduceBNe, Nat.reduceSub, Nat.reduceLT]; rfl)
    (by
      intro i hi
      have hn := nth_lt hi
      obtain ⟨x0, x1, x2, he, _⟩ := inv_Version (ok.nth_ hn)
      have hx := h _ (nth_mem hn)
      rw [he] at hn hx
      simp -implicitDefEqProofs only [List.map_cons, List.map_nil, own] at hx
      simp -implicitDefEqProofs only [lp129_0, hn, hx, hi, ilt hi, nth_rep hi, len_rep (Nat.le_of_lt hi), wi hi (Nat.le_trans hB (by simp [maxLen, big])), fill_rep hn, Int.natCast_nonneg, go_sem, reduceIte, Nat.reduceAdd, Nat.reduceEqDiff, Nat.reduceMul, Nat.reduceLeDiff, Nat.reduceBEq, Nat.reduceBNe, Nat.reduceSub, Nat.reduceLT])
  have hm : ((0 : Int) ≤ (es.length : Int) ∧ es.length * 40 ≤ room ∧ ((es.length : Int) ≤ 4611686018427387904)) = True := by simp [room, big] at hB ⊢; omega
  simp -implicitDefEqProofs only [List.take_zero, List.nil_append, Nat.sub_zero, Int.natCast_zero] at hl
  simp -implicitDefEqProofs only [hl, hm, go_sem, reduceIte, Nat.reduceAdd, Nat.reduceEqDiff, Nat.reduceMul, Nat.reduceLeDiff, Nat.reduceBEq, Nat.reduceBNe, Nat.reduceSub, Nat.reduceLT]
theorem to_Pending (e : List D) (ok : OkC big (lay 14) e) :
    lim T 130 [.val true (e.map .d)] = some ([.val true (e.map own)], []) := by
  obtain ⟨x0, x1, x2, x3, x4, rfl, _, _, _, b3, ⟨b4, c4⟩⟩ := inv_Pending ok
  have f4 := to_NodeS x4 b4 c4
  rw [lim_fn (f := 130) rfl rfl]
  simp -implicitDefEqProofs only [f4, own, go_sem, reduceIte, Nat.reduceAdd, Nat.reduceEqDiff, Nat.reduceMul, Nat.reduceLeDiff, Nat.reduceBEq, Nat.reduceBNe, Nat.reduceSub, Nat.reduceLT]
theorem to_Store (e : List D) (ok : OkC big (lay 15) e) :
    lim T 131 [.val true (e.map .d)] = some ([.val true (e.map own)], []) := by
  obtain ⟨x0, x1, x2, x3, x4, x5, x6, x7, x8, x9, rfl, ⟨b0, c0⟩, ⟨b1, c1⟩, ⟨b2, c2⟩, _, ⟨b4, c4⟩, _, _, _, b8, ⟨b9, c9⟩⟩ := inv_Store ok
  have f0 := to_SchemaS x0 b0 c0
  have f1 := to_NodeS x1 b1 c1
  have f2 := to_NodeS x2 b2 c2
  have f4 := to_VersionS x4 b4 c4
  have f5 := to_Pending _ (OkC.sub 5 5 ok)
  simp -implicitDefEqProofs only [List.drop_succ_cons, List.drop_zero, List.take_succ_cons, List.take_zero, List.map_cons, List.map_nil, own] at f5
  rw [lim_fn (f := 131) rfl rfl]
  simp -implicitDefEqProofs only [f0, f1, f2, f4, f5, own, go_sem, reduceIte, Nat.reduceAdd, Nat.reduceEqDiff, Nat.reduceMul, Nat.reduceLeDiff, Nat.reduceBEq, Nat.reduceBNe, Nat.reduceSub, Nat.reduceLT]

end Go.Proofs.YtmaigpiappmpcaaGreat
