/-
  What ConfirmStore answers, the program's and the reference's: the same. Printed by a program of our own.
-/
import Derived.Test.YtmaigpiappmpcaaGreatFSt
namespace Go.Proofs.YtmaigpiappmpcaaGreat
open Go.RowKit
set_option maxRecDepth 100000
set_option maxHeartbeats 4000000
set_option linter.unusedSimpArgs false
set_option linter.unusedVariables false

theorem OkE.append {B t : Nat} : ∀ {a b : List (List D)}, OkE B t a → OkE B t b → OkE B t (a ++ b)
  | [], _, _, h => h
  | e :: a, b, h, h2 => by simp -implicitDefEqProofs only [OkE] at h; simp -implicitDefEqProofs only [List.cons_append, OkE]; exact ⟨h.1, OkE.append h.2 h2⟩
theorem OkE.drop {B t : Nat} : ∀ (n : Nat) (a : List (List D)), OkE B t a → OkE B t (a.drop n)
  | 0, _, h => by simpa using h
  | n + 1, [], h => by simpa using h
  | n + 1, e :: a, h => by simp -implicitDefEqProofs only [OkE] at h; simpa using OkE.drop n a h.2
theorem mnE_drop_le (es : List (List D)) (i : Nat) : mnE (es.drop i) ≤ mnE es := by
  have := mnE_append (es.take i) (es.drop i)
  rw [List.take_append_drop] at this
  omega
theorem push195A (x0 : List (List D)) (x1 : List (List D)) (x2 : List (List D)) (x3 : Int) (x4 : List (List D)) (x5 : Bool) (x6 : Int) (x7 : Int) (x8 : ByteArray) (x9 : List (List D)) (z : List (List D)) (bz : z.length ≤ big) (cz : OkE big 2 z) (p t : Int) (h4 : x4.length + 1 ≤ 6) :
    lim T 195 [.box [.row (orow 19 false x0), .row (orow 3 false x1), .row (orow 3 false x2), .d (.int .i64 x3), .row (orow 3 false x4), .d (.bool x5), .d (.int .i64 x6), .d (.int .i64 x7), .d (.str x8), .row (orow 3 false x9)], .val false [.d (.list 3 false z)], .val false [.d (.int .i64 p)], .val false [.d (.int .i64 t)]] = some ([], [.box [.row ⟨x0, 19, false, true, true, false⟩, .row ⟨x1, 3, false, true, true, false⟩, .row ⟨x2, 3, false, true, true, false⟩, .d (.int .i64 x3), .row ⟨x4 ++ [[D.list 3 false z, D.int .i64 p, D.int .i64 t]], 3, false, true, true, false⟩, .d (.bool x5), .d (.int .i64 x6), .d (.int .i64 x7), .d (.str x8), .row ⟨x9, 3, false, true, true, false⟩]]) := by
  have k := cp2 z bz cz
  have hr : ((x4.length + 1) * 40 ≤ room ∧ x4.length + 1 ≤ maxLen) = True := by simp [room, maxLen]; omega
  have hlen : (x4 ++ [[D.list 3 false z, D.int .i64 p, D.int .i64 t]]).length = x4.length + 1 := by simp
  have hg : ((6 : Int) < ((x4 ++ [[D.list 3 false z, D.int .i64 p, D.int .i64 t]]).length : Nat)) = False := eq_false (by rw [hlen]; omega)
  rw [lim_fn (f := 195) rfl rfl]
  simp -implicitDefEqProofs only [k, hr, hg, go_sem, reduceIte, Nat.reduceAdd, Nat.reduceEqDiff, Nat.reduceMul, Nat.reduceLeDiff, Nat.reduceBEq, Nat.reduceBNe, Nat.reduceSub, Nat.reduceLT]
theorem push195B (x0 : List (List D)) (x1 : List (List D)) (x2 : List (List D)) (x3 : Int) (x4 : List (List D)) (x5 : Bool) (x6 : Int) (x7 : Int) (x8 : ByteArray) (x9 : List (List D)) (z : List (List D)) (bz : z.length ≤ big) (cz : OkE big 2 z) (p t : Int) (h3 : x4.length ≤ 1048576) (h4 : ¬ (x4.length + 1 ≤ 6)) :
    lim T 195 [.box [.row (orow 19 false x0), .row (orow 3 false x1), .row (orow 3 false x2), .d (.int .i64 x3), .row (orow 3 false x4), .d (.bool x5), .d (.int .i64 x6), .d (.int .i64 x7), .d (.str x8), .row (orow 3 false x9)], .val false [.d (.list 3 false z)], .val false [.d (.int .i64 p)], .val false [.d (.int .i64 t)]] = some ([], [.box [.row ⟨x0, 19, false, true, true, false⟩, .row ⟨x1, 3, false, true, true, false⟩, .row ⟨x2, 3, false, true, true, false⟩, .d (.int .i64 x3), .row ⟨(x4 ++ [[D.list 3 false z, D.int .i64 p, D.int .i64 t]]).drop 1, 3, false, true, false, false⟩, .d (.bool x5), .d (.int .i64 x6), .d (.int .i64 x7), .d (.str x8), .row ⟨x9, 3, false, true, true, false⟩]]) := by
  have k := cp2 z bz cz
  have hr : ((x4.length + 1) * 40 ≤ room ∧ x4.length + 1 ≤ maxLen) = True := by simp [room, maxLen]; omega
  have hlen : (x4 ++ [[D.list 3 false z, D.int .i64 p, D.int .i64 t]]).length = x4.length + 1 := by simp
  have hg : ((6 : Int) < ((x4 ++ [[D.list 3 false z, D.int .i64 p, D.int .i64 t]]).length : Nat)) = True := eq_true (by rw [hlen]; omega)
  have t1 : (1 : Int).toNat = 1 := rfl
  have t2 : ((0 : Int) ≤ 1) = True := eq_true (by omega)
  have t3 : (1 ≤ (x4 ++ [[D.list 3 false z, D.int .i64 p, D.int .i64 t]]).length) = True := eq_true (by rw [hlen]; omega)
  rw [lim_fn (f := 195) rfl rfl]
  simp -implicitDefEqProofs only [k, hr, hg, t1, t2, t3, Nat.le_refl, List.take_length, Option.isNone_some, go_sem, reduceIte, Nat.reduceAdd, Nat.reduceEqDiff, Nat.reduceMul, Nat.reduceLeDiff, Nat.reduceBEq, Nat.reduceBNe, Nat.reduceSub, Nat.reduceLT]
theorem push198A (x0 : List (List D)) (x1 : List (List D)) (x2 : List (List D)) (x3 : Int) (x4 : List (List D)) (x5 : Bool) (x6 : Int) (x7 : Int) (x8 : ByteArray) (x9 : List (List D)) (z : List (List D)) (bz : z.length ≤ big) (cz : OkE big 2 z) (p t : Int) (h4 : x4.length + 1 ≤ 6) :
    lim T 198 [.box [.row (orow 19 false x0), .row (orow 3 false x1), .row (orow 3 false x2), .d (.int .i64 x3), .row (orow 3 false x4), .d (.bool x5), .d (.int .i64 x6), .d (.int .i64 x7), .d (.str x8), .row (orow 3 false x9)], .val false [.d (.list 3 false z)], .val false [.d (.int .i64 p)], .val false [.d (.int .i64 t)]] = some ([], [.box [.row ⟨x0, 19, false, true, true, false⟩, .row ⟨x1, 3, false, true, true, false⟩, .row ⟨x2, 3, false, true, true, false⟩, .d (.int .i64 x3), .row ⟨x4 ++ [[D.list 3 false z, D.int .i64 p, D.int .i64 t]], 3, false, true, true, false⟩, .d (.bool x5), .d (.int .i64 x6), .d (.int .i64 x7), .d (.str x8), .row ⟨x9, 3, false, true, true, false⟩]]) := by
  have k := cp1 z bz cz
  have hr : ((x4.length + 1) * 40 ≤ room ∧ x4.length + 1 ≤ maxLen) = True := by simp [room, maxLen]; omega
  have hlen : (x4 ++ [[D.list 3 false z, D.int .i64 p, D.int .i64 t]]).length = x4.length + 1 := by simp
  have hg : ((6 : Int) < ((x4 ++ [[D.list 3 false z, D.int .i64 p, D.int .i64 t]]).length : Nat)) = False := eq_false (by rw [hlen]; omega)
  rw [lim_fn (f := 198) rfl rfl]
  simp -implicitDefEqProofs only [k, hr, hg, go_sem, reduceIte, Nat.reduceAdd, Nat.reduceEqDiff, Nat.reduceMul, Nat.reduceLeDiff, Nat.reduceBEq, Nat.reduceBNe, Nat.reduceSub, Nat.reduceLT]
theorem push198B (x0 : List (List D)) (x1 : List (List D)) (x2 : List (List D)) (x3 : Int) (x4 : List (List D)) (x5 : Bool) (x6 : Int) (x7 : Int) (x8 : ByteArray) (x9 : List (List D)) (z : List (List D)) (bz : z.length ≤ big) (cz : OkE big 2 z) (p t : Int) (h3 : x4.length ≤ 1048576) (h4 : ¬ (x4.length + 1 ≤ 6)) :
    lim T 198 [.box [.row (orow 19 false x0), .row (orow 3 false x1), .row (orow 3 false x2), .d (.int .i64 x3), .row (orow 3 false x4), .d (.bool x5), .d (.int .i64 x6), .d (.int .i64 x7), .d (.str x8), .row (orow 3 false x9)], .val false [.d (.list 3 false z)], .val false [.d (.int .i64 p)], .val false [.d (.int .i64 t)]] = some ([], [.box [.row ⟨x0, 19, false, true, true, false⟩, .row ⟨x1, 3, false, true, true, false⟩, .row ⟨x2, 3, false, true, true, false⟩, .d (.int .i64 x3), .row ⟨(x4 ++ [[D.list 3 false z, D.int .i64 p, D.int .i64 t]]).drop 1, 3, false, true, false, false⟩, .d (.bool x5), .d (.int .i64 x6), .d (.int .i64 x7), .d (.str x8), .row ⟨x9, 3, false, true, true, false⟩]]) := by
  have k := cp1 z bz cz
  have hr : ((x4.length + 1) * 40 ≤ room ∧ x4.length + 1 ≤ maxLen) = True := by simp [room, maxLen]; omega
  have hlen : (x4 ++ [[D.list 3 false z, D.int .i64 p, D.int .i64 t]]).length = x4.length + 1 := by simp
  have hg : ((6 : Int) < ((x4 ++ [[D.list 3 false z, D.int .i64 p, D.int .i64 t]]).length : Nat)) = True := eq_true (by rw [hlen]; omega)
  have t1 : (1 : Int).toNat = 1 := rfl
  have t2 : ((0 : Int) ≤ 1) = True := eq_true (by omega)
  have t3 : (1 ≤ (x4 ++ [[D.list 3 false z, D.int .i64 p, D.int .i64 t]]).length) = True := eq_true (by rw [hlen]; omega)
  rw [lim_fn (f := 198) rfl rfl]
  simp -implicitDefEqProofs only [k, hr, hg, t1, t2, t3, Nat.le_refl, List.take_length, Option.isNone_some, go_sem, reduceIte, Nat.reduceAdd, Nat.reduceEqDiff, Nat.reduceMul, Nat.reduceLeDiff, Nat.reduceBEq, Nat.reduceBNe, Nat.reduceSub, Nat.reduceLT]
theorem fn_ConfirmStore (e : List D) (ok : OkC big (lay 15) e) (hs : szC e ≤ 1048576) (s : Int) (hb : -9223372036854775808 ≤ s ∧ s ≤ 9223372036854775807) (n : ByteArray) (hn : n.size ≤ maxLen) (t : Int) (ht : -9223372036854775808 ≤ t ∧ t ≤ 9223372036854775807) :
    ∃ y0 y1 y2 y3 y4 y5 y6 y7 y8 y9 b ap, OkC big (lay 15) [.list 19 false y0, .list 3 false y1, .list 3 false y2, .int .i64 y3, .list 3 false y4, .bool y5, .int .i64 y6, .int .i64 y7, .str y8, .list 3 false y9] ∧ mnA [.list 19 false y0, .list 3 false y1, .list 3 false y2, .int .i64 y3, .list 3 false y4, .bool y5, .int .i64 y6, .int .i64 y7, .str y8, .list 3 false y9] ≤ 1000000000 ∧ lim T 196 [.val true (e.map .d), .val false [.d (.int .i64 s)], .val false [.d (.str n)], .val false [.d (.int .i64 t)]] = some ([.val true [.row (orow 19 false y0), .row (orow 3 false y1), .row (orow 3 false y2), .d (.int .i64 y3), .row ⟨y4, 3, false, true, ap, false⟩, .d (.bool y5), .d (.int .i64 y6), .d (.int .i64 y7), .d (.str y8), .row (orow 3 false y9)], .val false [.d (.bool b)]], []) ∧ lim T 199 [.val true (e.map .d), .val false [.d (.int .i64 s)], .val false [.d (.str n)], .val false [.d (.int .i64 t)]] = some ([.val true [.row (orow 19 false y0), .row (orow 3 false y1), .row (orow 3 false y2), .d (.int .i64 y3), .row ⟨y4, 3, false, true, ap, false⟩, .d (.bool y5), .d (.int .i64 y6), .d (.int .i64 y7), .d (.str y8), .row (orow 3 false y9)], .val false [.d (.bool b)]], []) := by
  have cs := cp133 e ok
  have ci := cp142 e ok
  have m1 := fun x5 x6 x7 x8 x9 => kn186 x5 x6 x7 x8 x9 s n
  have m2 := fun x0 x1 x2 x3 x4 x5 x6 x7 x8 x9 => kn188 x0 x1 x2 x3 x4 x5 x6 x7 x8 x9 s n
  obtain ⟨x0, x1, x2, x3, x4, x5, x6, x7, x8, x9, rfl, ⟨b0, c0⟩, ⟨b1, c1⟩, ⟨b2, c2⟩, i3, ⟨b4, c4⟩, _, i6, i7, b8, ⟨b9, c9⟩⟩ := inv_Store ok
  have n0 := mnE_le 12 x0 c0
  have n1 := mnE_le 2 x1 c1
  have n2 := mnE_le 2 x2 c2
  have n4 := mnE_le 13 x4 c4
  have n9 := mnE_le 2 x9 c9
  simp -implicitDefEqProofs only [szC, D.sz] at hs
  have l4 : x4.length ≤ 1048576 := by omega
  have w1 := same194 x9 x1 b9 c9 b1 c1
  have w2 := same197 x9 x1 b9 c9 b1 c1
  simp -implicitDefEqProofs only [List.map_cons, List.map_nil, own] at *
  rcases pe (s < 1) with h1 | h1
  · refine ⟨x0, x1, x2, x3, x4, x5, x6, x7, x8, x9, false, true, ok_store b0 c0 b1 c1 b2 c2 i3 b4 c4 i6 i7 b8 b9 c9, (by simp -implicitDefEqProofs only [mnA, D.mnA, mnE]; omega), ?_, ?_⟩
    · rw [lim_fn (f := 196) rfl rfl]; simp -implicitDefEqProofs only [cs, ci, h1, own, List.map_cons, List.map_nil, go_sem, reduceIte, Nat.reduceAdd, Nat.reduceEqDiff, Nat.reduceMul, Nat.reduceLeDiff, Nat.reduceBEq, Nat.reduceBNe, Nat.reduceSub, Nat.reduceLT]
    · rw [lim_fn (f := 199) rfl rfl]; simp -implicitDefEqProofs only [cs, ci, h1, own, List.map_cons, List.map_nil, go_sem, reduceIte, Nat.reduceAdd, Nat.reduceEqDiff, Nat.reduceMul, Nat.reduceLeDiff, Nat.reduceBEq, Nat.reduceBNe, Nat.reduceSub, Nat.reduceLT]
  cases x5
  · refine ⟨x0, x1, x2, x3, x4, false, x6, x7, x8, x9, false, true, ok_store b0 c0 b1 c1 b2 c2 i3 b4 c4 i6 i7 b8 b9 c9, (by simp -implicitDefEqProofs only [mnA, D.mnA, mnE]; omega), ?_, ?_⟩
    · rw [lim_fn (f := 196) rfl rfl]; simp -implicitDefEqProofs only [cs, ci, h1, own, List.map_cons, List.map_nil, go_sem, reduceIte, Nat.reduceAdd, Nat.reduceEqDiff, Nat.reduceMul, Nat.reduceLeDiff, Nat.reduceBEq, Nat.reduceBNe, Nat.reduceSub, Nat.reduceLT]
    · rw [lim_fn (f := 199) rfl rfl]; simp -implicitDefEqProofs only [cs, ci, h1, own, List.map_cons, List.map_nil, go_sem, reduceIte, Nat.reduceAdd, Nat.reduceEqDiff, Nat.reduceMul, Nat.reduceLeDiff, Nat.reduceBEq, Nat.reduceBNe, Nat.reduceSub, Nat.reduceLT]
  cases hw : knows x8 x7 s n
  · refine ⟨x0, x1, x2, x3, x4, true, x6, x7, x8, x9, false, true, ok_store b0 c0 b1 c1 b2 c2 i3 b4 c4 i6 i7 b8 b9 c9, (by simp -implicitDefEqProofs only [mnA, D.mnA, mnE]; omega), ?_, ?_⟩
    · rw [lim_fn (f := 196) rfl rfl]; simp -implicitDefEqProofs only [cs, ci, h1, m1, m2, hw, own, List.map_cons, List.map_nil, go_sem, reduceIte, Nat.reduceAdd, Nat.reduceEqDiff, Nat.reduceMul, Nat.reduceLeDiff, Nat.reduceBEq, Nat.reduceBNe, Nat.reduceSub, Nat.reduceLT]
    · rw [lim_fn (f := 199) rfl rfl]; simp -implicitDefEqProofs only [cs, ci, h1, m1, m2, hw, own, List.map_cons, List.map_nil, go_sem, reduceIte, Nat.reduceAdd, Nat.reduceEqDiff, Nat.reduceMul, Nat.reduceLeDiff, Nat.reduceBEq, Nat.reduceBNe, Nat.reduceSub, Nat.reduceLT]
  cases hS : sameD x9 x1
  · have ov : OkE big 13 [[D.list 3 false x9, D.int .i64 x7, D.int .i64 t]] := by
      simp -implicitDefEqProofs only [OkE, lay, OkC, Ok]
      exact ⟨⟨⟨rfl, rfl, b9, c9⟩, ⟨trivial, i7⟩, ⟨trivial, ht⟩, trivial⟩, trivial⟩
    have oa := OkE.append c4 ov
    have nv := mnE_append x4 [[D.list 3 false x9, D.int .i64 x7, D.int .i64 t]]
    have nd := mnE_drop_le (x4 ++ [[D.list 3 false x9, D.int .i64 x7, D.int .i64 t]]) 1
    simp -implicitDefEqProofs only [mnE, mnC, D.mn] at nv
    by_cases h4 : x4.length + 1 ≤ 6
    · have p1 := fun x0 x1 x2 x3 x5 x6 x8 y9 => push195A x0 x1 x2 x3 x4 x5 x6 x7 x8 y9 x9 b9 c9 x7 t h4
      have p2 := fun x0 x1 x2 x3 x5 x6 x8 y9 => push198A x0 x1 x2 x3 x4 x5 x6 x7 x8 y9 x9 b9 c9 x7 t h4
      refine ⟨x0, x1, x2, x3, (x4 ++ [[D.list 3 false x9, D.int .i64 x7, D.int .i64 t]]), false, 0, 0, ⟨#[]⟩, [], true, true, ok_store b0 c0 b1 c1 b2 c2 i3 (by simp [big]; omega) oa ⟨by omega, by omega⟩ ⟨by omega, by omega⟩ (Nat.zero_le _) (Nat.zero_le _) trivial, (by simp -implicitDefEqProofs only [mnA, D.mnA, mnE]; omega), ?_, ?_⟩
      · rw [lim_fn (f := 196) rfl rfl]; simp -implicitDefEqProofs only [cs, ci, h1, m1, m2, hw, w1, w2, hS, p1, p2, own, List.map_cons, List.map_nil, go_sem, reduceIte, Nat.reduceAdd, Nat.reduceEqDiff, Nat.reduceMul, Nat.reduceLeDiff, Nat.reduceBEq, Nat.reduceBNe, Nat.reduceSub, Nat.reduceLT]
      · rw [lim_fn (f := 199) rfl rfl]; simp -implicitDefEqProofs only [cs, ci, h1, m1, m2, hw, w1, w2, hS, p1, p2, own, List.map_cons, List.map_nil, go_sem, reduceIte, Nat.reduceAdd, Nat.reduceEqDiff, Nat.reduceMul, Nat.reduceLeDiff, Nat.reduceBEq, Nat.reduceBNe, Nat.reduceSub, Nat.reduceLT]
    · have p1 := fun x0 x1 x2 x3 x5 x6 x8 y9 => push195B x0 x1 x2 x3 x4 x5 x6 x7 x8 y9 x9 b9 c9 x7 t l4 h4
      have p2 := fun x0 x1 x2 x3 x5 x6 x8 y9 => push198B x0 x1 x2 x3 x4 x5 x6 x7 x8 y9 x9 b9 c9 x7 t l4 h4
      refine ⟨x0, x1, x2, x3, ((x4 ++ [[D.list 3 false x9, D.int .i64 x7, D.int .i64 t]]).drop 1), false, 0, 0, ⟨#[]⟩, [], true, false, ok_store b0 c0 b1 c1 b2 c2 i3 (by simp [big]; omega) (OkE.drop 1 _ oa) ⟨by omega, by omega⟩ ⟨by omega, by omega⟩ (Nat.zero_le _) (Nat.zero_le _) trivial, (by simp -implicitDefEqProofs only [mnA, D.mnA, mnE]; omega), ?_, ?_⟩
      · rw [lim_fn (f := 196) rfl rfl]; simp -implicitDefEqProofs only [cs, ci, h1, m1, m2, hw, w1, w2, hS, p1, p2, own, List.map_cons, List.map_nil, go_sem, reduceIte, Nat.reduceAdd, Nat.reduceEqDiff, Nat.reduceMul, Nat.reduceLeDiff, Nat.reduceBEq, Nat.reduceBNe, Nat.reduceSub, Nat.reduceLT]
      · rw [lim_fn (f := 199) rfl rfl]; simp -implicitDefEqProofs only [cs, ci, h1, m1, m2, hw, w1, w2, hS, p1, p2, own, List.map_cons, List.map_nil, go_sem, reduceIte, Nat.reduceAdd, Nat.reduceEqDiff, Nat.reduceMul, Nat.reduceLeDiff, Nat.reduceBEq, Nat.reduceBNe, Nat.reduceSub, Nat.reduceLT]
  · refine ⟨x0, x1, x2, x3, x4, false, 0, 0, ⟨#[]⟩, [], true, true, ok_store b0 c0 b1 c1 b2 c2 i3 b4 c4 ⟨by omega, by omega⟩ ⟨by omega, by omega⟩ (Nat.zero_le _) (Nat.zero_le _) trivial, (by simp -implicitDefEqProofs only [mnA, D.mnA, mnE]; omega), ?_, ?_⟩
    · rw [lim_fn (f := 196) rfl rfl]; simp -implicitDefEqProofs only [cs, ci, h1, m1, m2, hw, w1, w2, hS, own, List.map_cons, List.map_nil, go_sem, reduceIte, Nat.reduceAdd, Nat.reduceEqDiff, Nat.reduceMul, Nat.reduceLeDiff, Nat.reduceBEq, Nat.reduceBNe, Nat.reduceSub, Nat.reduceLT]
    · rw [lim_fn (f := 199) rfl rfl]; simp -implicitDefEqProofs only [cs, ci, h1, m1, m2, hw, w1, w2, hS, own, List.map_cons, List.map_nil, go_sem, reduceIte, Nat.reduceAdd, Nat.reduceEqDiff, Nat.reduceMul, Nat.reduceLeDiff, Nat.reduceBEq, Nat.reduceBNe, Nat.reduceSub, Nat.reduceLT]

end Go.Proofs.YtmaigpiappmpcaaGreat
