/-
  What the law FnExactConfirmStore answers: true. Printed by a program of our own.
-/
import Derived.Test.YtmaigpiappmpcaaGreatFTo
import Derived.Test.YtmaigpiappmpcaaGreatFEq
import Derived.Test.YtmaigpiappmpcaaGreatFSz
import Derived.Test.YtmaigpiappmpcaaGreatFHd
import Derived.Test.YtmaigpiappmpcaaGreatFCf
namespace Go.Proofs.YtmaigpiappmpcaaGreat
open Go.RowKit
set_option maxRecDepth 100000
set_option maxHeartbeats 4000000
set_option linter.unusedSimpArgs false
set_option linter.unusedVariables false

theorem law_FnExactConfirmStore (e : List D) (ok : OkC maxLen (lay 15) e) (s : Int) (hb : -9223372036854775808 ≤ s ∧ s ≤ 9223372036854775807) (n : ByteArray) (hn : n.size ≤ maxLen) (t : Int) (ht : -9223372036854775808 ≤ t ∧ t ≤ 9223372036854775807) : run T (limM T) k200 [.val true (e.map .d), .val false [.d (.int .i64 s)], .val false [.d (.str n)], .val false [.d (.int .i64 t)]] = some ([.val false [.d (.bool true)]], []) := by
  have fs := sz_Store e ok 1048576 (by omega) (by omega)
  unfold k200
  refine (run_fn (np := 4) rfl).trans ?_
  rcases pe ((1048576 : Int) < (n.size : Int)) with hx | hx
  · obtain ⟨x0, x1, x2, x3, x4, x5, x6, x7, x8, x9, rfl, _⟩ := inv_Store ok
    simp -implicitDefEqProofs only [hx, List.map_cons, List.map_nil, go_sem, reduceIte, Nat.reduceAdd, Nat.reduceEqDiff, Nat.reduceMul, Nat.reduceLeDiff, Nat.reduceBEq, Nat.reduceBNe, Nat.reduceSub, Nat.reduceLT]
  by_cases h : (szC e : Int) ≤ 1048576
  · rw [szr_pos h] at fs
    have ok' : OkC big (lay 15) e := OkC.small (lay 15) e ok (Nat.le_trans (m := 1048576) (by omega) (by decide))
    have hs : szC e ≤ 1048576 := by omega
    obtain ⟨y0, y1, y2, y3, y4, y5, y6, y7, y8, y9, b, ap, oe, fe, g2, g3⟩ := fn_ConfirmStore e ok' hs s hb n hn t ht
    generalize he : (([.list 19 false y0, .list 3 false y1, .list 3 false y2, .int .i64 y3, .list 3 false y4, .bool y5, .int .i64 y6, .int .i64 y7, .str y8, .list 3 false y9] : List D)) = e' at oe fe
    have g1 := to_Store e ok'
    have g4 := eq_Store e' oe
    have g5 := eq_Store e ok'
    have few : mnA e ≤ 1000000000 := by
      obtain ⟨x0, x1, x2, x3, x4, x5, x6, x7, x8, x9, rfl, ⟨b0, c0⟩, ⟨b1, c1⟩, ⟨b2, c2⟩, i3, ⟨b4, c4⟩, _, i6, i7, b8, ⟨b9, c9⟩⟩ := inv_Store ok
      have n0 := mnE_le 12 x0 c0
      have n1 := mnE_le 2 x1 c1
      have n2 := mnE_le 2 x2 c2
      have n4 := mnE_le 13 x4 c4
      have n9 := mnE_le 2 x9 c9
      simp -implicitDefEqProofs only [szC, D.sz] at hs
      simp -implicitDefEqProofs only [mnA, D.mnA]
      omega
    have g6 := mark_Store e ok' 1 (by omega) (by omega)
    have g7 := mark_Store e' oe 1 (by omega) (by omega)
    have g8 := held_Store e' oe 1 (by omega) (by omega)
    have hn1 : ¬ ((1048576 : Int) - (szC e : Int) < 0) := by omega
    have hn2 : ¬ ((1 : Int) + (mnA e : Int) < 0) := by omega
    have hn3 : ¬ ((1 : Int) + (mnA e' : Int) < 0) := by omega
    generalize (szC e : Int) = z at fs hn1
    generalize (1 : Int) + (mnA e : Int) = z1 at g6 hn2
    generalize (1 : Int) + (mnA e' : Int) = z2 at g7 g8 hn3
    obtain ⟨x0, x1, x2, x3, x4, x5, x6, x7, x8, x9, rfl, _⟩ := inv_Store ok
    subst he
    simp -implicitDefEqProofs only [List.map_cons, List.map_nil, own, mkA, D.mkA, D.mnA, Int.natCast_zero, Int.add_zero] at fs g1 g2 g3 g4 g5 g6 g7 g8 ⊢
    simp -implicitDefEqProofs only [fs, hn1, hn2, hn3, hx, g1, g2, g3, g4, g5, g6, g7, g8, go_sem, reduceIte, Nat.reduceAdd, Nat.reduceEqDiff, Nat.reduceMul, Nat.reduceLeDiff, Nat.reduceBEq, Nat.reduceBNe, Nat.reduceSub, Nat.reduceLT]
  · rw [szr_neg (by omega)] at fs
    have hn : ((-1 : Int) < 0) = True := by simp
    obtain ⟨x0, x1, x2, x3, x4, x5, x6, x7, x8, x9, rfl, _⟩ := inv_Store ok
    simp -implicitDefEqProofs only [List.map_cons, List.map_nil] at fs ⊢
    simp -implicitDefEqProofs only [fs, hn, hx, go_sem, reduceIte, Nat.reduceAdd, Nat.reduceEqDiff, Nat.reduceMul, Nat.reduceLeDiff, Nat.reduceBEq, Nat.reduceBNe, Nat.reduceSub, Nat.reduceLT]

end Go.Proofs.YtmaigpiappmpcaaGreat
