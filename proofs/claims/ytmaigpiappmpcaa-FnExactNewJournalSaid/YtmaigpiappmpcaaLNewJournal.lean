/-
  What the law FnExactNewJournal answers: true.
-/
import Derived.Test.YtmaigpiappmpcaaFTo
import Derived.Test.YtmaigpiappmpcaaFEq
import Derived.Test.YtmaigpiappmpcaaFSz
import Derived.Test.YtmaigpiappmpcaaFHd
import Derived.Test.YtmaigpiappmpcaaFCp
namespace Go.Proofs.Ytmaigpiappmpcaa
open Go.RowKit
set_option maxRecDepth 100000
set_option maxHeartbeats 4000000
set_option linter.unusedSimpArgs false
set_option linter.unusedVariables false
theorem nj7 (es : List (List D)) (hB : es.length ≤ big) (ok : OkE big 2 es) : lim T 7 [.val false [.d (.list 3 false es)]] = some ([.val true [.row (orow 3 false es), .row (orow 3 false [])]], []) := by
  have f := cp2 es hB ok
  rw [lim_fn (f := 7) rfl rfl]
  simp -implicitDefEqProofs only [f, go_sem, reduceIte, Nat.reduceAdd, Nat.reduceEqDiff, Nat.reduceMul, Nat.reduceLeDiff, Nat.reduceBEq, Nat.reduceBNe, Nat.reduceSub, Nat.reduceLT]
theorem nj8 (es : List (List D)) (hB : es.length ≤ big) (ok : OkE big 2 es) : lim T 8 [.val false [.d (.list 3 false es)]] = some ([.val true [.row (orow 3 false es), .row (orow 3 false [])]], []) := by
  have f := cp1 es hB ok
  rw [lim_fn (f := 8) rfl rfl]
  simp -implicitDefEqProofs only [f, go_sem, reduceIte, Nat.reduceAdd, Nat.reduceEqDiff, Nat.reduceMul, Nat.reduceLeDiff, Nat.reduceBEq, Nat.reduceBNe, Nat.reduceSub, Nat.reduceLT]
theorem law_FnExactNewJournal (es : List (List D)) (hB : es.length ≤ maxLen) (ok : OkE maxLen 2 es) : run T (limM T) k25 [.val false [.d (.list 3 false es)]] = some ([.val false [.d (.bool true)]], []) := by
  have fs := sz_NodeS es hB ok 1048576 (by omega) (by omega)
  unfold k25
  refine (run_fn (np := 1) rfl).trans ?_
  by_cases h : ((es.length + szE es : Nat) : Int) ≤ 1048576
  · rw [szr_pos h] at fs
    have hn : ¬ ((1048576 : Int) - ((es.length + szE es : Nat) : Int) < 0) := by omega
    have ok' : OkE big 2 es := OkE.small 2 es ok (Nat.le_trans (m := 1048576) (by omega) (by decide))
    have hB' : es.length ≤ big := Nat.le_trans (m := 1048576) (by omega) (by decide)
    have mn := mnE_le 2 es ok
    have oj : OkC big (lay 5) [.list 3 false es, .list 3 false []] := by
      simp only [lay, OkC, Ok, OkE]
      exact ⟨⟨rfl, rfl, hB', ok'⟩, ⟨rfl, rfl, Nat.zero_le _, trivial⟩, trivial⟩
    have g1 := to_NodeS es hB' ok'
    have g2 := nj7 es hB' ok'
    have g3 := nj8 es hB' ok'
    have g4 := eq_Journal _ oj
    have g5 := eq_NodeS es hB' ok'
    have g6 := mark_NodeS es hB' ok' 1 (by omega) (by omega)
    have g7 := mark_Journal _ oj 1 (by omega) (by simp only [mnA, D.mnA, mnE]; omega)
    have g8 := held_Journal _ oj 1 (by omega) (by simp only [mnA, D.mnA, mnE]; omega)
    simp only [List.map_cons, List.map_nil, mkA, D.mkA, mnA, D.mnA, mkE, mnE, Nat.add_zero] at g4 g7 g8
    have n1 : ¬ ((1 : Int) + (mnE es : Int) < 0) := by omega
    simp -implicitDefEqProofs only [fs, hn, g1, g2, g3, g4, g5, g6, g7, g8, n1, go_sem, reduceIte, Nat.reduceAdd, Nat.reduceEqDiff, Nat.reduceMul, Nat.reduceLeDiff, Nat.reduceBEq, Nat.reduceBNe, Nat.reduceSub, Nat.reduceLT]
  · rw [szr_neg (by omega)] at fs
    have hn : ((-1 : Int) < 0) = True := by simp
    simp -implicitDefEqProofs only [fs, hn, go_sem, reduceIte, Nat.reduceAdd, Nat.reduceEqDiff, Nat.reduceMul, Nat.reduceLeDiff, Nat.reduceBEq, Nat.reduceBNe, Nat.reduceSub, Nat.reduceLT]
end Go.Proofs.Ytmaigpiappmpcaa
