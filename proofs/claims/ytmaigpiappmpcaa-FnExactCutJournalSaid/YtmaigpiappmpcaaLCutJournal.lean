/-
  What the law FnExactCutJournal answers: true. Printed by a program of our own.
-/
import Derived.Test.YtmaigpiappmpcaaFTo
import Derived.Test.YtmaigpiappmpcaaFEq
import Derived.Test.YtmaigpiappmpcaaFSz
import Derived.Test.YtmaigpiappmpcaaFHd
import Derived.Test.YtmaigpiappmpcaaFCp
namespace Go.Proofs.Ytmaigpiappmpcaa
open Go.RowKit
set_option maxRecDepth 100000
set_option maxHeartbeats 4000000
set_option linter.unusedSimpArgs false
set_option linter.unusedVariables false

theorem pe (p : Prop) : p = True ∨ p = False := by by_cases h : p <;> simp [h]
theorem OkE.take {B t : Nat} : ∀ (n : Nat) (a : List (List D)), OkE B t a → OkE B t (a.take n)
  | 0, _, h => by simp [OkE]
  | n + 1, [], h => by simpa using h
  | n + 1, e :: a, h => by simp -implicitDefEqProofs only [OkE] at h; simp -implicitDefEqProofs only [List.take_succ_cons, OkE]; exact ⟨h.1, OkE.take n a h.2⟩
theorem mn38 (a b : Int) : lim T 38 [.val false [.d (.int .i64 a)], .val false [.d (.int .i64 b)]] = some ([.val false [.d (.int .i64 (if b < a then b else a))]], []) := by
  rw [lim_fn (f := 38) rfl rfl]
  rcases pe (b < a) with h | h <;> simp -implicitDefEqProofs only [h, go_sem, reduceIte, Nat.reduceAdd, Nat.reduceEqDiff, Nat.reduceMul, Nat.reduceLeDiff, Nat.reduceBEq, Nat.reduceBNe, Nat.reduceSub, Nat.reduceLT]
theorem mx39 (a b : Int) : lim T 39 [.val false [.d (.int .i64 a)], .val false [.d (.int .i64 b)]] = some ([.val false [.d (.int .i64 (if a < b then b else a))]], []) := by
  rw [lim_fn (f := 39) rfl rfl]
  rcases pe (a < b) with h | h <;> simp -implicitDefEqProofs only [h, go_sem, reduceIte, Nat.reduceAdd, Nat.reduceEqDiff, Nat.reduceMul, Nat.reduceLeDiff, Nat.reduceBEq, Nat.reduceBNe, Nat.reduceSub, Nat.reduceLT]
theorem fn_Cut (x0 x1 : List (List D)) (ok : OkC big (lay 5) [.list 3 false x0, .list 3 false x1]) (n : Int) : ∃ m : Nat, lim T 40 [.val true ([D.list 3 false x0, D.list 3 false x1].map .d), .val false [.d (.int .i64 n)]] = some ([.val true [.row (orow 3 false x0), .row (orow 3 false (x1.take m))]], []) ∧ lim T 43 [.val true ([D.list 3 false x0, D.list 3 false x1].map .d), .val false [.d (.int .i64 n)]] = some ([.val true [.row (orow 3 false x0), .row (orow 3 false (x1.take m))]], []) := by
  have f1 := cp37 _ ok
  have f2 := cp42 _ ok
  have z0 : (0 : Int).toNat = 0 := rfl
  have z1 : ((0 : Int) ≤ 0) = True := eq_true (by omega)
  have z2 : ((0 : Int) < 0) = False := eq_false (by omega)
  simp -implicitDefEqProofs only [List.map_cons, List.map_nil, own] at *
  rcases pe ((x1.length : Int) < n) with h1 | h1
  · rcases pe ((0 : Int) < (x1.length : Int)) with h2 | h2
    · refine ⟨x1.length, ?_, ?_⟩
      · rw [lim_fn (f := 40) rfl rfl]; simp -implicitDefEqProofs only [f1, f2, mn38, mx39, z0, z1, z2, h1, h2, Int.natCast_nonneg, Nat.le_refl, List.take_length, Nat.zero_le, Option.isNone_none, Int.toNat_natCast, go_sem, reduceIte, Nat.reduceAdd, Nat.reduceEqDiff, Nat.reduceMul, Nat.reduceLeDiff, Nat.reduceBEq, Nat.reduceBNe, Nat.reduceSub, Nat.reduceLT]
      · rw [lim_fn (f := 43) rfl rfl]; simp -implicitDefEqProofs only [f1, f2, mn38, mx39, z0, z1, z2, h1, h2, Int.natCast_nonneg, Nat.le_refl, List.take_length, Nat.zero_le, Option.isNone_none, Int.toNat_natCast, go_sem, reduceIte, Nat.reduceAdd, Nat.reduceEqDiff, Nat.reduceMul, Nat.reduceLeDiff, Nat.reduceBEq, Nat.reduceBNe, Nat.reduceSub, Nat.reduceLT]
    · have h3 : x1.length = 0 := by simp at h2; simp [h2]
      have h4 : ((0 : Int) < ((0 : Nat) : Int)) = False := eq_false (by omega)
      refine ⟨0, ?_, ?_⟩
      · rw [lim_fn (f := 40) rfl rfl]; simp -implicitDefEqProofs only [f1, f2, mn38, mx39, z0, z1, z2, h1, h2, List.take_zero, Nat.zero_le, Option.isNone_none, Int.toNat_natCast, go_sem, reduceIte, Nat.reduceAdd, Nat.reduceEqDiff, Nat.reduceMul, Nat.reduceLeDiff, Nat.reduceBEq, Nat.reduceBNe, Nat.reduceSub, Nat.reduceLT]
      · rw [lim_fn (f := 43) rfl rfl]; simp -implicitDefEqProofs only [f1, f2, mn38, mx39, z0, z1, z2, h1, h2, List.take_zero, Nat.zero_le, Option.isNone_none, Int.toNat_natCast, go_sem, reduceIte, Nat.reduceAdd, Nat.reduceEqDiff, Nat.reduceMul, Nat.reduceLeDiff, Nat.reduceBEq, Nat.reduceBNe, Nat.reduceSub, Nat.reduceLT]
  · rcases pe ((0 : Int) < n) with h2 | h2
    · have q0 : 0 < n := of_eq_true h2
      have q9 : ¬ (x1.length : Int) < n := by rw [h1]; simp
      have q1 : (0 ≤ n) = True := eq_true (by omega)
      have q2 : (n.toNat ≤ x1.length) = True := eq_true (by omega)
      refine ⟨n.toNat, ?_, ?_⟩
      · rw [lim_fn (f := 40) rfl rfl]; simp -implicitDefEqProofs only [f1, f2, mn38, mx39, z0, z1, z2, h1, h2, q1, q2, Nat.zero_le, Option.isNone_none, Int.toNat_natCast, go_sem, reduceIte, Nat.reduceAdd, Nat.reduceEqDiff, Nat.reduceMul, Nat.reduceLeDiff, Nat.reduceBEq, Nat.reduceBNe, Nat.reduceSub, Nat.reduceLT]
      · rw [lim_fn (f := 43) rfl rfl]; simp -implicitDefEqProofs only [f1, f2, mn38, mx39, z0, z1, z2, h1, h2, q1, q2, Nat.zero_le, Option.isNone_none, Int.toNat_natCast, go_sem, reduceIte, Nat.reduceAdd, Nat.reduceEqDiff, Nat.reduceMul, Nat.reduceLeDiff, Nat.reduceBEq, Nat.reduceBNe, Nat.reduceSub, Nat.reduceLT]
    · refine ⟨0, ?_, ?_⟩
      · rw [lim_fn (f := 40) rfl rfl]; simp -implicitDefEqProofs only [f1, f2, mn38, mx39, z0, z1, z2, h1, h2, List.take_zero, Nat.zero_le, Option.isNone_none, Int.toNat_natCast, go_sem, reduceIte, Nat.reduceAdd, Nat.reduceEqDiff, Nat.reduceMul, Nat.reduceLeDiff, Nat.reduceBEq, Nat.reduceBNe, Nat.reduceSub, Nat.reduceLT]
      · rw [lim_fn (f := 43) rfl rfl]; simp -implicitDefEqProofs only [f1, f2, mn38, mx39, z0, z1, z2, h1, h2, List.take_zero, Nat.zero_le, Option.isNone_none, Int.toNat_natCast, go_sem, reduceIte, Nat.reduceAdd, Nat.reduceEqDiff, Nat.reduceMul, Nat.reduceLeDiff, Nat.reduceBEq, Nat.reduceBNe, Nat.reduceSub, Nat.reduceLT]
theorem law_FnExactCutJournal (e : List D) (ok : OkC maxLen (lay 5) e) (n : Int) (hn : -9223372036854775808 ≤ n ∧ n ≤ 9223372036854775807) : run T (limM T) k44 [.val true (e.map .d), .val false [.d (.int .i64 n)]] = some ([.val false [.d (.bool true)]], []) := by
  have fs := sz_Journal e ok 1048576 (by omega) (by omega)
  unfold k44
  refine (run_fn (np := 2) rfl).trans ?_
  obtain ⟨x0, x1, rfl, ⟨b0, c0⟩, ⟨b1, c1⟩⟩ := inv_Journal ok
  by_cases h : (szC [D.list 3 false x0, D.list 3 false x1] : Int) ≤ 1048576
  · rw [szr_pos h] at fs
    have ok' : OkC big (lay 5) [D.list 3 false x0, D.list 3 false x1] := OkC.small (lay 5) _ ok (Nat.le_trans (m := 1048576) (by omega) (by decide))
    obtain ⟨_, _, he, ⟨d0, q0⟩, ⟨d1, q1⟩⟩ := inv_Journal ok'
    simp -implicitDefEqProofs only [List.cons.injEq, D.list.injEq, true_and, and_true] at he
    obtain ⟨rfl, rfl⟩ := he
    obtain ⟨m, g2, g3⟩ := fn_Cut x0 x1 ok' n
    have oe : OkC big (lay 5) [D.list 3 false x0, D.list 3 false (x1.take m)] := by
      simp -implicitDefEqProofs only [lay, OkC, Ok]
      exact ⟨⟨rfl, rfl, d0, q0⟩, ⟨rfl, rfl, by simp -implicitDefEqProofs only [List.length_take]; omega, OkE.take m x1 q1⟩, trivial⟩
    have n0 := mnE_le 2 x0 c0
    have n1 := mnE_le 4 x1 c1
    have n2 := mnE_take_le x1 m
    have hs := h
    simp -implicitDefEqProofs only [szC, D.sz] at hs
    have few : mnA [D.list 3 false x0, D.list 3 false x1] ≤ 1000000000 := by simp -implicitDefEqProofs only [mnA, D.mnA]; omega
    have few2 : mnA [D.list 3 false x0, D.list 3 false (x1.take m)] ≤ 1000000000 := by simp -implicitDefEqProofs only [mnA, D.mnA]; omega
    have g1 := to_Journal _ ok'
    have g4 := eq_Journal _ oe
    have g5 := eq_Journal _ ok'
    have g6 := mark_Journal _ ok' 1 (by omega) (by omega)
    have g7 := mark_Journal _ oe 1 (by omega) (by omega)
    have g8 := held_Journal _ oe 1 (by omega) (by omega)
    have hn1 : ¬ ((1048576 : Int) - (szC [D.list 3 false x0, D.list 3 false x1] : Int) < 0) := by omega
    have hn2 : ¬ ((1 : Int) + (mnA [D.list 3 false x0, D.list 3 false x1] : Int) < 0) := by omega
    have hn3 : ¬ ((1 : Int) + (mnA [D.list 3 false x0, D.list 3 false (x1.take m)] : Int) < 0) := by omega
    generalize (szC [D.list 3 false x0, D.list 3 false x1] : Int) = z at fs hn1
    generalize (1 : Int) + (mnA [D.list 3 false x0, D.list 3 false x1] : Int) = z1 at g6 hn2
    generalize (1 : Int) + (mnA [D.list 3 false x0, D.list 3 false (x1.take m)] : Int) = z2 at g7 g8 hn3
    simp -implicitDefEqProofs only [List.map_cons, List.map_nil, own, mkA, D.mkA, D.mnA, Int.natCast_zero, Int.add_zero] at fs g1 g2 g3 g4 g5 g6 g7 g8 ⊢
    simp -implicitDefEqProofs only [fs, hn1, hn2, hn3, g1, g2, g3, g4, g5, g6, g7, g8, go_sem, reduceIte, Nat.reduceAdd, Nat.reduceEqDiff, Nat.reduceMul, Nat.reduceLeDiff, Nat.reduceBEq, Nat.reduceBNe, Nat.reduceSub, Nat.reduceLT]
  · rw [szr_neg (by omega)] at fs
    have hx : ((-1 : Int) < 0) = True := by simp
    simp -implicitDefEqProofs only [List.map_cons, List.map_nil] at fs ⊢
    simp -implicitDefEqProofs only [fs, hx, go_sem, reduceIte, Nat.reduceAdd, Nat.reduceEqDiff, Nat.reduceMul, Nat.reduceLeDiff, Nat.reduceBEq, Nat.reduceBNe, Nat.reduceSub, Nat.reduceLT]

end Go.Proofs.Ytmaigpiappmpcaa
