/-
  What the functions of stores answer, the program's and the reference's: the same. Printed by a program of our own.
-/
import Derived.Test.YtmaigpiappmpcaaFCp
import Derived.Test.YtmaigpiappmpcaaKSM
namespace Go.Proofs.Ytmaigpiappmpcaa
open Go.RowKit
set_option maxRecDepth 100000
set_option maxHeartbeats 4000000
set_option linter.unusedSimpArgs false
set_option linter.unusedVariables false

theorem szE_nth {es : List (List D)} {i : Nat} {e : List D} (h : nth es i = some e) : szC e ≤ szE es := by
  have h1 := szE_take_succ h
  have h2 := szE_take_le es (i + 1)
  omega
theorem pe (p : Prop) : p = True ∨ p = False := by by_cases h : p <;> simp [h]
theorem ok_store {x0 x1 x2 : List (List D)} {x3 : Int} {x4 : List (List D)} {x5 : Bool} {x6 x7 : Int} {x8 : ByteArray} {x9 : List (List D)} (b0 : x0.length ≤ big) (c0 : OkE big 12 x0) (b1 : x1.length ≤ big) (c1 : OkE big 2 x1) (b2 : x2.length ≤ big) (c2 : OkE big 2 x2) (i3 : -9223372036854775808 ≤ x3 ∧ x3 ≤ 9223372036854775807) (b4 : x4.length ≤ big) (c4 : OkE big 13 x4) (i6 : -9223372036854775808 ≤ x6 ∧ x6 ≤ 9223372036854775807) (i7 : -9223372036854775808 ≤ x7 ∧ x7 ≤ 9223372036854775807) (b8 : x8.size ≤ maxLen) (b9 : x9.length ≤ big) (c9 : OkE big 2 x9) :
    OkC big (lay 15) [.list 19 false x0, .list 3 false x1, .list 3 false x2, .int .i64 x3, .list 3 false x4, .bool x5, .int .i64 x6, .int .i64 x7, .str x8, .list 3 false x9] := by
  simp -implicitDefEqProofs only [lay, OkC, Ok]
  exact ⟨⟨rfl, rfl, b0, c0⟩, ⟨rfl, rfl, b1, c1⟩, ⟨rfl, rfl, b2, c2⟩, ⟨trivial, i3⟩, ⟨rfl, rfl, b4, c4⟩, trivial, ⟨trivial, i6⟩, ⟨trivial, i7⟩, b8, ⟨rfl, rfl, b9, c9⟩, trivial⟩
def mayW (o s : Int) : Bool := decide (1 ≤ s) && (decide (o = 0) || decide (o = s))
theorem mw167 (x0 : List (List D)) (x1 : List (List D)) (x2 : List (List D)) (x3 : Int) (x4 : List (List D)) (x5 : Bool) (x6 : Int) (x7 : Int) (x8 : ByteArray) (x9 : List (List D)) (s : Int) : lim T 167 [.val true ([.list 19 false x0, .list 3 false x1, .list 3 false x2, .int .i64 x3, .list 3 false x4, .bool x5, .int .i64 x6, .int .i64 x7, .str x8, .list 3 false x9].map .d), .val false [.d (.int .i64 s)]] = some ([.val false [.d (.bool (mayW x3 s))]], []) := by
  rw [lim_fn (f := 167) rfl rfl]
  rcases pe (1 ≤ s) with h1 | h1 <;> rcases pe (x3 = 0) with h2 | h2 <;> rcases pe (x3 = s) with h3 | h3 <;> simp -implicitDefEqProofs only [mayW, h1, h2, h3, List.map_cons, List.map_nil, go_sem, reduceIte, Nat.reduceAdd, Nat.reduceEqDiff, Nat.reduceMul, Nat.reduceLeDiff, Nat.reduceBEq, Nat.reduceBNe, Nat.reduceSub, Nat.reduceLT]
theorem mw169 (x0 : List (List D)) (x1 : List (List D)) (x2 : List (List D)) (x3 : Int) (x4 : List (List D)) (x5 : Bool) (x6 : Int) (x7 : Int) (x8 : ByteArray) (x9 : List (List D)) (s : Int) : lim T 169 [.val true ([.list 19 false x0, .list 3 false x1, .list 3 false x2, .int .i64 x3, .list 3 false x4, .bool x5, .int .i64 x6, .int .i64 x7, .str x8, .list 3 false x9].map .d), .val false [.d (.int .i64 s)]] = some ([.val false [.d (.bool (mayW x3 s))]], []) := by
  rw [lim_fn (f := 169) rfl rfl]
  rcases pe (1 ≤ s) with h1 | h1 <;> rcases pe (x3 = 0) with h2 | h2 <;> rcases pe (x3 = s) with h3 | h3 <;> simp -implicitDefEqProofs only [mayW, h1, h2, h3, List.map_cons, List.map_nil, go_sem, reduceIte, Nat.reduceAdd, Nat.reduceEqDiff, Nat.reduceMul, Nat.reduceLeDiff, Nat.reduceBEq, Nat.reduceBNe, Nat.reduceSub, Nat.reduceLT]
theorem in74 (a lo hi : Int) : lim T 74 [.val false [.d (.int .i64 a)], .val false [.d (.int .i64 lo)], .val false [.d (.int .i64 hi)]] = some ([.val false [.d (.bool (decide (lo ≤ a) && decide (a ≤ hi)))]], []) := by
  rw [lim_fn (f := 74) rfl rfl]
  rcases pe (lo ≤ a) with h1 | h1 <;> rcases pe (a ≤ hi) with h2 | h2 <;> simp -implicitDefEqProofs only [h1, h2, go_sem, reduceIte, Nat.reduceAdd, Nat.reduceEqDiff, Nat.reduceMul, Nat.reduceLeDiff, Nat.reduceBEq, Nat.reduceBNe, Nat.reduceSub, Nat.reduceLT]
theorem fn_LockStore (e : List D) (ok : OkC big (lay 15) e) (hs : szC e ≤ 1048576) (s : Int) (hb : -9223372036854775808 ≤ s ∧ s ≤ 9223372036854775807) :
    ∃ e' b, OkC big (lay 15) e' ∧ mnA e' ≤ 1000000000 ∧ lim T 168 [.val true (e.map .d), .val false [.d (.int .i64 s)]] = some ([.val true (e'.map own), .val false [.d (.bool b)]], []) ∧ lim T 170 [.val true (e.map .d), .val false [.d (.int .i64 s)]] = some ([.val true (e'.map own), .val false [.d (.bool b)]], []) := by
  have cs := cp133 e ok
  have ci := cp142 e ok
  have m1 := fun x0 x1 x2 x3 x4 x5 x6 x7 x8 x9 => mw167 x0 x1 x2 x3 x4 x5 x6 x7 x8 x9 s
  have m2 := fun x0 x1 x2 x3 x4 x5 x6 x7 x8 x9 => mw169 x0 x1 x2 x3 x4 x5 x6 x7 x8 x9 s
  obtain ⟨x0, x1, x2, x3, x4, x5, x6, x7, x8, x9, rfl, ⟨b0, c0⟩, ⟨b1, c1⟩, ⟨b2, c2⟩, i3, ⟨b4, c4⟩, _, i6, i7, b8, ⟨b9, c9⟩⟩ := inv_Store ok
  have n0 := mnE_le 12 x0 c0
  have n1 := mnE_le 2 x1 c1
  have n2 := mnE_le 2 x2 c2
  have n4 := mnE_le 13 x4 c4
  have n9 := mnE_le 2 x9 c9
  simp -implicitDefEqProofs only [szC, D.sz] at hs
  simp -implicitDefEqProofs only [List.map_cons, List.map_nil, own] at *
  cases hw : mayW x3 s
  · refine ⟨[.list 19 false x0, .list 3 false x1, .list 3 false x2, .int .i64 x3, .list 3 false x4, .bool x5, .int .i64 x6, .int .i64 x7, .str x8, .list 3 false x9], false, ok_store b0 c0 b1 c1 b2 c2 i3 b4 c4 i6 i7 b8 b9 c9, (by simp -implicitDefEqProofs only [mnA, D.mnA, mnE]; omega), ?_, ?_⟩
    · rw [lim_fn (f := 168) rfl rfl]; simp -implicitDefEqProofs only [cs, ci, m1, m2, hw, own, List.map_cons, List.map_nil, go_sem, reduceIte, Nat.reduceAdd, Nat.reduceEqDiff, Nat.reduceMul, Nat.reduceLeDiff, Nat.reduceBEq, Nat.reduceBNe, Nat.reduceSub, Nat.reduceLT]
    · rw [lim_fn (f := 170) rfl rfl]; simp -implicitDefEqProofs only [cs, ci, m1, m2, hw, own, List.map_cons, List.map_nil, go_sem, reduceIte, Nat.reduceAdd, Nat.reduceEqDiff, Nat.reduceMul, Nat.reduceLeDiff, Nat.reduceBEq, Nat.reduceBNe, Nat.reduceSub, Nat.reduceLT]
  · refine ⟨[.list 19 false x0, .list 3 false x1, .list 3 false x2, .int .i64 s, .list 3 false x4, .bool x5, .int .i64 x6, .int .i64 x7, .str x8, .list 3 false x9], true, ok_store b0 c0 b1 c1 b2 c2 ⟨by omega, by omega⟩ b4 c4 i6 i7 b8 b9 c9, (by simp -implicitDefEqProofs only [mnA, D.mnA, mnE]; omega), ?_, ?_⟩
    · rw [lim_fn (f := 168) rfl rfl]; simp -implicitDefEqProofs only [cs, ci, m1, m2, hw, own, List.map_cons, List.map_nil, go_sem, reduceIte, Nat.reduceAdd, Nat.reduceEqDiff, Nat.reduceMul, Nat.reduceLeDiff, Nat.reduceBEq, Nat.reduceBNe, Nat.reduceSub, Nat.reduceLT]
    · rw [lim_fn (f := 170) rfl rfl]; simp -implicitDefEqProofs only [cs, ci, m1, m2, hw, own, List.map_cons, List.map_nil, go_sem, reduceIte, Nat.reduceAdd, Nat.reduceEqDiff, Nat.reduceMul, Nat.reduceLeDiff, Nat.reduceBEq, Nat.reduceBNe, Nat.reduceSub, Nat.reduceLT]
theorem fn_UnlockStore (e : List D) (ok : OkC big (lay 15) e) (hs : szC e ≤ 1048576) (s : Int) (hb : -9223372036854775808 ≤ s ∧ s ≤ 9223372036854775807) :
    ∃ e' b, OkC big (lay 15) e' ∧ mnA e' ≤ 1000000000 ∧ lim T 134 [.val true (e.map .d), .val false [.d (.int .i64 s)]] = some ([.val true (e'.map own), .val false [.d (.bool b)]], []) ∧ lim T 143 [.val true (e.map .d), .val false [.d (.int .i64 s)]] = some ([.val true (e'.map own), .val false [.d (.bool b)]], []) := by
  have cs := cp133 e ok
  have ci := cp142 e ok
  obtain ⟨x0, x1, x2, x3, x4, x5, x6, x7, x8, x9, rfl, ⟨b0, c0⟩, ⟨b1, c1⟩, ⟨b2, c2⟩, i3, ⟨b4, c4⟩, _, i6, i7, b8, ⟨b9, c9⟩⟩ := inv_Store ok
  have n0 := mnE_le 12 x0 c0
  have n1 := mnE_le 2 x1 c1
  have n2 := mnE_le 2 x2 c2
  have n4 := mnE_le 13 x4 c4
  have n9 := mnE_le 2 x9 c9
  simp -implicitDefEqProofs only [szC, D.sz] at hs
  simp -implicitDefEqProofs only [List.map_cons, List.map_nil, own] at *
  rcases pe (s < 1) with h1 | h1
  · refine ⟨[.list 19 false x0, .list 3 false x1, .list 3 false x2, .int .i64 x3, .list 3 false x4, .bool x5, .int .i64 x6, .int .i64 x7, .str x8, .list 3 false x9], false, ok_store b0 c0 b1 c1 b2 c2 i3 b4 c4 i6 i7 b8 b9 c9, (by simp -implicitDefEqProofs only [mnA, D.mnA, mnE]; omega), ?_, ?_⟩
    · rw [lim_fn (f := 134) rfl rfl]; simp -implicitDefEqProofs only [cs, ci, h1, own, List.map_cons, List.map_nil, go_sem, reduceIte, Nat.reduceAdd, Nat.reduceEqDiff, Nat.reduceMul, Nat.reduceLeDiff, Nat.reduceBEq, Nat.reduceBNe, Nat.reduceSub, Nat.reduceLT]
    · rw [lim_fn (f := 143) rfl rfl]; simp -implicitDefEqProofs only [cs, ci, h1, own, List.map_cons, List.map_nil, go_sem, reduceIte, Nat.reduceAdd, Nat.reduceEqDiff, Nat.reduceMul, Nat.reduceLeDiff, Nat.reduceBEq, Nat.reduceBNe, Nat.reduceSub, Nat.reduceLT]
  rcases pe (x3 = s) with h2 | h2
  · refine ⟨[.list 19 false x0, .list 3 false x1, .list 3 false x2, .int .i64 0, .list 3 false x4, .bool x5, .int .i64 x6, .int .i64 x7, .str x8, .list 3 false x9], true, ok_store b0 c0 b1 c1 b2 c2 ⟨by omega, by omega⟩ b4 c4 i6 i7 b8 b9 c9, (by simp -implicitDefEqProofs only [mnA, D.mnA, mnE]; omega), ?_, ?_⟩
    · rw [lim_fn (f := 134) rfl rfl]; simp -implicitDefEqProofs only [cs, ci, h1, h2, own, List.map_cons, List.map_nil, go_sem, reduceIte, Nat.reduceAdd, Nat.reduceEqDiff, Nat.reduceMul, Nat.reduceLeDiff, Nat.reduceBEq, Nat.reduceBNe, Nat.reduceSub, Nat.reduceLT]
    · rw [lim_fn (f := 143) rfl rfl]; simp -implicitDefEqProofs only [cs, ci, h1, h2, own, List.map_cons, List.map_nil, go_sem, reduceIte, Nat.reduceAdd, Nat.reduceEqDiff, Nat.reduceMul, Nat.reduceLeDiff, Nat.reduceBEq, Nat.reduceBNe, Nat.reduceSub, Nat.reduceLT]
  · refine ⟨[.list 19 false x0, .list 3 false x1, .list 3 false x2, .int .i64 x3, .list 3 false x4, .bool x5, .int .i64 x6, .int .i64 x7, .str x8, .list 3 false x9], false, ok_store b0 c0 b1 c1 b2 c2 i3 b4 c4 i6 i7 b8 b9 c9, (by simp -implicitDefEqProofs only [mnA, D.mnA, mnE]; omega), ?_, ?_⟩
    · rw [lim_fn (f := 134) rfl rfl]; simp -implicitDefEqProofs only [cs, ci, h1, h2, own, List.map_cons, List.map_nil, go_sem, reduceIte, Nat.reduceAdd, Nat.reduceEqDiff, Nat.reduceMul, Nat.reduceLeDiff, Nat.reduceBEq, Nat.reduceBNe, Nat.reduceSub, Nat.reduceLT]
    · rw [lim_fn (f := 143) rfl rfl]; simp -implicitDefEqProofs only [cs, ci, h1, h2, own, List.map_cons, List.map_nil, go_sem, reduceIte, Nat.reduceAdd, Nat.reduceEqDiff, Nat.reduceMul, Nat.reduceLeDiff, Nat.reduceBEq, Nat.reduceBNe, Nat.reduceSub, Nat.reduceLT]
theorem fn_ResetDraft (e : List D) (ok : OkC big (lay 15) e) (hs : szC e ≤ 1048576) (s : Int) (hb : -9223372036854775808 ≤ s ∧ s ≤ 9223372036854775807) :
    ∃ e' b, OkC big (lay 15) e' ∧ mnA e' ≤ 1000000000 ∧ lim T 172 [.val true (e.map .d), .val false [.d (.int .i64 s)]] = some ([.val true (e'.map own), .val false [.d (.bool b)]], []) ∧ lim T 173 [.val true (e.map .d), .val false [.d (.int .i64 s)]] = some ([.val true (e'.map own), .val false [.d (.bool b)]], []) := by
  have cs := cp133 e ok
  have ci := cp142 e ok
  have m1 := fun x0 x1 x2 x3 x4 x5 x6 x7 x8 x9 => mw167 x0 x1 x2 x3 x4 x5 x6 x7 x8 x9 s
  have m2 := fun x0 x1 x2 x3 x4 x5 x6 x7 x8 x9 => mw169 x0 x1 x2 x3 x4 x5 x6 x7 x8 x9 s
  obtain ⟨x0, x1, x2, x3, x4, x5, x6, x7, x8, x9, rfl, ⟨b0, c0⟩, ⟨b1, c1⟩, ⟨b2, c2⟩, i3, ⟨b4, c4⟩, _, i6, i7, b8, ⟨b9, c9⟩⟩ := inv_Store ok
  have n0 := mnE_le 12 x0 c0
  have n1 := mnE_le 2 x1 c1
  have n2 := mnE_le 2 x2 c2
  have n4 := mnE_le 13 x4 c4
  have n9 := mnE_le 2 x9 c9
  simp -implicitDefEqProofs only [szC, D.sz] at hs
  simp -implicitDefEqProofs only [List.map_cons, List.map_nil, own] at *
  have k1 := cp1 x1 b1 c1
  have k2 := cp2 x1 b1 c1
  have k3 := cp1 x9 b9 c9
  have k4 := cp2 x9 b9 c9
  cases hw : mayW x3 s
  · refine ⟨[.list 19 false x0, .list 3 false x1, .list 3 false x2, .int .i64 x3, .list 3 false x4, .bool x5, .int .i64 x6, .int .i64 x7, .str x8, .list 3 false x9], false, ok_store b0 c0 b1 c1 b2 c2 i3 b4 c4 i6 i7 b8 b9 c9, (by simp -implicitDefEqProofs only [mnA, D.mnA, mnE]; omega), ?_, ?_⟩
    · rw [lim_fn (f := 172) rfl rfl]; simp -implicitDefEqProofs only [cs, ci, m1, m2, hw, own, List.map_cons, List.map_nil, go_sem, reduceIte, Nat.reduceAdd, Nat.reduceEqDiff, Nat.reduceMul, Nat.reduceLeDiff, Nat.reduceBEq, Nat.reduceBNe, Nat.reduceSub, Nat.reduceLT]
    · rw [lim_fn (f := 173) rfl rfl]; simp -implicitDefEqProofs only [cs, ci, m1, m2, hw, own, List.map_cons, List.map_nil, go_sem, reduceIte, Nat.reduceAdd, Nat.reduceEqDiff, Nat.reduceMul, Nat.reduceLeDiff, Nat.reduceBEq, Nat.reduceBNe, Nat.reduceSub, Nat.reduceLT]
  · refine ⟨[.list 19 false x0, .list 3 false x1, .list 3 false x1, .int .i64 x3, .list 3 false x4, .bool x5, .int .i64 x6, .int .i64 x7, .str x8, .list 3 false x9], true, ok_store b0 c0 b1 c1 b1 c1 i3 b4 c4 i6 i7 b8 b9 c9, (by simp -implicitDefEqProofs only [mnA, D.mnA, mnE]; omega), ?_, ?_⟩
    · rw [lim_fn (f := 172) rfl rfl]; simp -implicitDefEqProofs only [cs, ci, m1, m2, hw, k1, k2, own, List.map_cons, List.map_nil, go_sem, reduceIte, Nat.reduceAdd, Nat.reduceEqDiff, Nat.reduceMul, Nat.reduceLeDiff, Nat.reduceBEq, Nat.reduceBNe, Nat.reduceSub, Nat.reduceLT]
    · rw [lim_fn (f := 173) rfl rfl]; simp -implicitDefEqProofs only [cs, ci, m1, m2, hw, k1, k2, own, List.map_cons, List.map_nil, go_sem, reduceIte, Nat.reduceAdd, Nat.reduceEqDiff, Nat.reduceMul, Nat.reduceLeDiff, Nat.reduceBEq, Nat.reduceBNe, Nat.reduceSub, Nat.reduceLT]
theorem fn_RollBack (e : List D) (ok : OkC big (lay 15) e) (hs : szC e ≤ 1048576) (s : Int) (hb : -9223372036854775808 ≤ s ∧ s ≤ 9223372036854775807) (n : Int) (hn : -9223372036854775808 ≤ n ∧ n ≤ 9223372036854775807) :
    ∃ e' b, OkC big (lay 15) e' ∧ mnA e' ≤ 1000000000 ∧ lim T 175 [.val true (e.map .d), .val false [.d (.int .i64 s)], .val false [.d (.int .i64 n)]] = some ([.val true (e'.map own), .val false [.d (.bool b)]], []) ∧ lim T 176 [.val true (e.map .d), .val false [.d (.int .i64 s)], .val false [.d (.int .i64 n)]] = some ([.val true (e'.map own), .val false [.d (.bool b)]], []) := by
  have cs := cp133 e ok
  have ci := cp142 e ok
  have m1 := fun x0 x1 x2 x3 x4 x5 x6 x7 x8 x9 => mw167 x0 x1 x2 x3 x4 x5 x6 x7 x8 x9 s
  have m2 := fun x0 x1 x2 x3 x4 x5 x6 x7 x8 x9 => mw169 x0 x1 x2 x3 x4 x5 x6 x7 x8 x9 s
  obtain ⟨x0, x1, x2, x3, x4, x5, x6, x7, x8, x9, rfl, ⟨b0, c0⟩, ⟨b1, c1⟩, ⟨b2, c2⟩, i3, ⟨b4, c4⟩, _, i6, i7, b8, ⟨b9, c9⟩⟩ := inv_Store ok
  have n0 := mnE_le 12 x0 c0
  have n1 := mnE_le 2 x1 c1
  have n2 := mnE_le 2 x2 c2
  have n4 := mnE_le 13 x4 c4
  have n9 := mnE_le 2 x9 c9
  simp -implicitDefEqProofs only [szC, D.sz] at hs
  simp -implicitDefEqProofs only [List.map_cons, List.map_nil, own] at *
  cases hw : mayW x3 s
  · refine ⟨[.list 19 false x0, .list 3 false x1, .list 3 false x2, .int .i64 x3, .list 3 false x4, .bool x5, .int .i64 x6, .int .i64 x7, .str x8, .list 3 false x9], false, ok_store b0 c0 b1 c1 b2 c2 i3 b4 c4 i6 i7 b8 b9 c9, (by simp -implicitDefEqProofs only [mnA, D.mnA, mnE]; omega), ?_, ?_⟩
    · rw [lim_fn (f := 175) rfl rfl]; simp -implicitDefEqProofs only [cs, ci, m1, m2, hw, own, List.map_cons, List.map_nil, go_sem, reduceIte, Nat.reduceAdd, Nat.reduceEqDiff, Nat.reduceMul, Nat.reduceLeDiff, Nat.reduceBEq, Nat.reduceBNe, Nat.reduceSub, Nat.reduceLT]
    · rw [lim_fn (f := 176) rfl rfl]; simp -implicitDefEqProofs only [cs, ci, m1, m2, hw, own, List.map_cons, List.map_nil, go_sem, reduceIte, Nat.reduceAdd, Nat.reduceEqDiff, Nat.reduceMul, Nat.reduceLeDiff, Nat.reduceBEq, Nat.reduceBNe, Nat.reduceSub, Nat.reduceLT]
  have q1 := in74 n 1 (x4.length : Nat)
  rcases pe (n < 1) with h1 | h1
  · have h2 : (1 ≤ n) = False := eq_false (by simp at h1; omega)
    refine ⟨[.list 19 false x0, .list 3 false x1, .list 3 false x2, .int .i64 x3, .list 3 false x4, .bool x5, .int .i64 x6, .int .i64 x7, .str x8, .list 3 false x9], false, ok_store b0 c0 b1 c1 b2 c2 i3 b4 c4 i6 i7 b8 b9 c9, (by simp -implicitDefEqProofs only [mnA, D.mnA, mnE]; omega), ?_, ?_⟩
    · rw [lim_fn (f := 175) rfl rfl]; simp -implicitDefEqProofs only [cs, ci, m1, m2, hw, q1, h1, h2, own, List.map_cons, List.map_nil, go_sem, reduceIte, Nat.reduceAdd, Nat.reduceEqDiff, Nat.reduceMul, Nat.reduceLeDiff, Nat.reduceBEq, Nat.reduceBNe, Nat.reduceSub, Nat.reduceLT]
    · rw [lim_fn (f := 176) rfl rfl]; simp -implicitDefEqProofs only [cs, ci, m1, m2, hw, q1, h1, h2, own, List.map_cons, List.map_nil, go_sem, reduceIte, Nat.reduceAdd, Nat.reduceEqDiff, Nat.reduceMul, Nat.reduceLeDiff, Nat.reduceBEq, Nat.reduceBNe, Nat.reduceSub, Nat.reduceLT]
  rcases pe ((x4.length : Int) < n) with h3 | h3
  · have h2 : (1 ≤ n) = True := eq_true (by simp at h1; omega)
    have h4 : (n ≤ (x4.length : Int)) = False := eq_false (by simp at h3; omega)
    refine ⟨[.list 19 false x0, .list 3 false x1, .list 3 false x2, .int .i64 x3, .list 3 false x4, .bool x5, .int .i64 x6, .int .i64 x7, .str x8, .list 3 false x9], false, ok_store b0 c0 b1 c1 b2 c2 i3 b4 c4 i6 i7 b8 b9 c9, (by simp -implicitDefEqProofs only [mnA, D.mnA, mnE]; omega), ?_, ?_⟩
    · rw [lim_fn (f := 175) rfl rfl]; simp -implicitDefEqProofs only [cs, ci, m1, m2, hw, q1, h1, h2, h3, h4, own, List.map_cons, List.map_nil, go_sem, reduceIte, Nat.reduceAdd, Nat.reduceEqDiff, Nat.reduceMul, Nat.reduceLeDiff, Nat.reduceBEq, Nat.reduceBNe, Nat.reduceSub, Nat.reduceLT]
    · rw [lim_fn (f := 176) rfl rfl]; simp -implicitDefEqProofs only [cs, ci, m1, m2, hw, q1, h1, h2, h3, h4, own, List.map_cons, List.map_nil, go_sem, reduceIte, Nat.reduceAdd, Nat.reduceEqDiff, Nat.reduceMul, Nat.reduceLeDiff, Nat.reduceBEq, Nat.reduceBNe, Nat.reduceSub, Nat.reduceLT]
  have h2 : (1 ≤ n) = True := eq_true (by simp at h1; omega)
  have h4 : (n ≤ (x4.length : Int)) = True := eq_true (by simp at h3; omega)
  have g1 : 1 ≤ n := of_eq_true h2
  have g4 : n ≤ (x4.length : Int) := of_eq_true h4
  have w : IntKind.i64.wrap ((x4.length : Int) - n) = (x4.length : Int) - n := i64_wrap (by simp -implicitDefEqProofs only [big] at b4; omega)
  have t0 : (0 ≤ (x4.length : Int) - n) = True := eq_true (by omega)
  have tl : ((x4.length : Int) - n).toNat < x4.length := by omega
  have tn := nth_lt tl
  obtain ⟨z, z1, z2, he, ⟨bz, cz⟩, _⟩ := inv_Version (c4.nth_ tn)
  rw [he] at tn
  have nz := mnE_le 2 z cz
  have k5 := cp1 z bz cz
  have k6 := cp2 z bz cz
  have sz4 := szE_nth tn
  simp -implicitDefEqProofs only [szC, D.sz] at sz4
  refine ⟨[.list 19 false x0, .list 3 false x1, .list 3 false z, .int .i64 x3, .list 3 false x4, .bool x5, .int .i64 x6, .int .i64 x7, .str x8, .list 3 false x9], true, ok_store b0 c0 b1 c1 bz cz i3 b4 c4 i6 i7 b8 b9 c9, (by simp -implicitDefEqProofs only [mnA, D.mnA, mnE]; omega), ?_, ?_⟩
  · rw [lim_fn (f := 175) rfl rfl]; simp -implicitDefEqProofs only [cs, ci, m1, m2, hw, q1, h1, h2, h3, h4, w, t0, tn, k5, k6, own, List.map_cons, List.map_nil, go_sem, reduceIte, Nat.reduceAdd, Nat.reduceEqDiff, Nat.reduceMul, Nat.reduceLeDiff, Nat.reduceBEq, Nat.reduceBNe, Nat.reduceSub, Nat.reduceLT]
  · rw [lim_fn (f := 176) rfl rfl]; simp -implicitDefEqProofs only [cs, ci, m1, m2, hw, q1, h1, h2, h3, h4, w, t0, tn, k5, k6, own, List.map_cons, List.map_nil, go_sem, reduceIte, Nat.reduceAdd, Nat.reduceEqDiff, Nat.reduceMul, Nat.reduceLeDiff, Nat.reduceBEq, Nat.reduceBNe, Nat.reduceSub, Nat.reduceLT]
theorem back178 (x0 : List (List D)) (x1 : List (List D)) (x2 : List (List D)) (x3 : Int) (x4 : List (List D)) (x5 : Bool) (x6 : Int) (x7 : Int) (x8 : ByteArray) (x9 : List (List D)) (b9 : x9.length ≤ big) (c9 : OkE big 2 x9) : lim T 178 [.box [.row (orow 19 false x0), .row (orow 3 false x1), .row (orow 3 false x2), .d (.int .i64 x3), .row (orow 3 false x4), .d (.bool x5), .d (.int .i64 x6), .d (.int .i64 x7), .d (.str x8), .row (orow 3 false x9)]] = some ([], [.box [.row (orow 19 false x0), .row (orow 3 false x9), .row (orow 3 false x2), .d (.int .i64 x3), .row (orow 3 false x4), .d (.bool false), .d (.int .i64 0), .d (.int .i64 0), .d (.str ⟨#[]⟩), .row (orow 3 false [])]]) := by
  have k4 := cp2 x9 b9 c9
  rw [lim_fn (f := 178) rfl rfl]
  simp -implicitDefEqProofs only [k4, List.map_cons, List.map_nil, go_sem, reduceIte, Nat.reduceAdd, Nat.reduceEqDiff, Nat.reduceMul, Nat.reduceLeDiff, Nat.reduceBEq, Nat.reduceBNe, Nat.reduceSub, Nat.reduceLT]
theorem fall180 (e : List D) (ok : OkC big (lay 15) e) : lim T 180 [.val true (e.map .d)] = some ([.val true (match e with | [a0, a1, a2, a3, a4, a5, a6, a7, a8, a9] => [own a0, own a9, own a2, own a3, own a4, .d (.bool false), .d (.int .i64 0), .d (.int .i64 0), .d (.str ⟨#[]⟩), .row (orow 3 false [])] | e => e.map own)], []) := by
  have ci := cp142 e ok
  obtain ⟨x0, x1, x2, x3, x4, x5, x6, x7, x8, x9, rfl, ⟨b0, c0⟩, ⟨b1, c1⟩, ⟨b2, c2⟩, i3, ⟨b4, c4⟩, _, i6, i7, b8, ⟨b9, c9⟩⟩ := inv_Store ok
  have k3 := cp1 x9 b9 c9
  simp -implicitDefEqProofs only [List.map_cons, List.map_nil, own] at *
  rw [lim_fn (f := 180) rfl rfl]
  simp -implicitDefEqProofs only [ci, k3, own, go_sem, reduceIte, Nat.reduceAdd, Nat.reduceEqDiff, Nat.reduceMul, Nat.reduceLeDiff, Nat.reduceBEq, Nat.reduceBNe, Nat.reduceSub, Nat.reduceLT]
theorem fn_TickStore (e : List D) (ok : OkC big (lay 15) e) (hs : szC e ≤ 1048576) (n : Int) (hn : -9223372036854775808 ≤ n ∧ n ≤ 9223372036854775807) :
    ∃ e' b, OkC big (lay 15) e' ∧ mnA e' ≤ 1000000000 ∧ lim T 179 [.val true (e.map .d), .val false [.d (.int .i64 n)]] = some ([.val true (e'.map own), .val false [.d (.bool b)]], []) ∧ lim T 181 [.val true (e.map .d), .val false [.d (.int .i64 n)]] = some ([.val true (e'.map own), .val false [.d (.bool b)]], []) := by
  have cs := cp133 e ok
  have ci := cp142 e ok
  have k7 := fall180 e ok
  obtain ⟨x0, x1, x2, x3, x4, x5, x6, x7, x8, x9, rfl, ⟨b0, c0⟩, ⟨b1, c1⟩, ⟨b2, c2⟩, i3, ⟨b4, c4⟩, _, i6, i7, b8, ⟨b9, c9⟩⟩ := inv_Store ok
  have n0 := mnE_le 12 x0 c0
  have n1 := mnE_le 2 x1 c1
  have n2 := mnE_le 2 x2 c2
  have n4 := mnE_le 13 x4 c4
  have n9 := mnE_le 2 x9 c9
  simp -implicitDefEqProofs only [szC, D.sz] at hs
  simp -implicitDefEqProofs only [List.map_cons, List.map_nil, own] at *
  have k8 := fun x0 x1 x2 x3 x4 x5 x6 x7 x8 => back178 x0 x1 x2 x3 x4 x5 x6 x7 x8 x9 b9 c9
  cases x5
  · refine ⟨[.list 19 false x0, .list 3 false x1, .list 3 false x2, .int .i64 x3, .list 3 false x4, .bool false, .int .i64 x6, .int .i64 x7, .str x8, .list 3 false x9], false, ok_store b0 c0 b1 c1 b2 c2 i3 b4 c4 i6 i7 b8 b9 c9, (by simp -implicitDefEqProofs only [mnA, D.mnA, mnE]; omega), ?_, ?_⟩
    · rw [lim_fn (f := 179) rfl rfl]; simp -implicitDefEqProofs only [cs, ci, own, List.map_cons, List.map_nil, go_sem, reduceIte, Nat.reduceAdd, Nat.reduceEqDiff, Nat.reduceMul, Nat.reduceLeDiff, Nat.reduceBEq, Nat.reduceBNe, Nat.reduceSub, Nat.reduceLT]
    · rw [lim_fn (f := 181) rfl rfl]; simp -implicitDefEqProofs only [cs, ci, own, List.map_cons, List.map_nil, go_sem, reduceIte, Nat.reduceAdd, Nat.reduceEqDiff, Nat.reduceMul, Nat.reduceLeDiff, Nat.reduceBEq, Nat.reduceBNe, Nat.reduceSub, Nat.reduceLT]
  rcases pe (n < x6) with h1 | h1
  · refine ⟨[.list 19 false x0, .list 3 false x1, .list 3 false x2, .int .i64 x3, .list 3 false x4, .bool true, .int .i64 x6, .int .i64 x7, .str x8, .list 3 false x9], false, ok_store b0 c0 b1 c1 b2 c2 i3 b4 c4 i6 i7 b8 b9 c9, (by simp -implicitDefEqProofs only [mnA, D.mnA, mnE]; omega), ?_, ?_⟩
    · rw [lim_fn (f := 179) rfl rfl]; simp -implicitDefEqProofs only [cs, ci, h1, own, List.map_cons, List.map_nil, go_sem, reduceIte, Nat.reduceAdd, Nat.reduceEqDiff, Nat.reduceMul, Nat.reduceLeDiff, Nat.reduceBEq, Nat.reduceBNe, Nat.reduceSub, Nat.reduceLT]
    · rw [lim_fn (f := 181) rfl rfl]; simp -implicitDefEqProofs only [cs, ci, h1, own, List.map_cons, List.map_nil, go_sem, reduceIte, Nat.reduceAdd, Nat.reduceEqDiff, Nat.reduceMul, Nat.reduceLeDiff, Nat.reduceBEq, Nat.reduceBNe, Nat.reduceSub, Nat.reduceLT]
  · refine ⟨[.list 19 false x0, .list 3 false x9, .list 3 false x2, .int .i64 x3, .list 3 false x4, .bool false, .int .i64 0, .int .i64 0, .str ⟨#[]⟩, .list 3 false []], true, ok_store b0 c0 b9 c9 b2 c2 i3 b4 c4 ⟨by omega, by omega⟩ ⟨by omega, by omega⟩ (Nat.zero_le _) (Nat.zero_le _) trivial, (by simp -implicitDefEqProofs only [mnA, D.mnA, mnE]; omega), ?_, ?_⟩
    · rw [lim_fn (f := 179) rfl rfl]; simp -implicitDefEqProofs only [cs, ci, h1, k7, k8, own, List.map_cons, List.map_nil, go_sem, reduceIte, Nat.reduceAdd, Nat.reduceEqDiff, Nat.reduceMul, Nat.reduceLeDiff, Nat.reduceBEq, Nat.reduceBNe, Nat.reduceSub, Nat.reduceLT]
    · rw [lim_fn (f := 181) rfl rfl]; simp -implicitDefEqProofs only [cs, ci, h1, k7, k8, own, List.map_cons, List.map_nil, go_sem, reduceIte, Nat.reduceAdd, Nat.reduceEqDiff, Nat.reduceMul, Nat.reduceLeDiff, Nat.reduceBEq, Nat.reduceBNe, Nat.reduceSub, Nat.reduceLT]
theorem fn_RestartStore (e : List D) (ok : OkC big (lay 15) e) (hs : szC e ≤ 1048576) :
    ∃ e', OkC big (lay 15) e' ∧ mnA e' ≤ 1000000000 ∧ lim T 183 [.val true (e.map .d)] = some ([.val true (e'.map own)], []) ∧ lim T 184 [.val true (e.map .d)] = some ([.val true (e'.map own)], []) := by
  have cs := cp133 e ok
  have ci := cp142 e ok
  have k7 := fall180 e ok
  obtain ⟨x0, x1, x2, x3, x4, x5, x6, x7, x8, x9, rfl, ⟨b0, c0⟩, ⟨b1, c1⟩, ⟨b2, c2⟩, i3, ⟨b4, c4⟩, _, i6, i7, b8, ⟨b9, c9⟩⟩ := inv_Store ok
  have n0 := mnE_le 12 x0 c0
  have n1 := mnE_le 2 x1 c1
  have n2 := mnE_le 2 x2 c2
  have n4 := mnE_le 13 x4 c4
  have n9 := mnE_le 2 x9 c9
  simp -implicitDefEqProofs only [szC, D.sz] at hs
  simp -implicitDefEqProofs only [List.map_cons, List.map_nil, own] at *
  have k8 := fun x0 x1 x2 x3 x4 x5 x6 x7 x8 => back178 x0 x1 x2 x3 x4 x5 x6 x7 x8 x9 b9 c9
  have k1 := cp1 x1 b1 c1
  have k2 := cp2 x1 b1 c1
  have k3 := cp1 x9 b9 c9
  have k4 := cp2 x9 b9 c9
  cases x5
  · refine ⟨[.list 19 false x0, .list 3 false x1, .list 3 false x1, .int .i64 0, .list 3 false x4, .bool false, .int .i64 x6, .int .i64 x7, .str x8, .list 3 false x9], ok_store b0 c0 b1 c1 b1 c1 ⟨by omega, by omega⟩ b4 c4 i6 i7 b8 b9 c9, (by simp -implicitDefEqProofs only [mnA, D.mnA, mnE]; omega), ?_, ?_⟩
    · rw [lim_fn (f := 183) rfl rfl]; simp -implicitDefEqProofs only [cs, ci, k1, k2, own, List.map_cons, List.map_nil, go_sem, reduceIte, Nat.reduceAdd, Nat.reduceEqDiff, Nat.reduceMul, Nat.reduceLeDiff, Nat.reduceBEq, Nat.reduceBNe, Nat.reduceSub, Nat.reduceLT]
    · rw [lim_fn (f := 184) rfl rfl]; simp -implicitDefEqProofs only [cs, ci, k1, k2, own, List.map_cons, List.map_nil, go_sem, reduceIte, Nat.reduceAdd, Nat.reduceEqDiff, Nat.reduceMul, Nat.reduceLeDiff, Nat.reduceBEq, Nat.reduceBNe, Nat.reduceSub, Nat.reduceLT]
  · refine ⟨[.list 19 false x0, .list 3 false x9, .list 3 false x9, .int .i64 0, .list 3 false x4, .bool false, .int .i64 0, .int .i64 0, .str ⟨#[]⟩, .list 3 false []], ok_store b0 c0 b9 c9 b9 c9 ⟨by omega, by omega⟩ b4 c4 ⟨by omega, by omega⟩ ⟨by omega, by omega⟩ (Nat.zero_le _) (Nat.zero_le _) trivial, (by simp -implicitDefEqProofs only [mnA, D.mnA, mnE]; omega), ?_, ?_⟩
    · rw [lim_fn (f := 183) rfl rfl]; simp -implicitDefEqProofs only [cs, ci, k7, k8, k1, k2, k3, k4, own, List.map_cons, List.map_nil, go_sem, reduceIte, Nat.reduceAdd, Nat.reduceEqDiff, Nat.reduceMul, Nat.reduceLeDiff, Nat.reduceBEq, Nat.reduceBNe, Nat.reduceSub, Nat.reduceLT]
    · rw [lim_fn (f := 184) rfl rfl]; simp -implicitDefEqProofs only [cs, ci, k7, k8, k1, k2, k3, k4, own, List.map_cons, List.map_nil, go_sem, reduceIte, Nat.reduceAdd, Nat.reduceEqDiff, Nat.reduceMul, Nat.reduceLeDiff, Nat.reduceBEq, Nat.reduceBNe, Nat.reduceSub, Nat.reduceLT]
def knows (name : ByteArray) (by_ s : Int) (n : ByteArray) : Bool := if name = ⟨#[]⟩ then decide (by_ = s) else decide (name = n)
theorem kn186 (x5 : Bool) (x6 x7 : Int) (x8 : ByteArray) (x9 : List (List D)) (s : Int) (n : ByteArray) : lim T 186 [.val true [.d (.bool x5), .d (.int .i64 x6), .d (.int .i64 x7), .d (.str x8), .d (.list 3 false x9)], .val false [.d (.int .i64 s)], .val false [.d (.str n)]] = some ([.val false [.d (.bool (knows x8 x7 s n))]], []) := by
  rw [lim_fn (f := 186) rfl rfl]
  rcases pe (x8 = ⟨#[]⟩) with h1 | h1 <;> rcases pe (x7 = s) with h2 | h2 <;> rcases pe (x8 = n) with h3 | h3 <;> simp -implicitDefEqProofs only [knows, h1, h2, h3, List.map_cons, List.map_nil, go_sem, reduceIte, Nat.reduceAdd, Nat.reduceEqDiff, Nat.reduceMul, Nat.reduceLeDiff, Nat.reduceBEq, Nat.reduceBNe, Nat.reduceSub, Nat.reduceLT]
theorem kn188 (x0 : List (List D)) (x1 : List (List D)) (x2 : List (List D)) (x3 : Int) (x4 : List (List D)) (x5 : Bool) (x6 : Int) (x7 : Int) (x8 : ByteArray) (x9 : List (List D)) (s : Int) (n : ByteArray) : lim T 188 [.val true ([.list 19 false x0, .list 3 false x1, .list 3 false x2, .int .i64 x3, .list 3 false x4, .bool x5, .int .i64 x6, .int .i64 x7, .str x8, .list 3 false x9].map .d), .val false [.d (.int .i64 s)], .val false [.d (.str n)]] = some ([.val false [.d (.bool (knows x8 x7 s n))]], []) := by
  have e1 : (s = x7) = (x7 = s) := propext ⟨Eq.symm, Eq.symm⟩
  have e2 : (n = x8) = (x8 = n) := propext ⟨Eq.symm, Eq.symm⟩
  rw [lim_fn (f := 188) rfl rfl]
  rcases pe (x8 = ⟨#[]⟩) with h1 | h1 <;> rcases pe (x7 = s) with h2 | h2 <;> rcases pe (x8 = n) with h3 | h3 <;> simp -implicitDefEqProofs only [knows, h1, h2, h3, e1, e2, List.map_cons, List.map_nil, go_sem, reduceIte, Nat.reduceAdd, Nat.reduceEqDiff, Nat.reduceMul, Nat.reduceLeDiff, Nat.reduceBEq, Nat.reduceBNe, Nat.reduceSub, Nat.reduceLT]
theorem fn_CancelStore (e : List D) (ok : OkC big (lay 15) e) (hs : szC e ≤ 1048576) (s : Int) (hb : -9223372036854775808 ≤ s ∧ s ≤ 9223372036854775807) (n : ByteArray) (hn : n.size ≤ maxLen) :
    ∃ e' b, OkC big (lay 15) e' ∧ mnA e' ≤ 1000000000 ∧ lim T 187 [.val true (e.map .d), .val false [.d (.int .i64 s)], .val false [.d (.str n)]] = some ([.val true (e'.map own), .val false [.d (.bool b)]], []) ∧ lim T 189 [.val true (e.map .d), .val false [.d (.int .i64 s)], .val false [.d (.str n)]] = some ([.val true (e'.map own), .val false [.d (.bool b)]], []) := by
  have cs := cp133 e ok
  have ci := cp142 e ok
  have m1 := fun x5 x6 x7 x8 x9 => kn186 x5 x6 x7 x8 x9 s n
  have m2 := fun x0 x1 x2 x3 x4 x5 x6 x7 x8 x9 => kn188 x0 x1 x2 x3 x4 x5 x6 x7 x8 x9 s n
  have k7 := fall180 e ok
  obtain ⟨x0, x1, x2, x3, x4, x5, x6, x7, x8, x9, rfl, ⟨b0, c0⟩, ⟨b1, c1⟩, ⟨b2, c2⟩, i3, ⟨b4, c4⟩, _, i6, i7, b8, ⟨b9, c9⟩⟩ := inv_Store ok
  have n0 := mnE_le 12 x0 c0
  have n1 := mnE_le 2 x1 c1
  have n2 := mnE_le 2 x2 c2
  have n4 := mnE_le 13 x4 c4
  have n9 := mnE_le 2 x9 c9
  simp -implicitDefEqProofs only [szC, D.sz] at hs
  simp -implicitDefEqProofs only [List.map_cons, List.map_nil, own] at *
  have k8 := fun x0 x1 x2 x3 x4 x5 x6 x7 x8 => back178 x0 x1 x2 x3 x4 x5 x6 x7 x8 x9 b9 c9
  rcases pe (s < 1) with h1 | h1
  · refine ⟨[.list 19 false x0, .list 3 false x1, .list 3 false x2, .int .i64 x3, .list 3 false x4, .bool x5, .int .i64 x6, .int .i64 x7, .str x8, .list 3 false x9], false, ok_store b0 c0 b1 c1 b2 c2 i3 b4 c4 i6 i7 b8 b9 c9, (by simp -implicitDefEqProofs only [mnA, D.mnA, mnE]; omega), ?_, ?_⟩
    · rw [lim_fn (f := 187) rfl rfl]; simp -implicitDefEqProofs only [cs, ci, h1, own, List.map_cons, List.map_nil, go_sem, reduceIte, Nat.reduceAdd, Nat.reduceEqDiff, Nat.reduceMul, Nat.reduceLeDiff, Nat.reduceBEq, Nat.reduceBNe, Nat.reduceSub, Nat.reduceLT]
    · rw [lim_fn (f := 189) rfl rfl]; simp -implicitDefEqProofs only [cs, ci, h1, own, List.map_cons, List.map_nil, go_sem, reduceIte, Nat.reduceAdd, Nat.reduceEqDiff, Nat.reduceMul, Nat.reduceLeDiff, Nat.reduceBEq, Nat.reduceBNe, Nat.reduceSub, Nat.reduceLT]
  cases x5
  · refine ⟨[.list 19 false x0, .list 3 false x1, .list 3 false x2, .int .i64 x3, .list 3 false x4, .bool false, .int .i64 x6, .int .i64 x7, .str x8, .list 3 false x9], false, ok_store b0 c0 b1 c1 b2 c2 i3 b4 c4 i6 i7 b8 b9 c9, (by simp -implicitDefEqProofs only [mnA, D.mnA, mnE]; omega), ?_, ?_⟩
    · rw [lim_fn (f := 187) rfl rfl]; simp -implicitDefEqProofs only [cs, ci, h1, own, List.map_cons, List.map_nil, go_sem, reduceIte, Nat.reduceAdd, Nat.reduceEqDiff, Nat.reduceMul, Nat.reduceLeDiff, Nat.reduceBEq, Nat.reduceBNe, Nat.reduceSub, Nat.reduceLT]
    · rw [lim_fn (f := 189) rfl rfl]; simp -implicitDefEqProofs only [cs, ci, h1, own, List.map_cons, List.map_nil, go_sem, reduceIte, Nat.reduceAdd, Nat.reduceEqDiff, Nat.reduceMul, Nat.reduceLeDiff, Nat.reduceBEq, Nat.reduceBNe, Nat.reduceSub, Nat.reduceLT]
  cases hw : knows x8 x7 s n
  · refine ⟨[.list 19 false x0, .list 3 false x1, .list 3 false x2, .int .i64 x3, .list 3 false x4, .bool true, .int .i64 x6, .int .i64 x7, .str x8, .list 3 false x9], false, ok_store b0 c0 b1 c1 b2 c2 i3 b4 c4 i6 i7 b8 b9 c9, (by simp -implicitDefEqProofs only [mnA, D.mnA, mnE]; omega), ?_, ?_⟩
    · rw [lim_fn (f := 187) rfl rfl]; simp -implicitDefEqProofs only [cs, ci, h1, m1, m2, hw, own, List.map_cons, List.map_nil, go_sem, reduceIte, Nat.reduceAdd, Nat.reduceEqDiff, Nat.reduceMul, Nat.reduceLeDiff, Nat.reduceBEq, Nat.reduceBNe, Nat.reduceSub, Nat.reduceLT]
    · rw [lim_fn (f := 189) rfl rfl]; simp -implicitDefEqProofs only [cs, ci, h1, m1, m2, hw, own, List.map_cons, List.map_nil, go_sem, reduceIte, Nat.reduceAdd, Nat.reduceEqDiff, Nat.reduceMul, Nat.reduceLeDiff, Nat.reduceBEq, Nat.reduceBNe, Nat.reduceSub, Nat.reduceLT]
  · refine ⟨[.list 19 false x0, .list 3 false x9, .list 3 false x2, .int .i64 x3, .list 3 false x4, .bool false, .int .i64 0, .int .i64 0, .str ⟨#[]⟩, .list 3 false []], true, ok_store b0 c0 b9 c9 b2 c2 i3 b4 c4 ⟨by omega, by omega⟩ ⟨by omega, by omega⟩ (Nat.zero_le _) (Nat.zero_le _) trivial, (by simp -implicitDefEqProofs only [mnA, D.mnA, mnE]; omega), ?_, ?_⟩
    · rw [lim_fn (f := 187) rfl rfl]; simp -implicitDefEqProofs only [cs, ci, h1, m1, m2, hw, k7, k8, own, List.map_cons, List.map_nil, go_sem, reduceIte, Nat.reduceAdd, Nat.reduceEqDiff, Nat.reduceMul, Nat.reduceLeDiff, Nat.reduceBEq, Nat.reduceBNe, Nat.reduceSub, Nat.reduceLT]
    · rw [lim_fn (f := 189) rfl rfl]; simp -implicitDefEqProofs only [cs, ci, h1, m1, m2, hw, k7, k8, own, List.map_cons, List.map_nil, go_sem, reduceIte, Nat.reduceAdd, Nat.reduceEqDiff, Nat.reduceMul, Nat.reduceLeDiff, Nat.reduceBEq, Nat.reduceBNe, Nat.reduceSub, Nat.reduceLT]
theorem fn_EndSession (e : List D) (ok : OkC big (lay 15) e) (hs : szC e ≤ 1048576) (s : Int) (hb : -9223372036854775808 ≤ s ∧ s ≤ 9223372036854775807) :
    ∃ e', OkC big (lay 15) e' ∧ mnA e' ≤ 1000000000 ∧ lim T 191 [.val true (e.map .d), .val false [.d (.int .i64 s)]] = some ([.val true (e'.map own)], []) ∧ lim T 192 [.val true (e.map .d), .val false [.d (.int .i64 s)]] = some ([.val true (e'.map own)], []) := by
  have cs := cp133 e ok
  have ci := cp142 e ok
  have k7 := fall180 e ok
  obtain ⟨x0, x1, x2, x3, x4, x5, x6, x7, x8, x9, rfl, ⟨b0, c0⟩, ⟨b1, c1⟩, ⟨b2, c2⟩, i3, ⟨b4, c4⟩, _, i6, i7, b8, ⟨b9, c9⟩⟩ := inv_Store ok
  have n0 := mnE_le 12 x0 c0
  have n1 := mnE_le 2 x1 c1
  have n2 := mnE_le 2 x2 c2
  have n4 := mnE_le 13 x4 c4
  have n9 := mnE_le 2 x9 c9
  simp -implicitDefEqProofs only [szC, D.sz] at hs
  simp -implicitDefEqProofs only [List.map_cons, List.map_nil, own] at *
  have k8 := fun x0 x1 x2 x3 x4 x5 x6 x7 x8 => back178 x0 x1 x2 x3 x4 x5 x6 x7 x8 x9 b9 c9
  have k1 := cp1 x1 b1 c1
  have k2 := cp2 x1 b1 c1
  have k3 := cp1 x9 b9 c9
  have k4 := cp2 x9 b9 c9
  rcases pe (s < 1) with h1 | h1
  · refine ⟨[.list 19 false x0, .list 3 false x1, .list 3 false x2, .int .i64 x3, .list 3 false x4, .bool x5, .int .i64 x6, .int .i64 x7, .str x8, .list 3 false x9], ok_store b0 c0 b1 c1 b2 c2 i3 b4 c4 i6 i7 b8 b9 c9, (by simp -implicitDefEqProofs only [mnA, D.mnA, mnE]; omega), ?_, ?_⟩
    · rw [lim_fn (f := 191) rfl rfl]; simp -implicitDefEqProofs only [cs, ci, h1, own, List.map_cons, List.map_nil, go_sem, reduceIte, Nat.reduceAdd, Nat.reduceEqDiff, Nat.reduceMul, Nat.reduceLeDiff, Nat.reduceBEq, Nat.reduceBNe, Nat.reduceSub, Nat.reduceLT]
    · rw [lim_fn (f := 192) rfl rfl]; simp -implicitDefEqProofs only [cs, ci, h1, own, List.map_cons, List.map_nil, go_sem, reduceIte, Nat.reduceAdd, Nat.reduceEqDiff, Nat.reduceMul, Nat.reduceLeDiff, Nat.reduceBEq, Nat.reduceBNe, Nat.reduceSub, Nat.reduceLT]
  cases x5
  · rcases pe (x3 = s) with h4 | h4
    · refine ⟨[.list 19 false x0, .list 3 false x1, .list 3 false x1, .int .i64 0, .list 3 false x4, .bool false, .int .i64 x6, .int .i64 x7, .str x8, .list 3 false x9], ok_store b0 c0 b1 c1 b1 c1 ⟨by omega, by omega⟩ b4 c4 i6 i7 b8 b9 c9, (by simp -implicitDefEqProofs only [mnA, D.mnA, mnE]; omega), ?_, ?_⟩
      · rw [lim_fn (f := 191) rfl rfl]; simp -implicitDefEqProofs only [cs, ci, h1, h4, k1, k2, k3, k4, own, List.map_cons, List.map_nil, go_sem, reduceIte, Nat.reduceAdd, Nat.reduceEqDiff, Nat.reduceMul, Nat.reduceLeDiff, Nat.reduceBEq, Nat.reduceBNe, Nat.reduceSub, Nat.reduceLT]
      · rw [lim_fn (f := 192) rfl rfl]; simp -implicitDefEqProofs only [cs, ci, h1, h4, k1, k2, k3, k4, own, List.map_cons, List.map_nil, go_sem, reduceIte, Nat.reduceAdd, Nat.reduceEqDiff, Nat.reduceMul, Nat.reduceLeDiff, Nat.reduceBEq, Nat.reduceBNe, Nat.reduceSub, Nat.reduceLT]
    · refine ⟨[.list 19 false x0, .list 3 false x1, .list 3 false x2, .int .i64 x3, .list 3 false x4, .bool false, .int .i64 x6, .int .i64 x7, .str x8, .list 3 false x9], ok_store b0 c0 b1 c1 b2 c2 i3 b4 c4 i6 i7 b8 b9 c9, (by simp -implicitDefEqProofs only [mnA, D.mnA, mnE]; omega), ?_, ?_⟩
      · rw [lim_fn (f := 191) rfl rfl]; simp -implicitDefEqProofs only [cs, ci, h1, h4, own, List.map_cons, List.map_nil, go_sem, reduceIte, Nat.reduceAdd, Nat.reduceEqDiff, Nat.reduceMul, Nat.reduceLeDiff, Nat.reduceBEq, Nat.reduceBNe, Nat.reduceSub, Nat.reduceLT]
      · rw [lim_fn (f := 192) rfl rfl]; simp -implicitDefEqProofs only [cs, ci, h1, h4, own, List.map_cons, List.map_nil, go_sem, reduceIte, Nat.reduceAdd, Nat.reduceEqDiff, Nat.reduceMul, Nat.reduceLeDiff, Nat.reduceBEq, Nat.reduceBNe, Nat.reduceSub, Nat.reduceLT]
  rcases pe (x8 = ⟨#[]⟩) with h2 | h2
  · rcases pe (x7 = s) with h3 | h3
    · rcases pe (x3 = s) with h4 | h4
      · refine ⟨[.list 19 false x0, .list 3 false x9, .list 3 false x9, .int .i64 0, .list 3 false x4, .bool false, .int .i64 0, .int .i64 0, .str ⟨#[]⟩, .list 3 false []], ok_store b0 c0 b9 c9 b9 c9 ⟨by omega, by omega⟩ b4 c4 ⟨by omega, by omega⟩ ⟨by omega, by omega⟩ (Nat.zero_le _) (Nat.zero_le _) trivial, (by simp -implicitDefEqProofs only [mnA, D.mnA, mnE]; omega), ?_, ?_⟩
        · rw [lim_fn (f := 191) rfl rfl]; simp -implicitDefEqProofs only [cs, ci, h1, h2, h3, k7, k8, h4, k1, k2, k3, k4, own, List.map_cons, List.map_nil, go_sem, reduceIte, Nat.reduceAdd, Nat.reduceEqDiff, Nat.reduceMul, Nat.reduceLeDiff, Nat.reduceBEq, Nat.reduceBNe, Nat.reduceSub, Nat.reduceLT]
        · rw [lim_fn (f := 192) rfl rfl]; simp -implicitDefEqProofs only [cs, ci, h1, h2, h3, k7, k8, h4, k1, k2, k3, k4, own, List.map_cons, List.map_nil, go_sem, reduceIte, Nat.reduceAdd, Nat.reduceEqDiff, Nat.reduceMul, Nat.reduceLeDiff, Nat.reduceBEq, Nat.reduceBNe, Nat.reduceSub, Nat.reduceLT]
      · refine ⟨[.list 19 false x0, .list 3 false x9, .list 3 false x2, .int .i64 x3, .list 3 false x4, .bool false, .int .i64 0, .int .i64 0, .str ⟨#[]⟩, .list 3 false []], ok_store b0 c0 b9 c9 b2 c2 i3 b4 c4 ⟨by omega, by omega⟩ ⟨by omega, by omega⟩ (Nat.zero_le _) (Nat.zero_le _) trivial, (by simp -implicitDefEqProofs only [mnA, D.mnA, mnE]; omega), ?_, ?_⟩
        · rw [lim_fn (f := 191) rfl rfl]; simp -implicitDefEqProofs only [cs, ci, h1, h2, h3, k7, k8, h4, own, List.map_cons, List.map_nil, go_sem, reduceIte, Nat.reduceAdd, Nat.reduceEqDiff, Nat.reduceMul, Nat.reduceLeDiff, Nat.reduceBEq, Nat.reduceBNe, Nat.reduceSub, Nat.reduceLT]
        · rw [lim_fn (f := 192) rfl rfl]; simp -implicitDefEqProofs only [cs, ci, h1, h2, h3, k7, k8, h4, own, List.map_cons, List.map_nil, go_sem, reduceIte, Nat.reduceAdd, Nat.reduceEqDiff, Nat.reduceMul, Nat.reduceLeDiff, Nat.reduceBEq, Nat.reduceBNe, Nat.reduceSub, Nat.reduceLT]
    · rcases pe (x3 = s) with h4 | h4
      · refine ⟨[.list 19 false x0, .list 3 false x1, .list 3 false x1, .int .i64 0, .list 3 false x4, .bool true, .int .i64 x6, .int .i64 x7, .str x8, .list 3 false x9], ok_store b0 c0 b1 c1 b1 c1 ⟨by omega, by omega⟩ b4 c4 i6 i7 b8 b9 c9, (by simp -implicitDefEqProofs only [mnA, D.mnA, mnE]; omega), ?_, ?_⟩
        · rw [lim_fn (f := 191) rfl rfl]; simp -implicitDefEqProofs only [cs, ci, h1, h2, h3, h4, k1, k2, k3, k4, own, List.map_cons, List.map_nil, go_sem, reduceIte, Nat.reduceAdd, Nat.reduceEqDiff, Nat.reduceMul, Nat.reduceLeDiff, Nat.reduceBEq, Nat.reduceBNe, Nat.reduceSub, Nat.reduceLT]
        · rw [lim_fn (f := 192) rfl rfl]; simp -implicitDefEqProofs only [cs, ci, h1, h2, h3, h4, k1, k2, k3, k4, own, List.map_cons, List.map_nil, go_sem, reduceIte, Nat.reduceAdd, Nat.reduceEqDiff, Nat.reduceMul, Nat.reduceLeDiff, Nat.reduceBEq, Nat.reduceBNe, Nat.reduceSub, Nat.reduceLT]
      · refine ⟨[.list 19 false x0, .list 3 false x1, .list 3 false x2, .int .i64 x3, .list 3 false x4, .bool true, .int .i64 x6, .int .i64 x7, .str x8, .list 3 false x9], ok_store b0 c0 b1 c1 b2 c2 i3 b4 c4 i6 i7 b8 b9 c9, (by simp -implicitDefEqProofs only [mnA, D.mnA, mnE]; omega), ?_, ?_⟩
        · rw [lim_fn (f := 191) rfl rfl]; simp -implicitDefEqProofs only [cs, ci, h1, h2, h3, h4, own, List.map_cons, List.map_nil, go_sem, reduceIte, Nat.reduceAdd, Nat.reduceEqDiff, Nat.reduceMul, Nat.reduceLeDiff, Nat.reduceBEq, Nat.reduceBNe, Nat.reduceSub, Nat.reduceLT]
        · rw [lim_fn (f := 192) rfl rfl]; simp -implicitDefEqProofs only [cs, ci, h1, h2, h3, h4, own, List.map_cons, List.map_nil, go_sem, reduceIte, Nat.reduceAdd, Nat.reduceEqDiff, Nat.reduceMul, Nat.reduceLeDiff, Nat.reduceBEq, Nat.reduceBNe, Nat.reduceSub, Nat.reduceLT]
  · rcases pe (x7 = s) with h3 | h3
    · rcases pe (x3 = s) with h4 | h4
      · refine ⟨[.list 19 false x0, .list 3 false x1, .list 3 false x1, .int .i64 0, .list 3 false x4, .bool true, .int .i64 x6, .int .i64 x7, .str x8, .list 3 false x9], ok_store b0 c0 b1 c1 b1 c1 ⟨by omega, by omega⟩ b4 c4 i6 i7 b8 b9 c9, (by simp -implicitDefEqProofs only [mnA, D.mnA, mnE]; omega), ?_, ?_⟩
        · rw [lim_fn (f := 191) rfl rfl]; simp -implicitDefEqProofs only [cs, ci, h1, h2, h3, h4, k1, k2, k3, k4, own, List.map_cons, List.map_nil, go_sem, reduceIte, Nat.reduceAdd, Nat.reduceEqDiff, Nat.reduceMul, Nat.reduceLeDiff, Nat.reduceBEq, Nat.reduceBNe, Nat.reduceSub, Nat.reduceLT]
        · rw [lim_fn (f := 192) rfl rfl]; simp -implicitDefEqProofs only [cs, ci, h1, h2, h3, h4, k1, k2, k3, k4, own, List.map_cons, List.map_nil, go_sem, reduceIte, Nat.reduceAdd, Nat.reduceEqDiff, Nat.reduceMul, Nat.reduceLeDiff, Nat.reduceBEq, Nat.reduceBNe, Nat.reduceSub, Nat.reduceLT]
      · refine ⟨[.list 19 false x0, .list 3 false x1, .list 3 false x2, .int .i64 x3, .list 3 false x4, .bool true, .int .i64 x6, .int .i64 x7, .str x8, .list 3 false x9], ok_store b0 c0 b1 c1 b2 c2 i3 b4 c4 i6 i7 b8 b9 c9, (by simp -implicitDefEqProofs only [mnA, D.mnA, mnE]; omega), ?_, ?_⟩
        · rw [lim_fn (f := 191) rfl rfl]; simp -implicitDefEqProofs only [cs, ci, h1, h2, h3, h4, own, List.map_cons, List.map_nil, go_sem, reduceIte, Nat.reduceAdd, Nat.reduceEqDiff, Nat.reduceMul, Nat.reduceLeDiff, Nat.reduceBEq, Nat.reduceBNe, Nat.reduceSub, Nat.reduceLT]
        · rw [lim_fn (f := 192) rfl rfl]; simp -implicitDefEqProofs only [cs, ci, h1, h2, h3, h4, own, List.map_cons, List.map_nil, go_sem, reduceIte, Nat.reduceAdd, Nat.reduceEqDiff, Nat.reduceMul, Nat.reduceLeDiff, Nat.reduceBEq, Nat.reduceBNe, Nat.reduceSub, Nat.reduceLT]
    · rcases pe (x3 = s) with h4 | h4
      · refine ⟨[.list 19 false x0, .list 3 false x1, .list 3 false x1, .int .i64 0, .list 3 false x4, .bool true, .int .i64 x6, .int .i64 x7, .str x8, .list 3 false x9], ok_store b0 c0 b1 c1 b1 c1 ⟨by omega, by omega⟩ b4 c4 i6 i7 b8 b9 c9, (by simp -implicitDefEqProofs only [mnA, D.mnA, mnE]; omega), ?_, ?_⟩
        · rw [lim_fn (f := 191) rfl rfl]; simp -implicitDefEqProofs only [cs, ci, h1, h2, h3, h4, k1, k2, k3, k4, own, List.map_cons, List.map_nil, go_sem, reduceIte, Nat.reduceAdd, Nat.reduceEqDiff, Nat.reduceMul, Nat.reduceLeDiff, Nat.reduceBEq, Nat.reduceBNe, Nat.reduceSub, Nat.reduceLT]
        · rw [lim_fn (f := 192) rfl rfl]; simp -implicitDefEqProofs only [cs, ci, h1, h2, h3, h4, k1, k2, k3, k4, own, List.map_cons, List.map_nil, go_sem, reduceIte, Nat.reduceAdd, Nat.reduceEqDiff, Nat.reduceMul, Nat.reduceLeDiff, Nat.reduceBEq, Nat.reduceBNe, Nat.reduceSub, Nat.reduceLT]
      · refine ⟨[.list 19 false x0, .list 3 false x1, .list 3 false x2, .int .i64 x3, .list 3 false x4, .bool true, .int .i64 x6, .int .i64 x7, .str x8, .list 3 false x9], ok_store b0 c0 b1 c1 b2 c2 i3 b4 c4 i6 i7 b8 b9 c9, (by simp -implicitDefEqProofs only [mnA, D.mnA, mnE]; omega), ?_, ?_⟩
        · rw [lim_fn (f := 191) rfl rfl]; simp -implicitDefEqProofs only [cs, ci, h1, h2, h3, h4, own, List.map_cons, List.map_nil, go_sem, reduceIte, Nat.reduceAdd, Nat.reduceEqDiff, Nat.reduceMul, Nat.reduceLeDiff, Nat.reduceBEq, Nat.reduceBNe, Nat.reduceSub, Nat.reduceLT]
        · rw [lim_fn (f := 192) rfl rfl]; simp -implicitDefEqProofs only [cs, ci, h1, h2, h3, h4, own, List.map_cons, List.map_nil, go_sem, reduceIte, Nat.reduceAdd, Nat.reduceEqDiff, Nat.reduceMul, Nat.reduceLeDiff, Nat.reduceBEq, Nat.reduceBNe, Nat.reduceSub, Nat.reduceLT]

end Go.Proofs.Ytmaigpiappmpcaa
