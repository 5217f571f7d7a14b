/-
  What the functions sz.. answer: what is left. Printed by a program of our own.
-/
import Derived.Test.YtmaigpiappmpcaaGreatInv
import Derived.Test.YtmaigpiappmpcaaGreatKP1T
namespace Go.Proofs.YtmaigpiappmpcaaGreat
open Go.RowKit
set_option maxRecDepth 100000
set_option maxHeartbeats 4000000
set_option linter.unusedSimpArgs false
set_option linter.unusedVariables false

theorem sz_StringS (es : List (List D)) (hB : es.length ≤ maxLen) (ok : OkE maxLen 0 es) (l : Int) (h0 : 0 ≤ l) (h1 : l ≤ 4611686018427387904) :
    lim T 46 [.val false [.d (.list 1 true es)], .val false [.d (.int .i64 l)]] = some ([.val false [.d (.int .i64 (szr (es.length + szE es) l))]], []) := by
  have w : IntKind.i64.wrap (l - (es.length : Int)) = l - (es.length : Int) := i64_wrap (by simp -implicitDefEqProofs only [maxLen] at hB; omega)
  rw [lim_fn (f := 46) rfl rfl]
  simp -implicitDefEqProofs only [w, go_sem, reduceIte, Nat.reduceAdd, Nat.reduceEqDiff, Nat.reduceMul, Nat.reduceLeDiff, Nat.reduceBEq, Nat.reduceBNe, Nat.reduceSub, Nat.reduceLT]
  split
  · rename_i c
    simp -implicitDefEqProofs only [go_sem, reduceIte, Nat.reduceAdd, Nat.reduceEqDiff, Nat.reduceMul, Nat.reduceLeDiff, Nat.reduceBEq, Nat.reduceBNe, Nat.reduceSub, Nat.reduceLT]
    exact ret_int (by rw [szr_neg (by omega)])
  rename_i c
  have hl := loop_sz (T := T) (mf := mf0) (body := lp46_0) (es := es) (fun i l => ⟨[(0, .d (.list 1 true es)), (1, .d (.int .i64 l)), (5, .d (.int .i64 (i : Int)))], [], []⟩) (fun l => ⟨[(0, .d (.list 1 true es)), (1, .d (.int .i64 l)), (5, .d (.int .i64 es.length)), (15, .d (.bool false))], [], []⟩) ⟨[(4, .d (.int .i64 (-1)))], [], []⟩
    (by
      intro i e l hn h0 h1 c
      have hi : i < es.length := by rw [nth_get] at hn; exact (List.getElem?_eq_some_iff.1 hn).1
      obtain ⟨x0, rfl, b0⟩ := inv_str (ok.nth_ hn)
      simp -implicitDefEqProofs only [szC, D.sz, Nat.add_zero] at c ⊢
      have w : IntKind.i64.wrap (l - (x0.size : Int)) = l - (x0.size : Int) := i64_wrap (by simp -implicitDefEqProofs only [maxLen] at b0; omega)
      have d : ¬ (l - (x0.size : Int) < 0) := by omega
      simp -implicitDefEqProofs only [lp46_0, hn, w, d, hi, ilt hi, wi hi hB, Int.natCast_nonneg, go_sem, reduceIte, Nat.reduceAdd, Nat.reduceEqDiff, Nat.reduceMul, Nat.reduceLeDiff, Nat.reduceBEq, Nat.reduceBNe, Nat.reduceSub, Nat.reduceLT])
    (by
      intro i e l hn h0 h1 c
      have hi : i < es.length := by rw [nth_get] at hn; exact (List.getElem?_eq_some_iff.1 hn).1
      obtain ⟨x0, rfl, b0⟩ := inv_str (ok.nth_ hn)
      simp -implicitDefEqProofs only [szC, D.sz, Nat.add_zero] at c ⊢
      have w : IntKind.i64.wrap (l - (x0.size : Int)) = l - (x0.size : Int) := i64_wrap (by simp -implicitDefEqProofs only [maxLen] at b0; omega)
      have d : (l - (x0.size : Int) < 0) := by omega
      simp -implicitDefEqProofs only [lp46_0, hn, w, d, hi, ilt hi, wi hi hB, Int.natCast_nonneg, go_sem, reduceIte, Nat.reduceAdd, Nat.reduceEqDiff, Nat.reduceMul, Nat.reduceLeDiff, Nat.reduceBEq, Nat.reduceBNe, Nat.reduceSub, Nat.reduceLT])
    (by intro l _ _; simp -implicitDefEqProofs only [lp46_0, nlt, go_sem, reduceIte, Nat.reduceAdd, Nat.reduceEqDiff, Nat.reduceMul, Nat.reduceLeDiff, Nat.reduceBEq, Nat.reduceBNe, Nat.reduceSub, Nat.reduceLT]) es.length 0 (l - es.length) (by omega) (by omega) (by omega)
  simp -implicitDefEqProofs only [Int.natCast_zero, List.drop_zero] at hl
  by_cases d : (szE es : Int) ≤ l - es.length
  · rw [if_pos d] at hl
    simp -implicitDefEqProofs only [hl, go_sem, reduceIte, Nat.reduceAdd, Nat.reduceEqDiff, Nat.reduceMul, Nat.reduceLeDiff, Nat.reduceBEq, Nat.reduceBNe, Nat.reduceSub, Nat.reduceLT]
    exact ret_int (by rw [szr_pos (by omega)]; omega)
  · rw [if_neg d] at hl
    simp -implicitDefEqProofs only [hl, go_sem, reduceIte, Nat.reduceAdd, Nat.reduceEqDiff, Nat.reduceMul, Nat.reduceLeDiff, Nat.reduceBEq, Nat.reduceBNe, Nat.reduceSub, Nat.reduceLT]
    exact ret_int (by rw [szr_neg (by omega)])
theorem sz_RangeS (es : List (List D)) (hB : es.length ≤ maxLen) (ok : OkE maxLen 6 es) (l : Int) (h0 : 0 ≤ l) (h1 : l ≤ 4611686018427387904) :
    lim T 45 [.val false [.d (.list 2 true es)], .val false [.d (.int .i64 l)]] = some ([.val false [.d (.int .i64 (szr (es.length + szE es) l))]], []) := by
  have w : IntKind.i64.wrap (l - (es.length : Int)) = l - (es.length : Int) := i64_wrap (by simp -implicitDefEqProofs only [maxLen] at hB; omega)
  rw [lim_fn (f := 45) rfl rfl]
  simp -implicitDefEqProofs only [w, go_sem, reduceIte, Nat.reduceAdd, Nat.reduceEqDiff, Nat.reduceMul, Nat.reduceLeDiff, Nat.reduceBEq, Nat.reduceBNe, Nat.reduceSub, Nat.reduceLT]
  split
  · rename_i c
    simp -implicitDefEqProofs only [go_sem, reduceIte, Nat.reduceAdd, Nat.reduceEqDiff, Nat.reduceMul, Nat.reduceLeDiff, Nat.reduceBEq, Nat.reduceBNe, Nat.reduceSub, Nat.reduceLT]
    exact ret_int (by rw [szr_neg (by omega)])
  rename_i c
  have z : szE es = 0 := szE_zero es fun e he => by
    obtain ⟨x0, x1, rfl, _⟩ := inv_Range (ok.mem e he)
    rfl
  simp -implicitDefEqProofs only [go_sem, reduceIte, Nat.reduceAdd, Nat.reduceEqDiff, Nat.reduceMul, Nat.reduceLeDiff, Nat.reduceBEq, Nat.reduceBNe, Nat.reduceSub, Nat.reduceLT]
  exact ret_int (by rw [z, szr_pos (by omega)]; omega)
theorem sz_Type (e : List D) (ok : OkC maxLen (lay 7) e) (l : Int) (h0 : 0 ≤ l) (h1 : l ≤ 4611686018427387904) :
    lim T 47 [.val true (e.map .d), .val false [.d (.int .i64 l)]] = some ([.val false [.d (.int .i64 (szr (szC e) l))]], []) := by
  obtain ⟨x0, x1, x2, x3, x4, rfl, _, ⟨b1, c1⟩, ⟨b2, c2⟩, b3, b4⟩ := inv_Type ok
  rw [lim_fn (f := 47) rfl rfl]
  have f1 := sz_RangeS x1 b1 c1 (l) (by omega) (by omega)
  simp -implicitDefEqProofs only [f1, go_sem, reduceIte, Nat.reduceAdd, Nat.reduceEqDiff, Nat.reduceMul, Nat.reduceLeDiff, Nat.reduceBEq, Nat.reduceBNe, Nat.reduceSub, Nat.reduceLT]
  split
  · rename_i c
    have c_ := szr_lt (by omega) c
    simp -implicitDefEqProofs only [go_sem, reduceIte, Nat.reduceAdd, Nat.reduceEqDiff, Nat.reduceMul, Nat.reduceLeDiff, Nat.reduceBEq, Nat.reduceBNe, Nat.reduceSub, Nat.reduceLT]
    exact ret_int (by rw [szr_neg (by simp -implicitDefEqProofs only [szC, D.sz]; omega)])
  rename_i c1_
  obtain ⟨r1, q1⟩ := szr_nn c1_
  simp -implicitDefEqProofs only [r1]
  clear f1 r1 c1_
  generalize e1 : l - ((x1.length + szE x1 : Nat) : Int) = l1 at *
  have p1 : 0 ≤ l1 := by omega
  have f2 := sz_StringS x2 b2 c2 (l1) (by omega) (by omega)
  simp -implicitDefEqProofs only [f2, go_sem, reduceIte, Nat.reduceAdd, Nat.reduceEqDiff, Nat.reduceMul, Nat.reduceLeDiff, Nat.reduceBEq, Nat.reduceBNe, Nat.reduceSub, Nat.reduceLT]
  split
  · rename_i c
    have c_ := szr_lt (by omega) c
    simp -implicitDefEqProofs only [go_sem, reduceIte, Nat.reduceAdd, Nat.reduceEqDiff, Nat.reduceMul, Nat.reduceLeDiff, Nat.reduceBEq, Nat.reduceBNe, Nat.reduceSub, Nat.reduceLT]
    exact ret_int (by rw [szr_neg (by simp -implicitDefEqProofs only [szC, D.sz]; omega)])
  rename_i c2_
  obtain ⟨r2, q2⟩ := szr_nn c2_
  simp -implicitDefEqProofs only [r2]
  clear f2 r2 c2_
  generalize e2 : l1 - ((x2.length + szE x2 : Nat) : Int) = l2 at *
  have p2 : 0 ≤ l2 := by omega
  have w3 : IntKind.i64.wrap (l2 - (x3.size : Int)) = l2 - (x3.size : Int) := i64_wrap (by simp -implicitDefEqProofs only [maxLen] at b3; omega)
  simp -implicitDefEqProofs only [w3, go_sem, reduceIte, Nat.reduceAdd, Nat.reduceEqDiff, Nat.reduceMul, Nat.reduceLeDiff, Nat.reduceBEq, Nat.reduceBNe, Nat.reduceSub, Nat.reduceLT]
  split
  · rename_i c
    simp -implicitDefEqProofs only [go_sem, reduceIte, Nat.reduceAdd, Nat.reduceEqDiff, Nat.reduceMul, Nat.reduceLeDiff, Nat.reduceBEq, Nat.reduceBNe, Nat.reduceSub, Nat.reduceLT]
    exact ret_int (by rw [szr_neg (by simp -implicitDefEqProofs only [szC, D.sz]; omega)])
  rename_i c3_
  clear w3
  generalize e3 : l2 - (x3.size : Int) = l3 at *
  have p3 : 0 ≤ l3 := by omega
  have w4 : IntKind.i64.wrap (l3 - (x4.size : Int)) = l3 - (x4.size : Int) := i64_wrap (by simp -implicitDefEqProofs only [maxLen] at b4; omega)
  simp -implicitDefEqProofs only [w4, go_sem, reduceIte, Nat.reduceAdd, Nat.reduceEqDiff, Nat.reduceMul, Nat.reduceLeDiff, Nat.reduceBEq, Nat.reduceBNe, Nat.reduceSub, Nat.reduceLT]
  split
  · rename_i c
    simp -implicitDefEqProofs only [go_sem, reduceIte, Nat.reduceAdd, Nat.reduceEqDiff, Nat.reduceMul, Nat.reduceLeDiff, Nat.reduceBEq, Nat.reduceBNe, Nat.reduceSub, Nat.reduceLT]
    exact ret_int (by rw [szr_neg (by simp -implicitDefEqProofs only [szC, D.sz]; omega)])
  rename_i c4_
  clear w4
  generalize e4 : l3 - (x4.size : Int) = l4 at *
  have p4 : 0 ≤ l4 := by omega
  simp -implicitDefEqProofs only [go_sem, reduceIte, Nat.reduceAdd, Nat.reduceEqDiff, Nat.reduceMul, Nat.reduceLeDiff, Nat.reduceBEq, Nat.reduceBNe, Nat.reduceSub, Nat.reduceLT]
  refine ret_int (szr_fin ?_ p4).symm
  simp -implicitDefEqProofs only [szC, D.sz]
  clear ok h0 h1 p1 p2 p3 p4 b1 b2 b3 b4
  omega
theorem sz_Test (e : List D) (ok : OkC maxLen (lay 8) e) (l : Int) (h0 : 0 ≤ l) (h1 : l ≤ 4611686018427387904) :
    lim T 48 [.val true (e.map .d), .val false [.d (.int .i64 l)]] = some ([.val false [.d (.int .i64 (szr (szC e) l))]], []) := by
  obtain ⟨x0, x1, rfl, b0, b1⟩ := inv_Test ok
  rw [lim_fn (f := 48) rfl rfl]
  have w0 : IntKind.i64.wrap (l - (x0.size : Int)) = l - (x0.size : Int) := i64_wrap (by simp -implicitDefEqProofs only [maxLen] at b0; omega)
  simp -implicitDefEqProofs only [w0, go_sem, reduceIte, Nat.reduceAdd, Nat.reduceEqDiff, Nat.reduceMul, Nat.reduceLeDiff, Nat.reduceBEq, Nat.reduceBNe, Nat.reduceSub, Nat.reduceLT]
  split
  · rename_i c
    simp -implicitDefEqProofs only [go_sem, reduceIte, Nat.reduceAdd, Nat.reduceEqDiff, Nat.reduceMul, Nat.reduceLeDiff, Nat.reduceBEq, Nat.reduceBNe, Nat.reduceSub, Nat.reduceLT]
    exact ret_int (by rw [szr_neg (by simp -implicitDefEqProofs only [szC, D.sz]; omega)])
  rename_i c0_
  clear w0
  generalize e0 : l - (x0.size : Int) = l0 at *
  have p0 : 0 ≤ l0 := by omega
  have w1 : IntKind.i64.wrap (l0 - (x1.size : Int)) = l0 - (x1.size : Int) := i64_wrap (by simp -implicitDefEqProofs only [maxLen] at b1; omega)
  simp -implicitDefEqProofs only [w1, go_sem, reduceIte, Nat.reduceAdd, Nat.reduceEqDiff, Nat.reduceMul, Nat.reduceLeDiff, Nat.reduceBEq, Nat.reduceBNe, Nat.reduceSub, Nat.reduceLT]
  split
  · rename_i c
    simp -implicitDefEqProofs only [go_sem, reduceIte, Nat.reduceAdd, Nat.reduceEqDiff, Nat.reduceMul, Nat.reduceLeDiff, Nat.reduceBEq, Nat.reduceBNe, Nat.reduceSub, Nat.reduceLT]
    exact ret_int (by rw [szr_neg (by simp -implicitDefEqProofs only [szC, D.sz]; omega)])
  rename_i c1_
  clear w1
  generalize e1 : l0 - (x1.size : Int) = l1 at *
  have p1 : 0 ≤ l1 := by omega
  simp -implicitDefEqProofs only [go_sem, reduceIte, Nat.reduceAdd, Nat.reduceEqDiff, Nat.reduceMul, Nat.reduceLeDiff, Nat.reduceBEq, Nat.reduceBNe, Nat.reduceSub, Nat.reduceLT]
  refine ret_int (szr_fin ?_ p1).symm
  simp -implicitDefEqProofs only [szC, D.sz]
  clear ok h0 h1 p0 p1 b0 b1
  omega
theorem sz_TestS (es : List (List D)) (hB : es.length ≤ maxLen) (ok : OkE maxLen 8 es) (l : Int) (h0 : 0 ≤ l) (h1 : l ≤ 4611686018427387904) :
    lim T 49 [.val false [.d (.list 2 true es)], .val false [.d (.int .i64 l)]] = some ([.val false [.d (.int .i64 (szr (es.length + szE es) l))]], []) := by
  have h : ∀ e ∈ es, ∀ (l : Int), 0 ≤ l → l ≤ 4611686018427387904 → lim T 48 [.val true (e.map .d), .val false [.d (.int .i64 l)]] = some ([.val false [.d (.int .i64 (szr (szC e) l))]], []) := fun e he => sz_Test e (ok.mem e he)
  have w : IntKind.i64.wrap (l - (es.length : Int)) = l - (es.length : Int) := i64_wrap (by simp -implicitDefEqProofs only [maxLen] at hB; omega)
  rw [lim_fn (f := 49) rfl rfl]
  simp -implicitDefEqProofs only [w, go_sem, reduceIte, Nat.reduceAdd, Nat.reduceEqDiff, Nat.reduceMul, Nat.reduceLeDiff, Nat.reduceBEq, Nat.reduceBNe, Nat.reduceSub, Nat.reduceLT]
  split
  · rename_i c
    simp -implicitDefEqProofs only [go_sem, reduceIte, Nat.reduceAdd, Nat.reduceEqDiff, Nat.reduceMul, Nat.reduceLeDiff, Nat.reduceBEq, Nat.reduceBNe, Nat.reduceSub, Nat.reduceLT]
    exact ret_int (by rw [szr_neg (by omega)])
  rename_i c
  have hl := loop_sz (T := T) (mf := mf0) (body := lp49_0) (es := es) (fun i l => ⟨[(0, .d (.list 2 true es)), (1, .d (.int .i64 l)), (5, .d (.int .i64 (i : Int)))], [], []⟩) (fun l => ⟨[(0, .d (.list 2 true es)), (1, .d (.int .i64 l)), (5, .d (.int .i64 es.length)), (15, .d (.bool false))], [], []⟩) ⟨[(4, .d (.int .i64 (-1)))], [], []⟩
    (by
      intro i e l hn h0 h1 c
      have hi : i < es.length := by rw [nth_get] at hn; exact (List.getElem?_eq_some_iff.1 hn).1
      have hx := h _ (nth_mem hn) l h0 h1
      rw [szr_pos c] at hx
      have d : ¬ (l - (szC e : Int) < 0) := by omega
      obtain ⟨x0, x1, rfl, _⟩ := inv_Test (ok.nth_ hn)
      simp -implicitDefEqProofs only [List.map_cons, List.map_nil] at hx
      simp -implicitDefEqProofs only [lp49_0, hn, hx, d, hi, ilt hi, wi hi hB, Int.natCast_nonneg, go_sem, reduceIte, Nat.reduceAdd, Nat.reduceEqDiff, Nat.reduceMul, Nat.reduceLeDiff, Nat.reduceBEq, Nat.reduceBNe, Nat.reduceSub, Nat.reduceLT])
    (by
      intro i e l hn h0 h1 c
      have hi : i < es.length := by rw [nth_get] at hn; exact (List.getElem?_eq_some_iff.1 hn).1
      have hx := h _ (nth_mem hn) l h0 h1
      rw [szr_neg c] at hx
      have d : ((-1 : Int) < 0) = True := by simp
      obtain ⟨x0, x1, rfl, _⟩ := inv_Test (ok.nth_ hn)
      simp -implicitDefEqProofs only [List.map_cons, List.map_nil] at hx
      simp -implicitDefEqProofs only [lp49_0, hn, hx, d, hi, ilt hi, wi hi hB, Int.natCast_nonneg, go_sem, reduceIte, Nat.reduceAdd, Nat.reduceEqDiff, Nat.reduceMul, Nat.reduceLeDiff, Nat.reduceBEq, Nat.reduceBNe, Nat.reduceSub, Nat.reduceLT])
    (by intro l _ _; simp -implicitDefEqProofs only [lp49_0, nlt, go_sem, reduceIte, Nat.reduceAdd, Nat.reduceEqDiff, Nat.reduceMul, Nat.reduceLeDiff, Nat.reduceBEq, Nat.reduceBNe, Nat.reduceSub, Nat.reduceLT]) es.length 0 (l - es.length) (by omega) (by omega) (by omega)
  simp -implicitDefEqProofs only [Int.natCast_zero, List.drop_zero] at hl
  by_cases d : (szE es : Int) ≤ l - es.length
  · rw [if_pos d] at hl
    simp -implicitDefEqProofs only [hl, go_sem, reduceIte, Nat.reduceAdd, Nat.reduceEqDiff, Nat.reduceMul, Nat.reduceLeDiff, Nat.reduceBEq, Nat.reduceBNe, Nat.reduceSub, Nat.reduceLT]
    exact ret_int (by rw [szr_pos (by omega)]; omega)
  · rw [if_neg d] at hl
    simp -implicitDefEqProofs only [hl, go_sem, reduceIte, Nat.reduceAdd, Nat.reduceEqDiff, Nat.reduceMul, Nat.reduceLeDiff, Nat.reduceBEq, Nat.reduceBNe, Nat.reduceSub, Nat.reduceLT]
    exact ret_int (by rw [szr_neg (by omega)])
theorem sz_Step (e : List D) (ok : OkC maxLen (lay 9) e) (l : Int) (h0 : 0 ≤ l) (h1 : l ≤ 4611686018427387904) :
    lim T 50 [.val true (e.map .d), .val false [.d (.int .i64 l)]] = some ([.val false [.d (.int .i64 (szr (szC e) l))]], []) := by
  obtain ⟨x0, x1, rfl, b0, ⟨b1, c1⟩⟩ := inv_Step ok
  rw [lim_fn (f := 50) rfl rfl]
  have w0 : IntKind.i64.wrap (l - (x0.size : Int)) = l - (x0.size : Int) := i64_wrap (by simp -implicitDefEqProofs only [maxLen] at b0; omega)
  simp -implicitDefEqProofs only [w0, go_sem, reduceIte, Nat.reduceAdd, Nat.reduceEqDiff, Nat.reduceMul, Nat.reduceLeDiff, Nat.reduceBEq, Nat.reduceBNe, Nat.reduceSub, Nat.reduceLT]
  split
  · rename_i c
    simp -implicitDefEqProofs only [go_sem, reduceIte, Nat.reduceAdd, Nat.reduceEqDiff, Nat.reduceMul, Nat.reduceLeDiff, Nat.reduceBEq, Nat.reduceBNe, Nat.reduceSub, Nat.reduceLT]
    exact ret_int (by rw [szr_neg (by simp -implicitDefEqProofs only [szC, D.sz]; omega)])
  rename_i c0_
  clear w0
  generalize e0 : l - (x0.size : Int) = l0 at *
  have p0 : 0 ≤ l0 := by omega
  have f1 := sz_TestS x1 b1 c1 (l0) (by omega) (by omega)
  simp -implicitDefEqProofs only [f1, go_sem, reduceIte, Nat.reduceAdd, Nat.reduceEqDiff, Nat.reduceMul, Nat.reduceLeDiff, Nat.reduceBEq, Nat.reduceBNe, Nat.reduceSub, Nat.reduceLT]
  split
  · rename_i c
    have c_ := szr_lt (by omega) c
    simp -implicitDefEqProofs only [go_sem, reduceIte, Nat.reduceAdd, Nat.reduceEqDiff, Nat.reduceMul, Nat.reduceLeDiff, Nat.reduceBEq, Nat.reduceBNe, Nat.reduceSub, Nat.reduceLT]
    exact ret_int (by rw [szr_neg (by simp -implicitDefEqProofs only [szC, D.sz]; omega)])
  rename_i c1_
  obtain ⟨r1, q1⟩ := szr_nn c1_
  simp -implicitDefEqProofs only [r1]
  clear f1 r1 c1_
  generalize e1 : l0 - ((x1.length + szE x1 : Nat) : Int) = l1 at *
  have p1 : 0 ≤ l1 := by omega
  simp -implicitDefEqProofs only [go_sem, reduceIte, Nat.reduceAdd, Nat.reduceEqDiff, Nat.reduceMul, Nat.reduceLeDiff, Nat.reduceBEq, Nat.reduceBNe, Nat.reduceSub, Nat.reduceLT]
  refine ret_int (szr_fin ?_ p1).symm
  simp -implicitDefEqProofs only [szC, D.sz]
  clear ok h0 h1 p0 p1 b0 b1
  omega
theorem sz_StepS (es : List (List D)) (hB : es.length ≤ maxLen) (ok : OkE maxLen 9 es) (l : Int) (h0 : 0 ≤ l) (h1 : l ≤ 4611686018427387904) :
    lim T 51 [.val false [.d (.list 2 false es)], .val false [.d (.int .i64 l)]] = some ([.val false [.d (.int .i64 (szr (es.length + szE es) l))]], []) := by
  have h : ∀ e ∈ es, ∀ (l : Int), 0 ≤ l → l ≤ 4611686018427387904 → lim T 50 [.val true (e.map .d), .val false [.d (.int .i64 l)]] = some ([.val false [.d (.int .i64 (szr (szC e) l))]], []) := fun e he => sz_Step e (ok.mem e he)
  have w : IntKind.i64.wrap (l - (es.length : Int)) = l - (es.length : Int) := i64_wrap (by simp -implicitDefEqProofs only [maxLen] at hB; omega)
  rw [lim_fn (f := 51) rfl rfl]
  simp -implicitDefEqProofs only [w, go_sem, reduceIte, Nat.reduceAdd, Nat.reduceEqDiff, Nat.reduceMul, Nat.reduceLeDiff, Nat.reduceBEq, Nat.reduceBNe, Nat.reduceSub, Nat.reduceLT]
  split
  · rename_i c
    simp -implicitDefEqProofs only [go_sem, reduceIte, Nat.reduceAdd, Nat.reduceEqDiff, Nat.reduceMul, Nat.reduceLeDiff, Nat.reduceBEq, Nat.reduceBNe, Nat.reduceSub, Nat.reduceLT]
    exact ret_int (by rw [szr_neg (by omega)])
  rename_i c
  have hl := loop_sz (T := T) (mf := mf0) (body := lp51_0) (es := es) (fun i l => ⟨[(0, .d (.list 2 false es)), (1, .d (.int .i64 l)), (5, .d (.int .i64 (i : Int)))], [], []⟩) (fun l => ⟨[(0, .d (.list 2 false es)), (1, .d (.int .i64 l)), (5, .d (.int .i64 es.length)), (15, .d (.bool false))], [], []⟩) ⟨[(4, .d (.int .i64 (-1)))], [], []⟩
    (by
      intro i e l hn h0 h1 c
      have hi : i < es.length := by rw [nth_get] at hn; exact (List.getElem?_eq_some_iff.1 hn).1
      have hx := h _ (nth_mem hn) l h0 h1
      rw [szr_pos c] at hx
      have d : ¬ (l - (szC e : Int) < 0) := by omega
      obtain ⟨x0, x1, rfl, _⟩ := inv_Step (ok.nth_ hn)
      simp -implicitDefEqProofs only [List.map_cons, List.map_nil] at hx
      simp -implicitDefEqProofs only [lp51_0, hn, hx, d, hi, ilt hi, wi hi hB, Int.natCast_nonneg, go_sem, reduceIte, Nat.reduceAdd, Nat.reduceEqDiff, Nat.reduceMul, Nat.reduceLeDiff, Nat.reduceBEq, Nat.reduceBNe, Nat.reduceSub, Nat.reduceLT])
    (by
      intro i e l hn h0 h1 c
      have hi : i < es.length := by rw [nth_get] at hn; exact (List.getElem?_eq_some_iff.1 hn).1
      have hx := h _ (nth_mem hn) l h0 h1
      rw [szr_neg c] at hx
      have d : ((-1 : Int) < 0) = True := by simp
      obtain ⟨x0, x1, rfl, _⟩ := inv_Step (ok.nth_ hn)
      simp -implicitDefEqProofs only [List.map_cons, List.map_nil] at hx
      simp -implicitDefEqProofs only [lp51_0, hn, hx, d, hi, ilt hi, wi hi hB, Int.natCast_nonneg, go_sem, reduceIte, Nat.reduceAdd, Nat.reduceEqDiff, Nat.reduceMul, Nat.reduceLeDiff, Nat.reduceBEq, Nat.reduceBNe, Nat.reduceSub, Nat.reduceLT])
    (by intro l _ _; simp -implicitDefEqProofs only [lp51_0, nlt, go_sem, reduceIte, Nat.reduceAdd, Nat.reduceEqDiff, Nat.reduceMul, Nat.reduceLeDiff, Nat.reduceBEq, Nat.reduceBNe, Nat.reduceSub, Nat.reduceLT]) es.length 0 (l - es.length) (by omega) (by omega) (by omega)
  simp -implicitDefEqProofs only [Int.natCast_zero, List.drop_zero] at hl
  by_cases d : (szE es : Int) ≤ l - es.length
  · rw [if_pos d] at hl
    simp -implicitDefEqProofs only [hl, go_sem, reduceIte, Nat.reduceAdd, Nat.reduceEqDiff, Nat.reduceMul, Nat.reduceLeDiff, Nat.reduceBEq, Nat.reduceBNe, Nat.reduceSub, Nat.reduceLT]
    exact ret_int (by rw [szr_pos (by omega)]; omega)
  · rw [if_neg d] at hl
    simp -implicitDefEqProofs only [hl, go_sem, reduceIte, Nat.reduceAdd, Nat.reduceEqDiff, Nat.reduceMul, Nat.reduceLeDiff, Nat.reduceBEq, Nat.reduceBNe, Nat.reduceSub, Nat.reduceLT]
    exact ret_int (by rw [szr_neg (by omega)])
theorem sz_Path (e : List D) (ok : OkC maxLen (lay 10) e) (l : Int) (h0 : 0 ≤ l) (h1 : l ≤ 4611686018427387904) :
    lim T 52 [.val true (e.map .d), .val false [.d (.int .i64 l)]] = some ([.val false [.d (.int .i64 (szr (szC e) l))]], []) := by
  obtain ⟨x0, x1, x2, rfl, _, _, ⟨b2, c2⟩⟩ := inv_Path ok
  rw [lim_fn (f := 52) rfl rfl]
  have f2 := sz_StepS x2 b2 c2 (l) (by omega) (by omega)
  simp -implicitDefEqProofs only [f2, go_sem, reduceIte, Nat.reduceAdd, Nat.reduceEqDiff, Nat.reduceMul, Nat.reduceLeDiff, Nat.reduceBEq, Nat.reduceBNe, Nat.reduceSub, Nat.reduceLT]
  split
  · rename_i c
    have c_ := szr_lt (by omega) c
    simp -implicitDefEqProofs only [go_sem, reduceIte, Nat.reduceAdd, Nat.reduceEqDiff, Nat.reduceMul, Nat.reduceLeDiff, Nat.reduceBEq, Nat.reduceBNe, Nat.reduceSub, Nat.reduceLT]
    exact ret_int (by rw [szr_neg (by simp -implicitDefEqProofs only [szC, D.sz]; omega)])
  rename_i c2_
  obtain ⟨r2, q2⟩ := szr_nn c2_
  simp -implicitDefEqProofs only [r2]
  clear f2 r2 c2_
  generalize e2 : l - ((x2.length + szE x2 : Nat) : Int) = l2 at *
  have p2 : 0 ≤ l2 := by omega
  simp -implicitDefEqProofs only [go_sem, reduceIte, Nat.reduceAdd, Nat.reduceEqDiff, Nat.reduceMul, Nat.reduceLeDiff, Nat.reduceBEq, Nat.reduceBNe, Nat.reduceSub, Nat.reduceLT]
  refine ret_int (szr_fin ?_ p2).symm
  simp -implicitDefEqProofs only [szC, D.sz]
  clear ok h0 h1 p2 b2
  omega
theorem sz_Expr_s (x0 : Int) (x1 : Int) (x2 : ByteArray) (x3 : Bool) (x4 : Int) (x5 : List (List D)) (x6 : List (List D)) (ok : OkC maxLen (lay 11) [.int .i64 x0, .int .i64 x1, .str x2, .bool x3, .int .i64 x4, .list 2 false x5, .list 7 false x6]) (ih : ∀ (l : Int), 0 ≤ l → l ≤ 4611686018427387904 → lim T 54 [.val false [.d (.list 7 false x6)], .val false [.d (.int .i64 l)]] = some ([.val false [.d (.int .i64 (szr (x6.length + szE x6) l))]], [])) (l : Int) (h0 : 0 ≤ l) (h1 : l ≤ 4611686018427387904) :
    lim T 53 [.val true ([.int .i64 x0, .int .i64 x1, .str x2, .bool x3, .int .i64 x4, .list 2 false x5, .list 7 false x6].map .d), .val false [.d (.int .i64 l)]] = some ([.val false [.d (.int .i64 (szr (szC [.int .i64 x0, .int .i64 x1, .str x2, .bool x3, .int .i64 x4, .list 2 false x5, .list 7 false x6]) l))]], []) := by
  obtain ⟨y0, y1, y2, y3, y4, y5, y6, e0, _, _, b2, _, _, ⟨b5, c5⟩, ⟨b6, c6⟩⟩ := inv_Expr ok
  simp -implicitDefEqProofs only [List.cons.injEq, D.str.injEq, D.int.injEq, D.bool.injEq, D.list.injEq, true_and, and_true] at e0
  obtain ⟨rfl, rfl, rfl, rfl, rfl, rfl, rfl⟩ := e0
  rw [lim_fn (f := 53) rfl rfl]
  have w2 : IntKind.i64.wrap (l - (x2.size : Int)) = l - (x2.size : Int) := i64_wrap (by simp -implicitDefEqProofs only [maxLen] at b2; omega)
  simp -implicitDefEqProofs only [w2, go_sem, reduceIte, Nat.reduceAdd, Nat.reduceEqDiff, Nat.reduceMul, Nat.reduceLeDiff, Nat.reduceBEq, Nat.reduceBNe, Nat.reduceSub, Nat.reduceLT]
  split
  · rename_i c
    simp -implicitDefEqProofs only [go_sem, reduceIte, Nat.reduceAdd, Nat.reduceEqDiff, Nat.reduceMul, Nat.reduceLeDiff, Nat.reduceBEq, Nat.reduceBNe, Nat.reduceSub, Nat.reduceLT]
    exact ret_int (by rw [szr_neg (by simp -implicitDefEqProofs only [szC, D.sz]; omega)])
  rename_i c2_
  clear w2
  generalize e2 : l - (x2.size : Int) = l2 at *
  have p2 : 0 ≤ l2 := by omega
  have f3 := sz_Path _ (OkC.sub 3 3 ok) (l2) (by omega) (by omega)
  simp -implicitDefEqProofs only [List.drop_succ_cons, List.drop_zero, List.take_succ_cons, List.take_zero, List.map_cons, List.map_nil] at f3
  have s3 : (szC [.bool x3, .int .i64 x4, .list 2 false x5] : Nat) = 0 + x5.length + szE x5 := by simp -implicitDefEqProofs only [szC, D.sz]; omega
  simp -implicitDefEqProofs only [f3, go_sem, reduceIte, Nat.reduceAdd, Nat.reduceEqDiff, Nat.reduceMul, Nat.reduceLeDiff, Nat.reduceBEq, Nat.reduceBNe, Nat.reduceSub, Nat.reduceLT]
  split
  · rename_i c
    have c_ := szr_lt (by omega) c
    simp -implicitDefEqProofs only [go_sem, reduceIte, Nat.reduceAdd, Nat.reduceEqDiff, Nat.reduceMul, Nat.reduceLeDiff, Nat.reduceBEq, Nat.reduceBNe, Nat.reduceSub, Nat.reduceLT]
    exact ret_int (by rw [szr_neg (by simp -implicitDefEqProofs only [szC, D.sz]; omega)])
  rename_i c3_
  obtain ⟨r3, q3⟩ := szr_nn c3_
  simp -implicitDefEqProofs only [r3]
  clear f3 r3 c3_
  generalize e3 : l2 - ((szC [.bool x3, .int .i64 x4, .list 2 false x5] : Nat) : Int) = l3 at *
  have p3 : 0 ≤ l3 := by omega
  have f6 := ih (l3) (by omega) (by omega)
  simp -implicitDefEqProofs only [f6, go_sem, reduceIte, Nat.reduceAdd, Nat.reduceEqDiff, Nat.reduceMul, Nat.reduceLeDiff, Nat.reduceBEq, Nat.reduceBNe, Nat.reduceSub, Nat.reduceLT]
  split
  · rename_i c
    have c_ := szr_lt (by omega) c
    simp -implicitDefEqProofs only [go_sem, reduceIte, Nat.reduceAdd, Nat.reduceEqDiff, Nat.reduceMul, Nat.reduceLeDiff, Nat.reduceBEq, Nat.reduceBNe, Nat.reduceSub, Nat.reduceLT]
    exact ret_int (by rw [szr_neg (by simp -implicitDefEqProofs only [szC, D.sz]; omega)])
  rename_i c6_
  obtain ⟨r6, q6⟩ := szr_nn c6_
  simp -implicitDefEqProofs only [r6]
  clear f6 r6 c6_
  generalize e6 : l3 - ((x6.length + szE x6 : Nat) : Int) = l6 at *
  have p6 : 0 ≤ l6 := by omega
  simp -implicitDefEqProofs only [go_sem, reduceIte, Nat.reduceAdd, Nat.reduceEqDiff, Nat.reduceMul, Nat.reduceLeDiff, Nat.reduceBEq, Nat.reduceBNe, Nat.reduceSub, Nat.reduceLT]
  refine ret_int (szr_fin ?_ p6).symm
  simp -implicitDefEqProofs only [szC, D.sz]
  clear ok h0 h1 p2 p3 p6 b2 b5 b6
  omega
theorem sz_ExprS_s (es : List (List D)) (hB : es.length ≤ maxLen) (ok : OkE maxLen 11 es) (h : ∀ e ∈ es, ∀ (l : Int), 0 ≤ l → l ≤ 4611686018427387904 → lim T 53 [.val true (e.map .d), .val false [.d (.int .i64 l)]] = some ([.val false [.d (.int .i64 (szr (szC e) l))]], [])) (l : Int) (h0 : 0 ≤ l) (h1 : l ≤ 4611686018427387904) :
    lim T 54 [.val false [.d (.list 7 false es)], .val false [.d (.int .i64 l)]] = some ([.val false [.d (.int .i64 (szr (es.length + szE es) l))]], []) := by
  have w : IntKind.i64.wrap (l - (es.length : Int)) = l - (es.length : Int) := i64_wrap (by simp -implicitDefEqProofs only [maxLen] at hB; omega)
  rw [lim_fn (f := 54) rfl rfl]
  simp -implicitDefEqProofs only [w, go_sem, reduceIte, Nat.reduceAdd, Nat.reduceEqDiff, Nat.reduceMul, Nat.reduceLeDiff, Nat.reduceBEq, Nat.reduceBNe, Nat.reduceSub, Nat.reduceLT]
  split
  · rename_i c
    simp -implicitDefEqProofs only [go_sem, reduceIte, Nat.reduceAdd, Nat.reduceEqDiff, Nat.reduceMul, Nat.reduceLeDiff, Nat.reduceBEq, Nat.reduceBNe, Nat.reduceSub, Nat.reduceLT]
    exact ret_int (by rw [szr_neg (by omega)])
  rename_i c
  have hl := loop_sz (T := T) (mf := mf0) (body := lp54_0) (es := es) (fun i l => ⟨[(0, .d (.list 7 false es)), (1, .d (.int .i64 l)), (5, .d (.int .i64 (i : Int)))], [], []⟩) (fun l => ⟨[(0, .d (.list 7 false es)), (1, .d (.int .i64 l)), (5, .d (.int .i64 es.length)), (15, .d (.bool false))], [], []⟩) ⟨[(4, .d (.int .i64 (-1)))], [], []⟩
    (by
      intro i e l hn h0 h1 c
      have hi : i < es.length := by rw [nth_get] at hn; exact (List.getElem?_eq_some_iff.1 hn).1
      have hx := h _ (nth_mem hn) l h0 h1
      rw [szr_pos c] at hx
      have d : ¬ (l - (szC e : Int) < 0) := by omega
      obtain ⟨x0, x1, x2, x3, x4, x5, x6, rfl, _⟩ := inv_Expr (ok.nth_ hn)
      simp -implicitDefEqProofs only [List.map_cons, List.map_nil] at hx
      simp -implicitDefEqProofs only [lp54_0, hn, hx, d, hi, ilt hi, wi hi hB, Int.natCast_nonneg, go_sem, reduceIte, Nat.reduceAdd, Nat.reduceEqDiff, Nat.reduceMul, Nat.reduceLeDiff, Nat.reduceBEq, Nat.reduceBNe, Nat.reduceSub, Nat.reduceLT])
    (by
      intro i e l hn h0 h1 c
      have hi : i < es.length := by rw [nth_get] at hn; exact (List.getElem?_eq_some_iff.1 hn).1
      have hx := h _ (nth_mem hn) l h0 h1
      rw [szr_neg c] at hx
      have d : ((-1 : Int) < 0) = True := by simp
      obtain ⟨x0, x1, x2, x3, x4, x5, x6, rfl, _⟩ := inv_Expr (ok.nth_ hn)
      simp -implicitDefEqProofs only [List.map_cons, List.map_nil] at hx
      simp -implicitDefEqProofs only [lp54_0, hn, hx, d, hi, ilt hi, wi hi hB, Int.natCast_nonneg, go_sem, reduceIte, Nat.reduceAdd, Nat.reduceEqDiff, Nat.reduceMul, Nat.reduceLeDiff, Nat.reduceBEq, Nat.reduceBNe, Nat.reduceSub, Nat.reduceLT])
    (by intro l _ _; simp -implicitDefEqProofs only [lp54_0, nlt, go_sem, reduceIte, Nat.reduceAdd, Nat.reduceEqDiff, Nat.reduceMul, Nat.reduceLeDiff, Nat.reduceBEq, Nat.reduceBNe, Nat.reduceSub, Nat.reduceLT]) es.length 0 (l - es.length) (by omega) (by omega) (by omega)
  simp -implicitDefEqProofs only [Int.natCast_zero, List.drop_zero] at hl
  by_cases d : (szE es : Int) ≤ l - es.length
  · rw [if_pos d] at hl
    simp -implicitDefEqProofs only [hl, go_sem, reduceIte, Nat.reduceAdd, Nat.reduceEqDiff, Nat.reduceMul, Nat.reduceLeDiff, Nat.reduceBEq, Nat.reduceBNe, Nat.reduceSub, Nat.reduceLT]
    exact ret_int (by rw [szr_pos (by omega)]; omega)
  · rw [if_neg d] at hl
    simp -implicitDefEqProofs only [hl, go_sem, reduceIte, Nat.reduceAdd, Nat.reduceEqDiff, Nat.reduceMul, Nat.reduceLeDiff, Nat.reduceBEq, Nat.reduceBNe, Nat.reduceSub, Nat.reduceLT]
    exact ret_int (by rw [szr_neg (by omega)])
theorem sz_Expr_n (n : Nat) : ∀ (e : List D), SizeOf.sizeOf e < n → OkC maxLen (lay 11) e → ∀ (l : Int), 0 ≤ l → l ≤ 4611686018427387904 → lim T 53 [.val true (e.map .d), .val false [.d (.int .i64 l)]] = some ([.val false [.d (.int .i64 (szr (szC e) l))]], []) := by
  induction n with
  | zero => intro e h; omega
  | succ n hi =>
    intro e hn ok
    obtain ⟨x0, x1, x2, x3, x4, x5, x6, he, _, _, b2, _, _, ⟨b5, c5⟩, ⟨b6, c6⟩⟩ := inv_Expr ok
    rw [he] at hn ok ⊢
    refine sz_Expr_s x0 x1 x2 x3 x4 x5 x6 ok (sz_ExprS_s x6 b6 c6 fun e he => hi e ?_ (c6.mem e he))
    exact Nat.lt_of_lt_of_le (size_in (k := 7) (fl := false) (es := x6) (by simp -implicitDefEqProofs only [List.mem_cons, true_or, or_true]) he) (Nat.le_of_lt_succ hn)
theorem sz_Expr (e : List D) (ok : OkC maxLen (lay 11) e) : ∀ (l : Int), 0 ≤ l → l ≤ 4611686018427387904 → lim T 53 [.val true (e.map .d), .val false [.d (.int .i64 l)]] = some ([.val false [.d (.int .i64 (szr (szC e) l))]], []) := sz_Expr_n (SizeOf.sizeOf e + 1) e (by omega) ok
theorem sz_ExprS (es : List (List D)) (hB : es.length ≤ maxLen) (ok : OkE maxLen 11 es) : ∀ (l : Int), 0 ≤ l → l ≤ 4611686018427387904 → lim T 54 [.val false [.d (.list 7 false es)], .val false [.d (.int .i64 l)]] = some ([.val false [.d (.int .i64 (szr (es.length + szE es) l))]], []) := sz_ExprS_s es hB ok fun e he => sz_Expr e (ok.mem e he)
theorem sz_Schema_s (x0 : Int) (x1 : ByteArray) (x2 : Int) (x3 : List (List D)) (x4 : List (List D)) (x5 : ByteArray) (x6 : ByteArray) (x7 : List (List D)) (x8 : List (List D)) (x9 : ByteArray) (x10 : Bool) (x11 : Bool) (x12 : Bool) (x13 : Bool) (x14 : Int) (x15 : Int) (x16 : List (List D)) (x17 : List (List D)) (x18 : List (List D)) (ok : OkC maxLen (lay 12) [.int .i64 x0, .str x1, .int .i64 x2, .list 2 true x3, .list 1 true x4, .str x5, .str x6, .list 1 true x7, .list 1 true x8, .str x9, .bool x10, .bool x11, .bool x12, .bool x13, .int .i64 x14, .int .i64 x15, .list 7 false x16, .list 7 false x17, .list 19 false x18]) (ih : ∀ (l : Int), 0 ≤ l → l ≤ 4611686018427387904 → lim T 56 [.val false [.d (.list 19 false x18)], .val false [.d (.int .i64 l)]] = some ([.val false [.d (.int .i64 (szr (x18.length + szE x18) l))]], [])) (l : Int) (h0 : 0 ≤ l) (h1 : l ≤ 4611686018427387904) :
    lim T 55 [.val true ([.int .i64 x0, .str x1, .int .i64 x2, .list 2 true x3, .list 1 true x4, .str x5, .str x6, .list 1 true x7, .list 1 true x8, .str x9, .bool x10, .bool x11, .bool x12, .bool x13, .int .i64 x14, .int .i64 x15, .list 7 false x16, .list 7 false x17, .list 19 false x18].map .d), .val false [.d (.int .i64 l)]] = some ([.val false [.d (.int .i64 (szr (szC [.int .i64 x0, .str x1, .int .i64 x2, .list 2 true x3, .list 1 true x4, .str x5, .str x6, .list 1 true x7, .list 1 true x8, .str x9, .bool x10, .bool x11, .bool x12, .bool x13, .int .i64 x14, .int .i64 x15, .list 7 false x16, .list 7 false x17, .list 19 false x18]) l))]], []) := by
  obtain ⟨y0, y1, y2, y3, y4, y5, y6, y7, y8, y9, y10, y11, y12, y13, y14, y15, y16, y17, y18, e0, _, b1, _, ⟨b3, c3⟩, ⟨b4, c4⟩, b5, b6, ⟨b7, c7⟩, ⟨b8, c8⟩, b9, _, _, _, _, _, _, ⟨b16, c16⟩, ⟨b17, c17⟩, ⟨b18, c18⟩⟩ := inv_Schema ok
  simp -implicitDefEqProofs only [List.cons.injEq, D.str.injEq, D.int.injEq, D.bool.injEq, D.list.injEq, true_and, and_true] at e0
  obtain ⟨rfl, rfl, rfl, rfl, rfl, rfl, rfl, rfl, rfl, rfl, rfl, rfl, rfl, rfl, rfl, rfl, rfl, rfl, rfl⟩ := e0
  rw [lim_fn (f := 55) rfl rfl]
  have w1 : IntKind.i64.wrap (l - (x1.size : Int)) = l - (x1.size : Int) := i64_wrap (by simp -implicitDefEqProofs only [maxLen] at b1; omega)
  simp -implicitDefEqProofs only [w1, go_sem, reduceIte, Nat.reduceAdd, Nat.reduceEqDiff, Nat.reduceMul, Nat.reduceLeDiff, Nat.reduceBEq, Nat.reduceBNe, Nat.reduceSub, Nat.reduceLT]
  split
  · rename_i c
    simp -implicitDefEqProofs only [go_sem, reduceIte, Nat.reduceAdd, Nat.reduceEqDiff, Nat.reduceMul, Nat.reduceLeDiff, Nat.reduceBEq, Nat.reduceBNe, Nat.reduceSub, Nat.reduceLT]
    exact ret_int (by rw [szr_neg (by simp -implicitDefEqProofs only [szC, D.sz]; omega)])
  rename_i c1_
  clear w1
  generalize e1 : l - (x1.size : Int) = l1 at *
  have p1 : 0 ≤ l1 := by omega
  have f2 := sz_Type _ (OkC.sub 2 5 ok) (l1) (by omega) (by omega)
  simp -implicitDefEqProofs only [List.drop_succ_cons, List.drop_zero, List.take_succ_cons, List.take_zero, List.map_cons, List.map_nil] at f2
  have s2 : (szC [.int .i64 x2, .list 2 true x3, .list 1 true x4, .str x5, .str x6] : Nat) = 0 + x3.length + szE x3 + x4.length + szE x4 + x5.size + x6.size := by simp -implicitDefEqProofs only [szC, D.sz]; omega
  simp -implicitDefEqProofs only [f2, go_sem, reduceIte, Nat.reduceAdd, Nat.reduceEqDiff, Nat.reduceMul, Nat.reduceLeDiff, Nat.reduceBEq, Nat.reduceBNe, Nat.reduceSub, Nat.reduceLT]
  split
  · rename_i c
    have c_ := szr_lt (by omega) c
    simp -implicitDefEqProofs only [go_sem, reduceIte, Nat.reduceAdd, Nat.reduceEqDiff, Nat.reduceMul, Nat.reduceLeDiff, Nat.reduceBEq, Nat.reduceBNe, Nat.reduceSub, Nat.reduceLT]
    exact ret_int (by rw [szr_neg (by simp -implicitDefEqProofs only [szC, D.sz]; omega)])
  rename_i c2_
  obtain ⟨r2, q2⟩ := szr_nn c2_
  simp -implicitDefEqProofs only [r2]
  clear f2 r2 c2_
  generalize e2 : l1 - ((szC [.int .i64 x2, .list 2 true x3, .list 1 true x4, .str x5, .str x6] : Nat) : Int) = l2 at *
  have p2 : 0 ≤ l2 := by omega
  have f7 := sz_StringS x7 b7 c7 (l2) (by omega) (by omega)
  simp -implicitDefEqProofs only [f7, go_sem, reduceIte, Nat.reduceAdd, Nat.reduceEqDiff, Nat.reduceMul, Nat.reduceLeDiff, Nat.reduceBEq, Nat.reduceBNe, Nat.reduceSub, Nat.reduceLT]
  split
  · rename_i c
    have c_ := szr_lt (by omega) c
    simp -implicitDefEqProofs only [go_sem, reduceIte, Nat.reduceAdd, Nat.reduceEqDiff, Nat.reduceMul, Nat.reduceLeDiff, Nat.reduceBEq, Nat.reduceBNe, Nat.reduceSub, Nat.reduceLT]
    exact ret_int (by rw [szr_neg (by simp -implicitDefEqProofs only [szC, D.sz]; omega)])
  rename_i c7_
  obtain ⟨r7, q7⟩ := szr_nn c7_
  simp -implicitDefEqProofs only [r7]
  clear f7 r7 c7_
  generalize e7 : l2 - ((x7.length + szE x7 : Nat) : Int) = l7 at *
  have p7 : 0 ≤ l7 := by omega
  have f8 := sz_StringS x8 b8 c8 (l7) (by omega) (by omega)
  simp -implicitDefEqProofs only [f8, go_sem, reduceIte, Nat.reduceAdd, Nat.reduceEqDiff, Nat.reduceMul, Nat.reduceLeDiff, Nat.reduceBEq, Nat.reduceBNe, Nat.reduceSub, Nat.reduceLT]
  split
  · rename_i c
    have c_ := szr_lt (by omega) c
    simp -implicitDefEqProofs only [go_sem, reduceIte, Nat.reduceAdd, Nat.reduceEqDiff, Nat.reduceMul, Nat.reduceLeDiff, Nat.reduceBEq, Nat.reduceBNe, Nat.reduceSub, Nat.reduceLT]
    exact ret_int (by rw [szr_neg (by simp -implicitDefEqProofs only [szC, D.sz]; omega)])
  rename_i c8_
  obtain ⟨r8, q8⟩ := szr_nn c8_
  simp -implicitDefEqProofs only [r8]
  clear f8 r8 c8_
  generalize e8 : l7 - ((x8.length + szE x8 : Nat) : Int) = l8 at *
  have p8 : 0 ≤ l8 := by omega
  have w9 : IntKind.i64.wrap (l8 - (x9.size : Int)) = l8 - (x9.size : Int) := i64_wrap (by simp -implicitDefEqProofs only [maxLen] at b9; omega)
  simp -implicitDefEqProofs only [w9, go_sem, reduceIte, Nat.reduceAdd, Nat.reduceEqDiff, Nat.reduceMul, Nat.reduceLeDiff, Nat.reduceBEq, Nat.reduceBNe, Nat.reduceSub, Nat.reduceLT]
  split
  · rename_i c
    simp -implicitDefEqProofs only [go_sem, reduceIte, Nat.reduceAdd, Nat.reduceEqDiff, Nat.reduceMul, Nat.reduceLeDiff, Nat.reduceBEq, Nat.reduceBNe, Nat.reduceSub, Nat.reduceLT]
    exact ret_int (by rw [szr_neg (by simp -implicitDefEqProofs only [szC, D.sz]; omega)])
  rename_i c9_
  clear w9
  generalize e9 : l8 - (x9.size : Int) = l9 at *
  have p9 : 0 ≤ l9 := by omega
  have f16 := sz_ExprS x16 b16 c16 (l9) (by omega) (by omega)
  simp -implicitDefEqProofs only [f16, go_sem, reduceIte, Nat.reduceAdd, Nat.reduceEqDiff, Nat.reduceMul, Nat.reduceLeDiff, Nat.reduceBEq, Nat.reduceBNe, Nat.reduceSub, Nat.reduceLT]
  split
  · rename_i c
    have c_ := szr_lt (by omega) c
    simp -implicitDefEqProofs only [go_sem, reduceIte, Nat.reduceAdd, Nat.reduceEqDiff, Nat.reduceMul, Nat.reduceLeDiff, Nat.reduceBEq, Nat.reduceBNe, Nat.reduceSub, Nat.reduceLT]
    exact ret_int (by rw [szr_neg (by simp -implicitDefEqProofs only [szC, D.sz]; omega)])
  rename_i c16_
  obtain ⟨r16, q16⟩ := szr_nn c16_
  simp -implicitDefEqProofs only [r16]
  clear f16 r16 c16_
  generalize e16 : l9 - ((x16.length + szE x16 : Nat) : Int) = l16 at *
  have p16 : 0 ≤ l16 := by omega
  have f17 := sz_ExprS x17 b17 c17 (l16) (by omega) (by omega)
  simp -implicitDefEqProofs only [f17, go_sem, reduceIte, Nat.reduceAdd, Nat.reduceEqDiff, Nat.reduceMul, Nat.reduceLeDiff, Nat.reduceBEq, Nat.reduceBNe, Nat.reduceSub, Nat.reduceLT]
  split
  · rename_i c
    have c_ := szr_lt (by omega) c
    simp -implicitDefEqProofs only [go_sem, reduceIte, Nat.reduceAdd, Nat.reduceEqDiff, Nat.reduceMul, Nat.reduceLeDiff, Nat.reduceBEq, Nat.reduceBNe, Nat.reduceSub, Nat.reduceLT]
    exact ret_int (by rw [szr_neg (by simp -implicitDefEqProofs only [szC, D.sz]; omega)])
  rename_i c17_
  obtain ⟨r17, q17⟩ := szr_nn c17_
  simp -implicitDefEqProofs only [r17]
  clear f17 r17 c17_
  generalize e17 : l16 - ((x17.length + szE x17 : Nat) : Int) = l17 at *
  have p17 : 0 ≤ l17 := by omega
  have f18 := ih (l17) (by omega) (by omega)
  simp -implicitDefEqProofs only [f18, go_sem, reduceIte, Nat.reduceAdd, Nat.reduceEqDiff, Nat.reduceMul, Nat.reduceLeDiff, Nat.reduceBEq, Nat.reduceBNe, Nat.reduceSub, Nat.reduceLT]
  split
  · rename_i c
    have c_ := szr_lt (by omega) c
    simp -implicitDefEqProofs only [go_sem, reduceIte, Nat.reduceAdd, Nat.reduceEqDiff, Nat.reduceMul, Nat.reduceLeDiff, Nat.reduceBEq, Nat.reduceBNe, Nat.reduceSub, Nat.reduceLT]
    exact ret_int (by rw [szr_neg (by simp -implicitDefEqProofs only [szC, D.sz]; omega)])
  rename_i c18_
  obtain ⟨r18, q18⟩ := szr_nn c18_
  simp -implicitDefEqProofs only [r18]
  clear f18 r18 c18_
  generalize e18 : l17 - ((x18.length + szE x18 : Nat) : Int) = l18 at *
  have p18 : 0 ≤ l18 := by omega
  simp -implicitDefEqProofs only [go_sem, reduceIte, Nat.reduceAdd, Nat.reduceEqDiff, Nat.reduceMul, Nat.reduceLeDiff, Nat.reduceBEq, Nat.reduceBNe, Nat.reduceSub, Nat.reduceLT]
  refine ret_int (szr_fin ?_ p18).symm
  simp -implicitDefEqProofs only [szC, D.sz]
  clear ok h0 h1 p1 p2 p7 p8 p9 p16 p17 p18 b1 b3 b4 b5 b6 b7 b8 b9 b16 b17 b18
  omega
theorem sz_SchemaS_s (es : List (List D)) (hB : es.length ≤ maxLen) (ok : OkE maxLen 12 es) (h : ∀ e ∈ es, ∀ (l : Int), 0 ≤ l → l ≤ 4611686018427387904 → lim T 55 [.val true (e.map .d), .val false [.d (.int .i64 l)]] = some ([.val false [.d (.int .i64 (szr (szC e) l))]], [])) (l : Int) (h0 : 0 ≤ l) (h1 : l ≤ 4611686018427387904) :
    lim T 56 [.val false [.d (.list 19 false es)], .val false [.d (.int .i64 l)]] = some ([.val false [.d (.int .i64 (szr (es.length + szE es) l))]], []) := by
  have w : IntKind.i64.wrap (l - (es.length : Int)) = l - (es.length : Int) := i64_wrap (by simp -implicitDefEqProofs only [maxLen] at hB; omega)
  rw [lim_fn (f := 56) rfl rfl]
  simp -implicitDefEqProofs only [w, go_sem, reduceIte, Nat.reduceAdd, Nat.reduceEqDiff, Nat.reduceMul, Nat.reduceLeDiff, Nat.reduceBEq, Nat.reduceBNe, Nat.reduceSub, Nat.reduceLT]
  split
  · rename_i c
    simp -implicitDefEqProofs only [go_sem, reduceIte, Nat.reduceAdd, Nat.reduceEqDiff, Nat.reduceMul, Nat.reduceLeDiff, Nat.reduceBEq, Nat.reduceBNe, Nat.reduceSub, Nat.reduceLT]
    exact ret_int (by rw [szr_neg (by omega)])
  rename_i c
  have hl := loop_sz (T := T) (mf := mf0) (body := lp56_0) (es := es) (fun i l => ⟨[(0, .d (.list 19 false es)), (1, .d (.int .i64 l)), (5, .d (.int .i64 (i : Int)))], [], []⟩) (fun l => ⟨[(0, .d (.list 19 false es)), (1, .d (.int .i64 l)), (5, .d (.int .i64 es.length)), (15, .d (.bool false))], [], []⟩) ⟨[(4, .d (.int .i64 (-1)))], [], []⟩
    (by
      intro i e l hn h0 h1 c
      have hi : i < es.length := by rw [nth_get] at hn; exact (List.getElem?_eq_some_iff.1 hn).1
      have hx := h _ (nth_mem hn) l h0 h1
      rw [szr_pos c] at hx
      have d : ¬ (l - (szC e : Int) < 0) := by omega
      obtain ⟨x0, x1, x2, x3, x4, x5, x6, x7, x8, x9, x10, x11, x12, x13, x14, x15, x16, x17, x18, rfl, _⟩ := inv_Schema (ok.nth_ hn)
      simp -implicitDefEqProofs only [List.map_cons, List.map_nil] at hx
      simp -implicitDefEqProofs only [lp56_0, hn, hx, d, hi, ilt hi, wi hi hB, Int.natCast_nonneg, go_sem, reduceIte, Nat.reduceAdd, Nat.reduceEqDiff, Nat.reduceMul, Nat.reduceLeDiff, Nat.reduceBEq, Nat.reduceBNe, Nat.reduceSub, Nat.reduceLT])
    (by
      intro i e l hn h0 h1 c
      have hi : i < es.length := by rw [nth_get] at hn; exact (List.getElem?_eq_some_iff.1 hn).1
      have hx := h _ (nth_mem hn) l h0 h1
      rw [szr_neg c] at hx
      have d : ((-1 : Int) < 0) = True := by simp
      obtain ⟨x0, x1, x2, x3, x4, x5, x6, x7, x8, x9, x10, x11, x12, x13, x14, x15, x16, x17, x18, rfl, _⟩ := inv_Schema (ok.nth_ hn)
      simp -implicitDefEqProofs only [List.map_cons, List.map_nil] at hx
      simp -implicitDefEqProofs only [lp56_0, hn, hx, d, hi, ilt hi, wi hi hB, Int.natCast_nonneg, go_sem, reduceIte, Nat.reduceAdd, Nat.reduceEqDiff, Nat.reduceMul, Nat.reduceLeDiff, Nat.reduceBEq, Nat.reduceBNe, Nat.reduceSub, Nat.reduceLT])
    (by intro l _ _; simp -implicitDefEqProofs only [lp56_0, nlt, go_sem, reduceIte, Nat.reduceAdd, Nat.reduceEqDiff, Nat.reduceMul, Nat.reduceLeDiff, Nat.reduceBEq, Nat.reduceBNe, Nat.reduceSub, Nat.reduceLT]) es.length 0 (l - es.length) (by omega) (by omega) (by omega)
  simp -implicitDefEqProofs only [Int.natCast_zero, List.drop_zero] at hl
  by_cases d : (szE es : Int) ≤ l - es.length
  · rw [if_pos d] at hl
    simp -implicitDefEqProofs only [hl, go_sem, reduceIte, Nat.reduceAdd, Nat.reduceEqDiff, Nat.reduceMul, Nat.reduceLeDiff, Nat.reduceBEq, Nat.reduceBNe, Nat.reduceSub, Nat.reduceLT]
    exact ret_int (by rw [szr_pos (by omega)]; omega)
  · rw [if_neg d] at hl
    simp -implicitDefEqProofs only [hl, go_sem, reduceIte, Nat.reduceAdd, Nat.reduceEqDiff, Nat.reduceMul, Nat.reduceLeDiff, Nat.reduceBEq, Nat.reduceBNe, Nat.reduceSub, Nat.reduceLT]
    exact ret_int (by rw [szr_neg (by omega)])
theorem sz_Schema_n (n : Nat) : ∀ (e : List D), SizeOf.sizeOf e < n → OkC maxLen (lay 12) e → ∀ (l : Int), 0 ≤ l → l ≤ 4611686018427387904 → lim T 55 [.val true (e.map .d), .val false [.d (.int .i64 l)]] = some ([.val false [.d (.int .i64 (szr (szC e) l))]], []) := by
  induction n with
  | zero => intro e h; omega
  | succ n hi =>
    intro e hn ok
    obtain ⟨x0, x1, x2, x3, x4, x5, x6, x7, x8, x9, x10, x11, x12, x13, x14, x15, x16, x17, x18, he, _, b1, _, ⟨b3, c3⟩, ⟨b4, c4⟩, b5, b6, ⟨b7, c7⟩, ⟨b8, c8⟩, b9, _, _, _, _, _, _, ⟨b16, c16⟩, ⟨b17, c17⟩, ⟨b18, c18⟩⟩ := inv_Schema ok
    rw [he] at hn ok ⊢
    refine sz_Schema_s x0 x1 x2 x3 x4 x5 x6 x7 x8 x9 x10 x11 x12 x13 x14 x15 x16 x17 x18 ok (sz_SchemaS_s x18 b18 c18 fun e he => hi e ?_ (c18.mem e he))
    exact Nat.lt_of_lt_of_le (size_in (k := 19) (fl := false) (es := x18) (by simp -implicitDefEqProofs only [List.mem_cons, true_or, or_true]) he) (Nat.le_of_lt_succ hn)
theorem sz_Schema (e : List D) (ok : OkC maxLen (lay 12) e) : ∀ (l : Int), 0 ≤ l → l ≤ 4611686018427387904 → lim T 55 [.val true (e.map .d), .val false [.d (.int .i64 l)]] = some ([.val false [.d (.int .i64 (szr (szC e) l))]], []) := sz_Schema_n (SizeOf.sizeOf e + 1) e (by omega) ok
theorem sz_SchemaS (es : List (List D)) (hB : es.length ≤ maxLen) (ok : OkE maxLen 12 es) : ∀ (l : Int), 0 ≤ l → l ≤ 4611686018427387904 → lim T 56 [.val false [.d (.list 19 false es)], .val false [.d (.int .i64 l)]] = some ([.val false [.d (.int .i64 (szr (es.length + szE es) l))]], []) := sz_SchemaS_s es hB ok fun e he => sz_Schema e (ok.mem e he)
theorem sz_Node_s (x0 : ByteArray) (x1 : ByteArray) (x2 : List (List D)) (ok : OkC maxLen (lay 2) [.str x0, .str x1, .list 3 false x2]) (ih : ∀ (l : Int), 0 ≤ l → l ≤ 4611686018427387904 → lim T 4 [.val false [.d (.list 3 false x2)], .val false [.d (.int .i64 l)]] = some ([.val false [.d (.int .i64 (szr (x2.length + szE x2) l))]], [])) (l : Int) (h0 : 0 ≤ l) (h1 : l ≤ 4611686018427387904) :
    lim T 3 [.val true ([.str x0, .str x1, .list 3 false x2].map .d), .val false [.d (.int .i64 l)]] = some ([.val false [.d (.int .i64 (szr (szC [.str x0, .str x1, .list 3 false x2]) l))]], []) := by
  obtain ⟨y0, y1, y2, e0, b0, b1, ⟨b2, c2⟩⟩ := inv_Node ok
  simp -implicitDefEqProofs only [List.cons.injEq, D.str.injEq, D.int.injEq, D.bool.injEq, D.list.injEq, true_and, and_true] at e0
  obtain ⟨rfl, rfl, rfl⟩ := e0
  rw [lim_fn (f := 3) rfl rfl]
  have w0 : IntKind.i64.wrap (l - (x0.size : Int)) = l - (x0.size : Int) := i64_wrap (by simp -implicitDefEqProofs only [maxLen] at b0; omega)
  simp -implicitDefEqProofs only [w0, go_sem, reduceIte, Nat.reduceAdd, Nat.reduceEqDiff, Nat.reduceMul, Nat.reduceLeDiff, Nat.reduceBEq, Nat.reduceBNe, Nat.reduceSub, Nat.reduceLT]
  split
  · rename_i c
    simp -implicitDefEqProofs only [go_sem, reduceIte, Nat.reduceAdd, Nat.reduceEqDiff, Nat.reduceMul, Nat.reduceLeDiff, Nat.reduceBEq, Nat.reduceBNe, Nat.reduceSub, Nat.reduceLT]
    exact ret_int (by rw [szr_neg (by simp -implicitDefEqProofs only [szC, D.sz]; omega)])
  rename_i c0_
  clear w0
  generalize e0 : l - (x0.size : Int) = l0 at *
  have p0 : 0 ≤ l0 := by omega
  have w1 : IntKind.i64.wrap (l0 - (x1.size : Int)) = l0 - (x1.size : Int) := i64_wrap (by simp -implicitDefEqProofs only [maxLen] at b1; omega)
  simp -implicitDefEqProofs only [w1, go_sem, reduceIte, Nat.reduceAdd, Nat.reduceEqDiff, Nat.reduceMul, Nat.reduceLeDiff, Nat.reduceBEq, Nat.reduceBNe, Nat.reduceSub, Nat.reduceLT]
  split
  · rename_i c
    simp -implicitDefEqProofs only [go_sem, reduceIte, Nat.reduceAdd, Nat.reduceEqDiff, Nat.reduceMul, Nat.reduceLeDiff, Nat.reduceBEq, Nat.reduceBNe, Nat.reduceSub, Nat.reduceLT]
    exact ret_int (by rw [szr_neg (by simp -implicitDefEqProofs only [szC, D.sz]; omega)])
  rename_i c1_
  clear w1
  generalize e1 : l0 - (x1.size : Int) = l1 at *
  have p1 : 0 ≤ l1 := by omega
  have f2 := ih (l1) (by omega) (by omega)
  simp -implicitDefEqProofs only [f2, go_sem, reduceIte, Nat.reduceAdd, Nat.reduceEqDiff, Nat.reduceMul, Nat.reduceLeDiff, Nat.reduceBEq, Nat.reduceBNe, Nat.reduceSub, Nat.reduceLT]
  split
  · rename_i c
    have c_ := szr_lt (by omega) c
    simp -implicitDefEqProofs only [go_sem, reduceIte, Nat.reduceAdd, Nat.reduceEqDiff, Nat.reduceMul, Nat.reduceLeDiff, Nat.reduceBEq, Nat.reduceBNe, Nat.reduceSub, Nat.reduceLT]
    exact ret_int (by rw [szr_neg (by simp -implicitDefEqProofs only [szC, D.sz]; omega)])
  rename_i c2_
  obtain ⟨r2, q2⟩ := szr_nn c2_
  simp -implicitDefEqProofs only [r2]
  clear f2 r2 c2_
  generalize e2 : l1 - ((x2.length + szE x2 : Nat) : Int) = l2 at *
  have p2 : 0 ≤ l2 := by omega
  simp -implicitDefEqProofs only [go_sem, reduceIte, Nat.reduceAdd, Nat.reduceEqDiff, Nat.reduceMul, Nat.reduceLeDiff, Nat.reduceBEq, Nat.reduceBNe, Nat.reduceSub, Nat.reduceLT]
  refine ret_int (szr_fin ?_ p2).symm
  simp -implicitDefEqProofs only [szC, D.sz]
  clear ok h0 h1 p0 p1 p2 b0 b1 b2
  omega
theorem sz_NodeS_s (es : List (List D)) (hB : es.length ≤ maxLen) (ok : OkE maxLen 2 es) (h : ∀ e ∈ es, ∀ (l : Int), 0 ≤ l → l ≤ 4611686018427387904 → lim T 3 [.val true (e.map .d), .val false [.d (.int .i64 l)]] = some ([.val false [.d (.int .i64 (szr (szC e) l))]], [])) (l : Int) (h0 : 0 ≤ l) (h1 : l ≤ 4611686018427387904) :
    lim T 4 [.val false [.d (.list 3 false es)], .val false [.d (.int .i64 l)]] = some ([.val false [.d (.int .i64 (szr (es.length + szE es) l))]], []) := by
  have w : IntKind.i64.wrap (l - (es.length : Int)) = l - (es.length : Int) := i64_wrap (by simp -implicitDefEqProofs only [maxLen] at hB; omega)
  rw [lim_fn (f := 4) rfl rfl]
  simp -implicitDefEqProofs only [w, go_sem, reduceIte, Nat.reduceAdd, Nat.reduceEqDiff, Nat.reduceMul, Nat.reduceLeDiff, Nat.reduceBEq, Nat.reduceBNe, Nat.reduceSub, Nat.reduceLT]
  split
  · rename_i c
    simp -implicitDefEqProofs only [go_sem, reduceIte, Nat.reduceAdd, Nat.reduceEqDiff, Nat.reduceMul, Nat.reduceLeDiff, Nat.reduceBEq, Nat.reduceBNe, Nat.reduceSub, Nat.reduceLT]
    exact ret_int (by rw [szr_neg (by omega)])
  rename_i c
  have hl := loop_sz (T := T) (mf := mf0) (body := lp4_0) (es := es) (fun i l => ⟨[(0, .d (.list 3 false es)), (1, .d (.int .i64 l)), (5, .d (.int .i64 (i : Int)))], [], []⟩) (fun l => ⟨[(0, .d (.list 3 false es)), (1, .d (.int .i64 l)), (5, .d (.int .i64 es.length)), (15, .d (.bool false))], [], []⟩) ⟨[(4, .d (.int .i64 (-1)))], [], []⟩
    (by
      intro i e l hn h0 h1 c
      have hi : i < es.length := by rw [nth_get] at hn; exact (List.getElem?_eq_some_iff.1 hn).1
      have hx := h _ (nth_mem hn) l h0 h1
      rw [szr_pos c] at hx
      have d : ¬ (l - (szC e : Int) < 0) := by omega
      obtain ⟨x0, x1, x2, rfl, _⟩ := inv_Node (ok.nth_ hn)
      simp -implicitDefEqProofs only [List.map_cons, List.map_nil] at hx
      simp -implicitDefEqProofs only [lp4_0, hn, hx, d, hi, ilt hi, wi hi hB, Int.natCast_nonneg, go_sem, reduceIte, Nat.reduceAdd, Nat.reduceEqDiff, Nat.reduceMul, Nat.reduceLeDiff, Nat.reduceBEq, Nat.reduceBNe, Nat.reduceSub, Nat.reduceLT])
    (by
      intro i e l hn h0 h1 c
      have hi : i < es.length := by rw [nth_get] at hn; exact (List.getElem?_eq_some_iff.1 hn).1
      have hx := h _ (nth_mem hn) l h0 h1
      rw [szr_neg c] at hx
      have d : ((-1 : Int) < 0) = True := by simp
      obtain ⟨x0, x1, x2, rfl, _⟩ := inv_Node (ok.nth_ hn)
      simp -implicitDefEqProofs only [List.map_cons, List.map_nil] at hx
      simp -implicitDefEqProofs only [lp4_0, hn, hx, d, hi, ilt hi, wi hi hB, Int.natCast_nonneg, go_sem, reduceIte, Nat.reduceAdd, Nat.reduceEqDiff, Nat.reduceMul, Nat.reduceLeDiff, Nat.reduceBEq, Nat.reduceBNe, Nat.reduceSub, Nat.reduceLT])
    (by intro l _ _; simp -implicitDefEqProofs only [lp4_0, nlt, go_sem, reduceIte, Nat.reduceAdd, Nat.reduceEqDiff, Nat.reduceMul, Nat.reduceLeDiff, Nat.reduceBEq, Nat.reduceBNe, Nat.reduceSub, Nat.reduceLT]) es.length 0 (l - es.length) (by omega) (by omega) (by omega)
  simp -implicitDefEqProofs only [Int.natCast_zero, List.drop_zero] at hl
  by_cases d : (szE es : Int) ≤ l - es.length
  · rw [if_pos d] at hl
    simp -implicitDefEqProofs only [hl, go_sem, reduceIte, Nat.reduceAdd, Nat.reduceEqDiff, Nat.reduceMul, Nat.reduceLeDiff, Nat.reduceBEq, Nat.reduceBNe, Nat.reduceSub, Nat.reduceLT]
    exact ret_int (by rw [szr_pos (by omega)]; omega)
  · rw [if_neg d] at hl
    simp -implicitDefEqProofs only [hl, go_sem, reduceIte, Nat.reduceAdd, Nat.reduceEqDiff, Nat.reduceMul, Nat.reduceLeDiff, Nat.reduceBEq, Nat.reduceBNe, Nat.reduceSub, Nat.reduceLT]
    exact ret_int (by rw [szr_neg (by omega)])
theorem sz_Node_n (n : Nat) : ∀ (e : List D), SizeOf.sizeOf e < n → OkC maxLen (lay 2) e → ∀ (l : Int), 0 ≤ l → l ≤ 4611686018427387904 → lim T 3 [.val true (e.map .d), .val false [.d (.int .i64 l)]] = some ([.val false [.d (.int .i64 (szr (szC e) l))]], []) := by
  induction n with
  | zero => intro e h; omega
  | succ n hi =>
    intro e hn ok
    obtain ⟨x0, x1, x2, he, b0, b1, ⟨b2, c2⟩⟩ := inv_Node ok
    rw [he] at hn ok ⊢
    refine sz_Node_s x0 x1 x2 ok (sz_NodeS_s x2 b2 c2 fun e he => hi e ?_ (c2.mem e he))
    exact Nat.lt_of_lt_of_le (size_in (k := 3) (fl := false) (es := x2) (by simp -implicitDefEqProofs only [List.mem_cons, true_or, or_true]) he) (Nat.le_of_lt_succ hn)
theorem sz_Node (e : List D) (ok : OkC maxLen (lay 2) e) : ∀ (l : Int), 0 ≤ l → l ≤ 4611686018427387904 → lim T 3 [.val true (e.map .d), .val false [.d (.int .i64 l)]] = some ([.val false [.d (.int .i64 (szr (szC e) l))]], []) := sz_Node_n (SizeOf.sizeOf e + 1) e (by omega) ok
theorem sz_NodeS (es : List (List D)) (hB : es.length ≤ maxLen) (ok : OkE maxLen 2 es) : ∀ (l : Int), 0 ≤ l → l ≤ 4611686018427387904 → lim T 4 [.val false [.d (.list 3 false es)], .val false [.d (.int .i64 l)]] = some ([.val false [.d (.int .i64 (szr (es.length + szE es) l))]], []) := sz_NodeS_s es hB ok fun e he => sz_Node e (ok.mem e he)
theorem sz_Version (e : List D) (ok : OkC maxLen (lay 13) e) (l : Int) (h0 : 0 ≤ l) (h1 : l ≤ 4611686018427387904) :
    lim T 124 [.val true (e.map .d), .val false [.d (.int .i64 l)]] = some ([.val false [.d (.int .i64 (szr (szC e) l))]], []) := by
  obtain ⟨x0, x1, x2, rfl, ⟨b0, c0⟩, _, _⟩ := inv_Version ok
  rw [lim_fn (f := 124) rfl rfl]
  have f0 := sz_NodeS x0 b0 c0 (l) (by omega) (by omega)
  simp -implicitDefEqProofs only [f0, go_sem, reduceIte, Nat.reduceAdd, Nat.reduceEqDiff, Nat.reduceMul, Nat.reduceLeDiff, Nat.reduceBEq, Nat.reduceBNe, Nat.reduceSub, Nat.reduceLT]
  split
  · rename_i c
    have c_ := szr_lt (by omega) c
    simp -implicitDefEqProofs only [go_sem, reduceIte, Nat.reduceAdd, Nat.reduceEqDiff, Nat.reduceMul, Nat.reduceLeDiff, Nat.reduceBEq, Nat.reduceBNe, Nat.reduceSub, Nat.reduceLT]
    exact ret_int (by rw [szr_neg (by simp -implicitDefEqProofs only [szC, D.sz]; omega)])
  rename_i c0_
  obtain ⟨r0, q0⟩ := szr_nn c0_
  simp -implicitDefEqProofs only [r0]
  clear f0 r0 c0_
  generalize e0 : l - ((x0.length + szE x0 : Nat) : Int) = l0 at *
  have p0 : 0 ≤ l0 := by omega
  simp -implicitDefEqProofs only [go_sem, reduceIte, Nat.reduceAdd, Nat.reduceEqDiff, Nat.reduceMul, Nat.reduceLeDiff, Nat.reduceBEq, Nat.reduceBNe, Nat.reduceSub, Nat.reduceLT]
  refine ret_int (szr_fin ?_ p0).symm
  simp -implicitDefEqProofs only [szC, D.sz]
  clear ok h0 h1 p0 b0
  omega
theorem sz_VersionS (es : List (List D)) (hB : es.length ≤ maxLen) (ok : OkE maxLen 13 es) (l : Int) (h0 : 0 ≤ l) (h1 : l ≤ 4611686018427387904) :
    lim T 125 [.val false [.d (.list 3 false es)], .val false [.d (.int .i64 l)]] = some ([.val false [.d (.int .i64 (szr (es.length + szE es) l))]], []) := by
  have h : ∀ e ∈ es, ∀ (l : Int), 0 ≤ l → l ≤ 4611686018427387904 → lim T 124 [.val true (e.map .d), .val false [.d (.int .i64 l)]] = some ([.val false [.d (.int .i64 (szr (szC e) l))]], []) := fun e he => sz_Version e (ok.mem e he)
  have w : IntKind.i64.wrap (l - (es.length : Int)) = l - (es.length : Int) := i64_wrap (by simp -implicitDefEqProofs only [maxLen] at hB; omega)
  rw [lim_fn (f := 125) rfl rfl]
  simp -implicitDefEqProofs only [w, go_sem, reduceIte, Nat.reduceAdd, Nat.reduceEqDiff, Nat.reduceMul, Nat.reduceLeDiff, Nat.reduceBEq, Nat.reduceBNe, Nat.reduceSub, Nat.reduceLT]
  split
  · rename_i c
    simp -implicitDefEqProofs only [go_sem, reduceIte, Nat.reduceAdd, Nat.reduceEqDiff, Nat.reduceMul, Nat.reduceLeDiff, Nat.reduceBEq, Nat.reduceBNe, Nat.reduceSub, Nat.reduceLT]
    exact ret_int (by rw [szr_neg (by omega)])
  rename_i c
  have hl := loop_sz (T := T) (mf := mf0) (body := lp125_0) (es := es) (fun i l => ⟨[(0, .d (.list 3 false es)), (1, .d (.int .i64 l)), (5, .d (.int .i64 (i : Int)))], [], []⟩) (fun l => ⟨[(0, .d (.list 3 false es)), (1, .d (.int .i64 l)), (5, .d (.int .i64 es.length)), (15, .d (.bool false))], [], []⟩) ⟨[(4, .d (.int .i64 (-1)))], [], []⟩
    (by
      intro i e l hn h0 h1 c
      have hi : i < es.length := by rw [nth_get] at hn; exact (List.getElem?_eq_some_iff.1 hn).1
      have hx := h _ (nth_mem hn) l h0 h1
      rw [szr_pos c] at hx
      have d : ¬ (l - (szC e : Int) < 0) := by omega
      obtain ⟨x0, x1, x2, rfl, _⟩ := inv_Version (ok.nth_ hn)
      simp -implicitDefEqProofs only [List.map_cons, List.map_nil] at hx
      simp -implicitDefEqProofs only [lp125_0, hn, hx, d, hi, ilt hi, wi hi hB, Int.natCast_nonneg, go_sem, reduceIte, Nat.reduceAdd, Nat.reduceEqDiff, Nat.reduceMul, Nat.reduceLeDiff, Nat.reduceBEq, Nat.reduceBNe, Nat.reduceSub, Nat.reduceLT])
    (by
      intro i e l hn h0 h1 c
      have hi : i < es.length := by rw [nth_get] at hn; exact (List.getElem?_eq_some_iff.1 hn).1
      have hx := h _ (nth_mem hn) l h0 h1
      rw [szr_neg c] at hx
      have d : ((-1 : Int) < 0) = True := by simp
      obtain ⟨x0, x1, x2, rfl, _⟩ := inv_Version (ok.nth_ hn)
      simp -implicitDefEqProofs only [List.map_cons, List.map_nil] at hx
      simp -implicitDefEqProofs only [lp125_0, hn, hx, d, hi, ilt hi, wi hi hB, Int.natCast_nonneg, go_sem, reduceIte, Nat.reduceAdd, Nat.reduceEqDiff, Nat.reduceMul, Nat.reduceLeDiff, Nat.reduceBEq, Nat.reduceBNe, Nat.reduceSub, Nat.reduceLT])
    (by intro l _ _; simp -implicitDefEqProofs only [lp125_0, nlt, go_sem, reduceIte, Nat.reduceAdd, Nat.reduceEqDiff, Nat.reduceMul, Nat.reduceLeDiff, Nat.reduceBEq, Nat.reduceBNe, Nat.reduceSub, Nat.reduceLT]) es.length 0 (l - es.length) (by omega) (by omega) (by omega)
  simp -implicitDefEqProofs only [Int.natCast_zero, List.drop_zero] at hl
  by_cases d : (szE es : Int) ≤ l - es.length
  · rw [if_pos d] at hl
    simp -implicitDefEqProofs only [hl, go_sem, reduceIte, Nat.reduceAdd, Nat.reduceEqDiff, Nat.reduceMul, Nat.reduceLeDiff, Nat.reduceBEq, Nat.reduceBNe, Nat.reduceSub, Nat.reduceLT]
    exact ret_int (by rw [szr_pos (by omega)]; omega)
  · rw [if_neg d] at hl
    simp -implicitDefEqProofs only [hl, go_sem, reduceIte, Nat.reduceAdd, Nat.reduceEqDiff, Nat.reduceMul, Nat.reduceLeDiff, Nat.reduceBEq, Nat.reduceBNe, Nat.reduceSub, Nat.reduceLT]
    exact ret_int (by rw [szr_neg (by omega)])
theorem sz_Pending (e : List D) (ok : OkC maxLen (lay 14) e) (l : Int) (h0 : 0 ≤ l) (h1 : l ≤ 4611686018427387904) :
    lim T 126 [.val true (e.map .d), .val false [.d (.int .i64 l)]] = some ([.val false [.d (.int .i64 (szr (szC e) l))]], []) := by
  obtain ⟨x0, x1, x2, x3, x4, rfl, _, _, _, b3, ⟨b4, c4⟩⟩ := inv_Pending ok
  rw [lim_fn (f := 126) rfl rfl]
  have w3 : IntKind.i64.wrap (l - (x3.size : Int)) = l - (x3.size : Int) := i64_wrap (by simp -implicitDefEqProofs only [maxLen] at b3; omega)
  simp -implicitDefEqProofs only [w3, go_sem, reduceIte, Nat.reduceAdd, Nat.reduceEqDiff, Nat.reduceMul, Nat.reduceLeDiff, Nat.reduceBEq, Nat.reduceBNe, Nat.reduceSub, Nat.reduceLT]
  split
  · rename_i c
    simp -implicitDefEqProofs only [go_sem, reduceIte, Nat.reduceAdd, Nat.reduceEqDiff, Nat.reduceMul, Nat.reduceLeDiff, Nat.reduceBEq, Nat.reduceBNe, Nat.reduceSub, Nat.reduceLT]
    exact ret_int (by rw [szr_neg (by simp -implicitDefEqProofs only [szC, D.sz]; omega)])
  rename_i c3_
  clear w3
  generalize e3 : l - (x3.size : Int) = l3 at *
  have p3 : 0 ≤ l3 := by omega
  have f4 := sz_NodeS x4 b4 c4 (l3) (by omega) (by omega)
  simp -implicitDefEqProofs only [f4, go_sem, reduceIte, Nat.reduceAdd, Nat.reduceEqDiff, Nat.reduceMul, Nat.reduceLeDiff, Nat.reduceBEq, Nat.reduceBNe, Nat.reduceSub, Nat.reduceLT]
  split
  · rename_i c
    have c_ := szr_lt (by omega) c
    simp -implicitDefEqProofs only [go_sem, reduceIte, Nat.reduceAdd, Nat.reduceEqDiff, Nat.reduceMul, Nat.reduceLeDiff, Nat.reduceBEq, Nat.reduceBNe, Nat.reduceSub, Nat.reduceLT]
    exact ret_int (by rw [szr_neg (by simp -implicitDefEqProofs only [szC, D.sz]; omega)])
  rename_i c4_
  obtain ⟨r4, q4⟩ := szr_nn c4_
  simp -implicitDefEqProofs only [r4]
  clear f4 r4 c4_
  generalize e4 : l3 - ((x4.length + szE x4 : Nat) : Int) = l4 at *
  have p4 : 0 ≤ l4 := by omega
  simp -implicitDefEqProofs only [go_sem, reduceIte, Nat.reduceAdd, Nat.reduceEqDiff, Nat.reduceMul, Nat.reduceLeDiff, Nat.reduceBEq, Nat.reduceBNe, Nat.reduceSub, Nat.reduceLT]
  refine ret_int (szr_fin ?_ p4).symm
  simp -implicitDefEqProofs only [szC, D.sz]
  clear ok h0 h1 p3 p4 b3 b4
  omega
theorem sz_Store (e : List D) (ok : OkC maxLen (lay 15) e) (l : Int) (h0 : 0 ≤ l) (h1 : l ≤ 4611686018427387904) :
    lim T 127 [.val true (e.map .d), .val false [.d (.int .i64 l)]] = some ([.val false [.d (.int .i64 (szr (szC e) l))]], []) := by
  obtain ⟨x0, x1, x2, x3, x4, x5, x6, x7, x8, x9, rfl, ⟨b0, c0⟩, ⟨b1, c1⟩, ⟨b2, c2⟩, _, ⟨b4, c4⟩, _, _, _, b8, ⟨b9, c9⟩⟩ := inv_Store ok
  rw [lim_fn (f := 127) rfl rfl]
  have f0 := sz_SchemaS x0 b0 c0 (l) (by omega) (by omega)
  simp -implicitDefEqProofs only [f0, go_sem, reduceIte, Nat.reduceAdd, Nat.reduceEqDiff, Nat.reduceMul, Nat.reduceLeDiff, Nat.reduceBEq, Nat.reduceBNe, Nat.reduceSub, Nat.reduceLT]
  split
  · rename_i c
    have c_ := szr_lt (by omega) c
    simp -implicitDefEqProofs only [go_sem, reduceIte, Nat.reduceAdd, Nat.reduceEqDiff, Nat.reduceMul, Nat.reduceLeDiff, Nat.reduceBEq, Nat.reduceBNe, Nat.reduceSub, Nat.reduceLT]
    exact ret_int (by rw [szr_neg (by simp -implicitDefEqProofs only [szC, D.sz]; omega)])
  rename_i c0_
  obtain ⟨r0, q0⟩ := szr_nn c0_
  simp -implicitDefEqProofs only [r0]
  clear f0 r0 c0_
  generalize e0 : l - ((x0.length + szE x0 : Nat) : Int) = l0 at *
  have p0 : 0 ≤ l0 := by omega
  have f1 := sz_NodeS x1 b1 c1 (l0) (by omega) (by omega)
  simp -implicitDefEqProofs only [f1, go_sem, reduceIte, Nat.reduceAdd, Nat.reduceEqDiff, Nat.reduceMul, Nat.reduceLeDiff, Nat.reduceBEq, Nat.reduceBNe, Nat.reduceSub, Nat.reduceLT]
  split
  · rename_i c
    have c_ := szr_lt (by omega) c
    simp -implicitDefEqProofs only [go_sem, reduceIte, Nat.reduceAdd, Nat.reduceEqDiff, Nat.reduceMul, Nat.reduceLeDiff, Nat.reduceBEq, Nat.reduceBNe, Nat.reduceSub, Nat.reduceLT]
    exact ret_int (by rw [szr_neg (by simp -implicitDefEqProofs only [szC, D.sz]; omega)])
  rename_i c1_
  obtain ⟨r1, q1⟩ := szr_nn c1_
  simp -implicitDefEqProofs only [r1]
  clear f1 r1 c1_
  generalize e1 : l0 - ((x1.length + szE x1 : Nat) : Int) = l1 at *
  have p1 : 0 ≤ l1 := by omega
  have f2 := sz_NodeS x2 b2 c2 (l1) (by omega) (by omega)
  simp -implicitDefEqProofs only [f2, go_sem, reduceIte, Nat.reduceAdd, Nat.reduceEqDiff, Nat.reduceMul, Nat.reduceLeDiff, Nat.reduceBEq, Nat.reduceBNe, Nat.reduceSub, Nat.reduceLT]
  split
  · rename_i c
    have c_ := szr_lt (by omega) c
    simp -implicitDefEqProofs only [go_sem, reduceIte, Nat.reduceAdd, Nat.reduceEqDiff, Nat.reduceMul, Nat.reduceLeDiff, Nat.reduceBEq, Nat.reduceBNe, Nat.reduceSub, Nat.reduceLT]
    exact ret_int (by rw [szr_neg (by simp -implicitDefEqProofs only [szC, D.sz]; omega)])
  rename_i c2_
  obtain ⟨r2, q2⟩ := szr_nn c2_
  simp -implicitDefEqProofs only [r2]
  clear f2 r2 c2_
  generalize e2 : l1 - ((x2.length + szE x2 : Nat) : Int) = l2 at *
  have p2 : 0 ≤ l2 := by omega
  have f4 := sz_VersionS x4 b4 c4 (l2) (by omega) (by omega)
  simp -implicitDefEqProofs only [f4, go_sem, reduceIte, Nat.reduceAdd, Nat.reduceEqDiff, Nat.reduceMul, Nat.reduceLeDiff, Nat.reduceBEq, Nat.reduceBNe, Nat.reduceSub, Nat.reduceLT]
  split
  · rename_i c
    have c_ := szr_lt (by omega) c
    simp -implicitDefEqProofs only [go_sem, reduceIte, Nat.reduceAdd, Nat.reduceEqDiff, Nat.reduceMul, Nat.reduceLeDiff, Nat.reduceBEq, Nat.reduceBNe, Nat.reduceSub, Nat.reduceLT]
    exact ret_int (by rw [szr_neg (by simp -implicitDefEqProofs only [szC, D.sz]; omega)])
  rename_i c4_
  obtain ⟨r4, q4⟩ := szr_nn c4_
  simp -implicitDefEqProofs only [r4]
  clear f4 r4 c4_
  generalize e4 : l2 - ((x4.length + szE x4 : Nat) : Int) = l4 at *
  have p4 : 0 ≤ l4 := by omega
  have f5 := sz_Pending _ (OkC.sub 5 5 ok) (l4) (by omega) (by omega)
  simp -implicitDefEqProofs only [List.drop_succ_cons, List.drop_zero, List.take_succ_cons, List.take_zero, List.map_cons, List.map_nil] at f5
  have s5 : (szC [.bool x5, .int .i64 x6, .int .i64 x7, .str x8, .list 3 false x9] : Nat) = 0 + x8.size + x9.length + szE x9 := by simp -implicitDefEqProofs only [szC, D.sz]; omega
  simp -implicitDefEqProofs only [f5, go_sem, reduceIte, Nat.reduceAdd, Nat.reduceEqDiff, Nat.reduceMul, Nat.reduceLeDiff, Nat.reduceBEq, Nat.reduceBNe, Nat.reduceSub, Nat.reduceLT]
  split
  · rename_i c
    have c_ := szr_lt (by omega) c
    simp -implicitDefEqProofs only [go_sem, reduceIte, Nat.reduceAdd, Nat.reduceEqDiff, Nat.reduceMul, Nat.reduceLeDiff, Nat.reduceBEq, Nat.reduceBNe, Nat.reduceSub, Nat.reduceLT]
    exact ret_int (by rw [szr_neg (by simp -implicitDefEqProofs only [szC, D.sz]; omega)])
  rename_i c5_
  obtain ⟨r5, q5⟩ := szr_nn c5_
  simp -implicitDefEqProofs only [r5]
  clear f5 r5 c5_
  generalize e5 : l4 - ((szC [.bool x5, .int .i64 x6, .int .i64 x7, .str x8, .list 3 false x9] : Nat) : Int) = l5 at *
  have p5 : 0 ≤ l5 := by omega
  simp -implicitDefEqProofs only [go_sem, reduceIte, Nat.reduceAdd, Nat.reduceEqDiff, Nat.reduceMul, Nat.reduceLeDiff, Nat.reduceBEq, Nat.reduceBNe, Nat.reduceSub, Nat.reduceLT]
  refine ret_int (szr_fin ?_ p5).symm
  simp -implicitDefEqProofs only [szC, D.sz]
  clear ok h0 h1 p0 p1 p2 p4 p5 b0 b1 b2 b4 b8 b9
  omega

end Go.Proofs.YtmaigpiappmpcaaGreat
