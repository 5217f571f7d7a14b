/-
  What the functions sz.. answer: what is left. Printed by a program of our own.
-/
import Derived.Test.YtmaigpiappmpcaaInv
import Derived.Test.YtmaigpiappmpcaaKP1T
namespace Go.Proofs.Ytmaigpiappmpcaa
open Go.RowKit
set_option maxRecDepth 100000
set_option maxHeartbeats 4000000
set_option linter.unusedSimpArgs false
set_option linter.unusedVariables false

theorem sz_Node_s (x0 : ByteArray) (x1 : ByteArray) (x2 : List (List D)) (ok : OkC maxLen (lay 2) [.str x0, .str x1, .list 3 false x2]) (ih : ∀ (l : Int), 0 ≤ l → l ≤ 4611686018427387904 → lim T 4 [.val false [.d (.list 3 false x2)], .val false [.d (.int .i64 l)]] = some ([.val false [.d (.int .i64 (szr (x2.length + szE x2) l))]], [])) (l : Int) (h0 : 0 ≤ l) (h1 : l ≤ 4611686018427387904) :
    lim T 3 [.val true ([.str x0, .str x1, .list 3 false x2].map .d), .val false [.d (.int .i64 l)]] = some ([.val false [.d (.int .i64 (szr (szC [.str x0, .str x1, .list 3 false x2]) l))]], []) := by
  obtain ⟨y0, y1, y2, e0, b0, b1, ⟨b2, c2⟩⟩ := inv_Node ok
  simp -implicitDefEqProofs only [List.cons.injEq, D.str.injEq, D.int.injEq, D.bool.injEq, D.list.injEq, true_and, and_true] at e0
  obtain ⟨rfl, rfl, rfl⟩ := e0
  rw [lim_fn (f := 3) rfl rfl]
  have w0 : IntKind.i64.wrap (l - (x0.size : Int)) = l - (x0.size : Int) := i64_wrap (by simp -implicitDefEqProofs only [maxLen] at b0; omega)
  simp -implicitDefEqProofs only [w0, go_sem, reduceIte, Nat.reduceAdd, Nat.reduceEqDiff, Nat.reduceMul, Nat.reduceLeDiff, Nat.reduceBEq, Nat.reduceBNe, Nat.reduceSub, Nat.reduceLT]
  split
  · rename_i c
    simp -implicitDefEqProofs only [go_sem, reduceIte, Nat.reduceAdd, Nat.reduceEqDiff, Nat.reduceMul, Nat.reduceLeDiff, Nat.reduceBEq, Nat.reduceBNe, Nat.reduceSub, Nat.reduceLT]
    exact ret_int (by rw [szr_neg (by simp -implicitDefEqProofs only [szC, D.sz]; omega)])
  rename_i c0_
  clear w0
  generalize e0 : l - (x0.size : Int) = l0 at *
  have p0 : 0 ≤ l0 := by omega
  have w1 : IntKind.i64.wrap (l0 - (x1.size : Int)) = l0 - (x1.size : Int) := i64_wrap (by simp -implicitDefEqProofs only [maxLen] at b1; omega)
  simp -implicitDefEqProofs only [w1, go_sem, reduceIte, Nat.reduceAdd, Nat.reduceEqDiff, Nat.reduceMul, Nat.reduceLeDiff, Nat.reduceBEq, Nat.reduceBNe, Nat.reduceSub, Nat.reduceLT]
  split
  · rename_i c
    simp -implicitDefEqProofs only [go_sem, reduceIte, Nat.reduceAdd, Nat.reduceEqDiff, Nat.reduceMul, Nat.reduceLeDiff, Nat.reduceBEq, Nat.reduceBNe, Nat.reduceSub, Nat.reduceLT]
    exact ret_int (by rw [szr_neg (by simp -implicitDefEqProofs only [szC, D.sz]; omega)])
  rename_i c1_
  clear w1
  generalize e1 : l0 - (x1.size : Int) = l1 at *
  have p1 : 0 ≤ l1 := by omega
  have f2 := ih (l1) (by omega) (by omega)
  simp -implicitDefEqProofs only [f2, go_sem, reduceIte, Nat.reduceAdd, Nat.reduceEqDiff, Nat.reduceMul, Nat.reduceLeDiff, Nat.reduceBEq, Nat.reduceBNe, Nat.reduceSub, Nat.reduceLT]
  split
  · rename_i c
    have c_ := szr_lt (by omega) c
    simp -implicitDefEqProofs only [go_sem, reduceIte, Nat.reduceAdd, Nat.reduceEqDiff, Nat.reduceMul, Nat.reduceLeDiff, Nat.reduceBEq, Nat.reduceBNe, Nat.reduceSub, Nat.reduceLT]
    exact ret_int (by rw [szr_neg (by simp -implicitDefEqProofs only [szC, D.sz]; omega)])
  rename_i c2_
  obtain ⟨r2, q2⟩ := szr_nn c2_
  simp -implicitDefEqProofs only [r2]
  clear f2 r2 c2_
  generalize e2 : l1 - ((x2.length + szE x2 : Nat) : Int) = l2 at *
  have p2 : 0 ≤ l2 := by omega
  simp -implicitDefEqProofs only [go_sem, reduceIte, Nat.reduceAdd, Nat.reduceEqDiff, Nat.reduceMul, Nat.reduceLeDiff, Nat.reduceBEq, Nat.reduceBNe, Nat.reduceSub, Nat.reduceLT]
  refine ret_int (szr_fin ?_ p2).symm
  simp -implicitDefEqProofs only [szC, D.sz]
  clear ok h0 h1 p0 p1 p2 b0 b1 b2
  omega
theorem sz_NodeS_s (es : List (List D)) (hB : es.length ≤ maxLen) (ok : OkE maxLen 2 es) (h : ∀ e ∈ es, ∀ (l : Int), 0 ≤ l → l ≤ 4611686018427387904 → lim T 3 [.val true (e.map .d), .val false [.d (.int .i64 l)]] = some ([.val false [.d (.int .i64 (szr (szC e) l))]], [])) (l : Int) (h0 : 0 ≤ l) (h1 : l ≤ 4611686018427387904) :
    lim T 4 [.val false [.d (.list 3 false es)], .val false [.d (.int .i64 l)]] = some ([.val false [.d (.int .i64 (szr (es.length + szE es) l))]], []) := by
  have w : IntKind.i64.wrap (l - (es.length : Int)) = l - (es.length : Int) := i64_wrap (by simp -implicitDefEqProofs only [maxLen] at hB; omega)
  rw [lim_fn (f := 4) rfl rfl]
  simp -implicitDefEqProofs only [w, go_sem, reduceIte, Nat.reduceAdd, Nat.reduceEqDiff, Nat.reduceMul, Nat.reduceLeDiff, Nat.reduceBEq, Nat.reduceBNe, Nat.reduceSub, Nat.reduceLT]
  split
  · rename_i c
    simp -implicitDefEqProofs only [go_sem, reduceIte, Nat.reduceAdd, Nat.reduceEqDiff, Nat.reduceMul, Nat.reduceLeDiff, Nat.reduceBEq, Nat.reduceBNe, Nat.reduceSub, Nat.reduceLT]
    exact ret_int (by rw [szr_neg (by omega)])
  rename_i c
  have hl := loop_sz (T := T) (mf := mf0) (body := lp4_0) (es := es) (fun i l => ⟨[(0, .d (.list 3 false es)), (1, .d (.int .i64 l)), (5, .d (.int .i64 (i : Int)))], [], []⟩) (fun l => ⟨[(0, .d (.list 3 false es)), (1, .d (.int .i64 l)), (5, .d (.int .i64 es.length)), (15, .d (.bool false))], [], []⟩) ⟨[(4, .d (.int .i64 (-1)))], [], []⟩
    (by
      intro i e l hn h0 h1 c
      have hi : i < es.length := by rw [nth_get] at hn; exact (List.getElem?_eq_some_iff.1 hn).1
      have hx := h _ (nth_mem hn) l h0 h1
      rw [szr_pos c] at hx
      have d : ¬ (l - (szC e : Int) < 0) := by omega
      obtain ⟨x0, x1, x2, rfl, _⟩ := inv_Node (ok.nth_ hn)
      simp -implicitDefEqProofs only [List.map_cons, List.map_nil] at hx
      simp -implicitDefEqProofs only [lp4_0, hn, hx, d, hi, ilt hi, wi hi hB, Int.natCast_nonneg, go_sem, reduceIte, Nat.reduceAdd, Nat.reduceEqDiff, Nat.reduceMul, Nat.reduceLeDiff, Nat.reduceBEq, Nat.reduceBNe, Nat.reduceSub, Nat.reduceLT])
    (by
      intro i e l hn h0 h1 c
      have hi : i < es.length := by rw [nth_get] at hn; exact (List.getElem?_eq_some_iff.1 hn).1
      have hx := h _ (nth_mem hn) l h0 h1
      rw [szr_neg c] at hx
      have d : ((-1 : Int) < 0) = True := by simp
      obtain ⟨x0, x1, x2, rfl, _⟩ := inv_Node (ok.nth_ hn)
      simp -implicitDefEqProofs only [List.map_cons, List.map_nil] at hx
      simp -implicitDefEqProofs only [lp4_0, hn, hx, d, hi, ilt hi, wi hi hB, Int.natCast_nonneg, go_sem, reduceIte, Nat.reduceAdd, Nat.reduceEqDiff, Nat.reduceMul, Nat.reduceLeDiff, Nat.reduceBEq, Nat.reduceBNe, Nat.reduceSub, Nat.reduceLT])
    (by intro l _ _; simp -implicitDefEqProofs only [lp4_0, nlt, go_sem, reduceIte, Nat.reduceAdd, Nat.reduceEqDiff, Nat.reduceMul, Nat.reduceLeDiff, Nat.reduceBEq, Nat.reduceBNe, Nat.reduceSub, Nat.reduceLT]) es.length 0 (l - es.length) (by omega) (by omega) (by omega)
  simp -implicitDefEqProofs only [Int.natCast_zero, List.drop_zero] at hl
  by_cases d : (szE es : Int) ≤ l - es.length
  · rw [if_pos d] at hl
    simp -implicitDefEqProofs only [hl, go_sem, reduceIte, Nat.reduceAdd, Nat.reduceEqDiff, Nat.reduceMul, Nat.reduceLeDiff, Nat.reduceBEq, Nat.reduceBNe, Nat.reduceSub, Nat.reduceLT]
    exact ret_int (by rw [szr_pos (by omega)]; omega)
  · rw [if_neg d] at hl
    simp -implicitDefEqProofs only [hl, go_sem, reduceIte, Nat.reduceAdd, Nat.reduceEqDiff, Nat.reduceMul, Nat.reduceLeDiff, Nat.reduceBEq, Nat.reduceBNe, Nat.reduceSub, Nat.reduceLT]
    exact ret_int (by rw [szr_neg (by omega)])
theorem sz_Node_n (n : Nat) : ∀ (e : List D), SizeOf.sizeOf e < n → OkC maxLen (lay 2) e → ∀ (l : Int), 0 ≤ l → l ≤ 4611686018427387904 → lim T 3 [.val true (e.map .d), .val false [.d (.int .i64 l)]] = some ([.val false [.d (.int .i64 (szr (szC e) l))]], []) := by
  induction n with
  | zero => intro e h; omega
  | succ n hi =>
    intro e hn ok
    obtain ⟨x0, x1, x2, he, b0, b1, ⟨b2, c2⟩⟩ := inv_Node ok
    rw [he] at hn ok ⊢
    refine sz_Node_s x0 x1 x2 ok (sz_NodeS_s x2 b2 c2 fun e he => hi e ?_ (c2.mem e he))
    exact Nat.lt_of_lt_of_le (size_in (k := 3) (fl := false) (es := x2) (by simp -implicitDefEqProofs only [List.mem_cons, true_or, or_true]) he) (Nat.le_of_lt_succ hn)
theorem sz_Node (e : List D) (ok : OkC maxLen (lay 2) e) : ∀ (l : Int), 0 ≤ l → l ≤ 4611686018427387904 → lim T 3 [.val true (e.map .d), .val false [.d (.int .i64 l)]] = some ([.val false [.d (.int .i64 (szr (szC e) l))]], []) := sz_Node_n (SizeOf.sizeOf e + 1) e (by omega) ok
theorem sz_NodeS (es : List (List D)) (hB : es.length ≤ maxLen) (ok : OkE maxLen 2 es) : ∀ (l : Int), 0 ≤ l → l ≤ 4611686018427387904 → lim T 4 [.val false [.d (.list 3 false es)], .val false [.d (.int .i64 l)]] = some ([.val false [.d (.int .i64 (szr (es.length + szE es) l))]], []) := sz_NodeS_s es hB ok fun e he => sz_Node e (ok.mem e he)
theorem sz_Edit_s (x0 : Int) (x1 : ByteArray) (x2 : ByteArray) (x3 : List (List D)) (ok : OkC maxLen (lay 3) [.int .i64 x0, .str x1, .str x2, .list 4 false x3]) (ih : ∀ (l : Int), 0 ≤ l → l ≤ 4611686018427387904 → lim T 27 [.val false [.d (.list 4 false x3)], .val false [.d (.int .i64 l)]] = some ([.val false [.d (.int .i64 (szr (x3.length + szE x3) l))]], [])) (l : Int) (h0 : 0 ≤ l) (h1 : l ≤ 4611686018427387904) :
    lim T 26 [.val true ([.int .i64 x0, .str x1, .str x2, .list 4 false x3].map .d), .val false [.d (.int .i64 l)]] = some ([.val false [.d (.int .i64 (szr (szC [.int .i64 x0, .str x1, .str x2, .list 4 false x3]) l))]], []) := by
  obtain ⟨y0, y1, y2, y3, e0, _, b1, b2, ⟨b3, c3⟩⟩ := inv_Edit ok
  simp -implicitDefEqProofs only [List.cons.injEq, D.str.injEq, D.int.injEq, D.bool.injEq, D.list.injEq, true_and, and_true] at e0
  obtain ⟨rfl, rfl, rfl, rfl⟩ := e0
  rw [lim_fn (f := 26) rfl rfl]
  have w1 : IntKind.i64.wrap (l - (x1.size : Int)) = l - (x1.size : Int) := i64_wrap (by simp -implicitDefEqProofs only [maxLen] at b1; omega)
  simp -implicitDefEqProofs only [w1, go_sem, reduceIte, Nat.reduceAdd, Nat.reduceEqDiff, Nat.reduceMul, Nat.reduceLeDiff, Nat.reduceBEq, Nat.reduceBNe, Nat.reduceSub, Nat.reduceLT]
  split
  · rename_i c
    simp -implicitDefEqProofs only [go_sem, reduceIte, Nat.reduceAdd, Nat.reduceEqDiff, Nat.reduceMul, Nat.reduceLeDiff, Nat.reduceBEq, Nat.reduceBNe, Nat.reduceSub, Nat.reduceLT]
    exact ret_int (by rw [szr_neg (by simp -implicitDefEqProofs only [szC, D.sz]; omega)])
  rename_i c1_
  clear w1
  generalize e1 : l - (x1.size : Int) = l1 at *
  have p1 : 0 ≤ l1 := by omega
  have w2 : IntKind.i64.wrap (l1 - (x2.size : Int)) = l1 - (x2.size : Int) := i64_wrap (by simp -implicitDefEqProofs only [maxLen] at b2; omega)
  simp -implicitDefEqProofs only [w2, go_sem, reduceIte, Nat.reduceAdd, Nat.reduceEqDiff, Nat.reduceMul, Nat.reduceLeDiff, Nat.reduceBEq, Nat.reduceBNe, Nat.reduceSub, Nat.reduceLT]
  split
  · rename_i c
    simp -implicitDefEqProofs only [go_sem, reduceIte, Nat.reduceAdd, Nat.reduceEqDiff, Nat.reduceMul, Nat.reduceLeDiff, Nat.reduceBEq, Nat.reduceBNe, Nat.reduceSub, Nat.reduceLT]
    exact ret_int (by rw [szr_neg (by simp -implicitDefEqProofs only [szC, D.sz]; omega)])
  rename_i c2_
  clear w2
  generalize e2 : l1 - (x2.size : Int) = l2 at *
  have p2 : 0 ≤ l2 := by omega
  have f3 := ih (l2) (by omega) (by omega)
  simp -implicitDefEqProofs only [f3, go_sem, reduceIte, Nat.reduceAdd, Nat.reduceEqDiff, Nat.reduceMul, Nat.reduceLeDiff, Nat.reduceBEq, Nat.reduceBNe, Nat.reduceSub, Nat.reduceLT]
  split
  · rename_i c
    have c_ := szr_lt (by omega) c
    simp -implicitDefEqProofs only [go_sem, reduceIte, Nat.reduceAdd, Nat.reduceEqDiff, Nat.reduceMul, Nat.reduceLeDiff, Nat.reduceBEq, Nat.reduceBNe, Nat.reduceSub, Nat.reduceLT]
    exact ret_int (by rw [szr_neg (by simp -implicitDefEqProofs only [szC, D.sz]; omega)])
  rename_i c3_
  obtain ⟨r3, q3⟩ := szr_nn c3_
  simp -implicitDefEqProofs only [r3]
  clear f3 r3 c3_
  generalize e3 : l2 - ((x3.length + szE x3 : Nat) : Int) = l3 at *
  have p3 : 0 ≤ l3 := by omega
  simp -implicitDefEqProofs only [go_sem, reduceIte, Nat.reduceAdd, Nat.reduceEqDiff, Nat.reduceMul, Nat.reduceLeDiff, Nat.reduceBEq, Nat.reduceBNe, Nat.reduceSub, Nat.reduceLT]
  refine ret_int (szr_fin ?_ p3).symm
  simp -implicitDefEqProofs only [szC, D.sz]
  clear ok h0 h1 p1 p2 p3 b1 b2 b3
  omega
theorem sz_EditS_s (es : List (List D)) (hB : es.length ≤ maxLen) (ok : OkE maxLen 3 es) (h : ∀ e ∈ es, ∀ (l : Int), 0 ≤ l → l ≤ 4611686018427387904 → lim T 26 [.val true (e.map .d), .val false [.d (.int .i64 l)]] = some ([.val false [.d (.int .i64 (szr (szC e) l))]], [])) (l : Int) (h0 : 0 ≤ l) (h1 : l ≤ 4611686018427387904) :
    lim T 27 [.val false [.d (.list 4 false es)], .val false [.d (.int .i64 l)]] = some ([.val false [.d (.int .i64 (szr (es.length + szE es) l))]], []) := by
  have w : IntKind.i64.wrap (l - (es.length : Int)) = l - (es.length : Int) := i64_wrap (by simp -implicitDefEqProofs only [maxLen] at hB; omega)
  rw [lim_fn (f := 27) rfl rfl]
  simp -implicitDefEqProofs only [w, go_sem, reduceIte, Nat.reduceAdd, Nat.reduceEqDiff, Nat.reduceMul, Nat.reduceLeDiff, Nat.reduceBEq, Nat.reduceBNe, Nat.reduceSub, Nat.reduceLT]
  split
  · rename_i c
    simp -implicitDefEqProofs only [go_sem, reduceIte, Nat.reduceAdd, Nat.reduceEqDiff, Nat.reduceMul, Nat.reduceLeDiff, Nat.reduceBEq, Nat.reduceBNe, Nat.reduceSub, Nat.reduceLT]
    exact ret_int (by rw [szr_neg (by omega)])
  rename_i c
  have hl := loop_sz (T := T) (mf := mf0) (body := lp27_0) (es := es) (fun i l => ⟨[(0, .d (.list 4 false es)), (1, .d (.int .i64 l)), (5, .d (.int .i64 (i : Int)))], [], []⟩) (fun l => ⟨[(0, .d (.list 4 false es)), (1, .d (.int .i64 l)), (5, .d (.int .i64 es.length)), (15, .d (.bool false))], [], []⟩) ⟨[(4, .d (.int .i64 (-1)))], [], []⟩
    (by
      intro i e l hn h0 h1 c
      have hi : i < es.length := by rw [nth_get] at hn; exact (List.getElem?_eq_some_iff.1 hn).1
      have hx := h _ (nth_mem hn) l h0 h1
      rw [szr_pos c] at hx
      have d : ¬ (l - (szC e : Int) < 0) := by omega
      obtain ⟨x0, x1, x2, x3, rfl, _⟩ := inv_Edit (ok.nth_ hn)
      simp -implicitDefEqProofs only [List.map_cons, List.map_nil] at hx
      simp -implicitDefEqProofs only [lp27_0, hn, hx, d, hi, ilt hi, wi hi hB, Int.natCast_nonneg, go_sem, reduceIte, Nat.reduceAdd, Nat.reduceEqDiff, Nat.reduceMul, Nat.reduceLeDiff, Nat.reduceBEq, Nat.reduceBNe, Nat.reduceSub, Nat.reduceLT])
    (by
      intro i e l hn h0 h1 c
      have hi : i < es.length := by rw [nth_get] at hn; exact (List.getElem?_eq_some_iff.1 hn).1
      have hx := h _ (nth_mem hn) l h0 h1
      rw [szr_neg c] at hx
      have d : ((-1 : Int) < 0) = True := by simp
      obtain ⟨x0, x1, x2, x3, rfl, _⟩ := inv_Edit (ok.nth_ hn)
      simp -implicitDefEqProofs only [List.map_cons, List.map_nil] at hx
      simp -implicitDefEqProofs only [lp27_0, hn, hx, d, hi, ilt hi, wi hi hB, Int.natCast_nonneg, go_sem, reduceIte, Nat.reduceAdd, Nat.reduceEqDiff, Nat.reduceMul, Nat.reduceLeDiff, Nat.reduceBEq, Nat.reduceBNe, Nat.reduceSub, Nat.reduceLT])
    (by intro l _ _; simp -implicitDefEqProofs only [lp27_0, nlt, go_sem, reduceIte, Nat.reduceAdd, Nat.reduceEqDiff, Nat.reduceMul, Nat.reduceLeDiff, Nat.reduceBEq, Nat.reduceBNe, Nat.reduceSub, Nat.reduceLT]) es.length 0 (l - es.length) (by omega) (by omega) (by omega)
  simp -implicitDefEqProofs only [Int.natCast_zero, List.drop_zero] at hl
  by_cases d : (szE es : Int) ≤ l - es.length
  · rw [if_pos d] at hl
    simp -implicitDefEqProofs only [hl, go_sem, reduceIte, Nat.reduceAdd, Nat.reduceEqDiff, Nat.reduceMul, Nat.reduceLeDiff, Nat.reduceBEq, Nat.reduceBNe, Nat.reduceSub, Nat.reduceLT]
    exact ret_int (by rw [szr_pos (by omega)]; omega)
  · rw [if_neg d] at hl
    simp -implicitDefEqProofs only [hl, go_sem, reduceIte, Nat.reduceAdd, Nat.reduceEqDiff, Nat.reduceMul, Nat.reduceLeDiff, Nat.reduceBEq, Nat.reduceBNe, Nat.reduceSub, Nat.reduceLT]
    exact ret_int (by rw [szr_neg (by omega)])
theorem sz_Edit_n (n : Nat) : ∀ (e : List D), SizeOf.sizeOf e < n → OkC maxLen (lay 3) e → ∀ (l : Int), 0 ≤ l → l ≤ 4611686018427387904 → lim T 26 [.val true (e.map .d), .val false [.d (.int .i64 l)]] = some ([.val false [.d (.int .i64 (szr (szC e) l))]], []) := by
  induction n with
  | zero => intro e h; omega
  | succ n hi =>
    intro e hn ok
    obtain ⟨x0, x1, x2, x3, he, _, b1, b2, ⟨b3, c3⟩⟩ := inv_Edit ok
    rw [he] at hn ok ⊢
    refine sz_Edit_s x0 x1 x2 x3 ok (sz_EditS_s x3 b3 c3 fun e he => hi e ?_ (c3.mem e he))
    exact Nat.lt_of_lt_of_le (size_in (k := 4) (fl := false) (es := x3) (by simp -implicitDefEqProofs only [List.mem_cons, true_or, or_true]) he) (Nat.le_of_lt_succ hn)
theorem sz_Edit (e : List D) (ok : OkC maxLen (lay 3) e) : ∀ (l : Int), 0 ≤ l → l ≤ 4611686018427387904 → lim T 26 [.val true (e.map .d), .val false [.d (.int .i64 l)]] = some ([.val false [.d (.int .i64 (szr (szC e) l))]], []) := sz_Edit_n (SizeOf.sizeOf e + 1) e (by omega) ok
theorem sz_EditS (es : List (List D)) (hB : es.length ≤ maxLen) (ok : OkE maxLen 3 es) : ∀ (l : Int), 0 ≤ l → l ≤ 4611686018427387904 → lim T 27 [.val false [.d (.list 4 false es)], .val false [.d (.int .i64 l)]] = some ([.val false [.d (.int .i64 (szr (es.length + szE es) l))]], []) := sz_EditS_s es hB ok fun e he => sz_Edit e (ok.mem e he)
theorem sz_Change (e : List D) (ok : OkC maxLen (lay 4) e) (l : Int) (h0 : 0 ≤ l) (h1 : l ≤ 4611686018427387904) :
    lim T 28 [.val true (e.map .d), .val false [.d (.int .i64 l)]] = some ([.val false [.d (.int .i64 (szr (szC e) l))]], []) := by
  obtain ⟨x0, x1, x2, rfl, _, _, ⟨b2, c2⟩⟩ := inv_Change ok
  rw [lim_fn (f := 28) rfl rfl]
  have f2 := sz_EditS x2 b2 c2 (l) (by omega) (by omega)
  simp -implicitDefEqProofs only [f2, go_sem, reduceIte, Nat.reduceAdd, Nat.reduceEqDiff, Nat.reduceMul, Nat.reduceLeDiff, Nat.reduceBEq, Nat.reduceBNe, Nat.reduceSub, Nat.reduceLT]
  split
  · rename_i c
    have c_ := szr_lt (by omega) c
    simp -implicitDefEqProofs only [go_sem, reduceIte, Nat.reduceAdd, Nat.reduceEqDiff, Nat.reduceMul, Nat.reduceLeDiff, Nat.reduceBEq, Nat.reduceBNe, Nat.reduceSub, Nat.reduceLT]
    exact ret_int (by rw [szr_neg (by simp -implicitDefEqProofs only [szC, D.sz]; omega)])
  rename_i c2_
  obtain ⟨r2, q2⟩ := szr_nn c2_
  simp -implicitDefEqProofs only [r2]
  clear f2 r2 c2_
  generalize e2 : l - ((x2.length + szE x2 : Nat) : Int) = l2 at *
  have p2 : 0 ≤ l2 := by omega
  simp -implicitDefEqProofs only [go_sem, reduceIte, Nat.reduceAdd, Nat.reduceEqDiff, Nat.reduceMul, Nat.reduceLeDiff, Nat.reduceBEq, Nat.reduceBNe, Nat.reduceSub, Nat.reduceLT]
  refine ret_int (szr_fin ?_ p2).symm
  simp -implicitDefEqProofs only [szC, D.sz]
  clear ok h0 h1 p2 b2
  omega
theorem sz_ChangeS (es : List (List D)) (hB : es.length ≤ maxLen) (ok : OkE maxLen 4 es) (l : Int) (h0 : 0 ≤ l) (h1 : l ≤ 4611686018427387904) :
    lim T 29 [.val false [.d (.list 3 false es)], .val false [.d (.int .i64 l)]] = some ([.val false [.d (.int .i64 (szr (es.length + szE es) l))]], []) := by
  have h : ∀ e ∈ es, ∀ (l : Int), 0 ≤ l → l ≤ 4611686018427387904 → lim T 28 [.val true (e.map .d), .val false [.d (.int .i64 l)]] = some ([.val false [.d (.int .i64 (szr (szC e) l))]], []) := fun e he => sz_Change e (ok.mem e he)
  have w : IntKind.i64.wrap (l - (es.length : Int)) = l - (es.length : Int) := i64_wrap (by simp -implicitDefEqProofs only [maxLen] at hB; omega)
  rw [lim_fn (f := 29) rfl rfl]
  simp -implicitDefEqProofs only [w, go_sem, reduceIte, Nat.reduceAdd, Nat.reduceEqDiff, Nat.reduceMul, Nat.reduceLeDiff, Nat.reduceBEq, Nat.reduceBNe, Nat.reduceSub, Nat.reduceLT]
  split
  · rename_i c
    simp -implicitDefEqProofs only [go_sem, reduceIte, Nat.reduceAdd, Nat.reduceEqDiff, Nat.reduceMul, Nat.reduceLeDiff, Nat.reduceBEq, Nat.reduceBNe, Nat.reduceSub, Nat.reduceLT]
    exact ret_int (by rw [szr_neg (by omega)])
  rename_i c
  have hl := loop_sz (T := T) (mf := mf0) (body := lp29_0) (es := es) (fun i l => ⟨[(0, .d (.list 3 false es)), (1, .d (.int .i64 l)), (5, .d (.int .i64 (i : Int)))], [], []⟩) (fun l => ⟨[(0, .d (.list 3 false es)), (1, .d (.int .i64 l)), (5, .d (.int .i64 es.length)), (15, .d (.bool false))], [], []⟩) ⟨[(4, .d (.int .i64 (-1)))], [], []⟩
    (by
      intro i e l hn h0 h1 c
      have hi : i < es.length := by rw [nth_get] at hn; exact (List.getElem?_eq_some_iff.1 hn).1
      have hx := h _ (nth_mem hn) l h0 h1
      rw [szr_pos c] at hx
      have d : ¬ (l - (szC e : Int) < 0) := by omega
      obtain ⟨x0, x1, x2, rfl, _⟩ := inv_Change (ok.nth_ hn)
      simp -implicitDefEqProofs only [List.map_cons, List.map_nil] at hx
      simp -implicitDefEqProofs only [lp29_0, hn, hx, d, hi, ilt hi, wi hi hB, Int.natCast_nonneg, go_sem, reduceIte, Nat.reduceAdd, Nat.reduceEqDiff, Nat.reduceMul, Nat.reduceLeDiff, Nat.reduceBEq, Nat.reduceBNe, Nat.reduceSub, Nat.reduceLT])
    (by
      intro i e l hn h0 h1 c
      have hi : i < es.length := by rw [nth_get] at hn; exact (List.getElem?_eq_some_iff.1 hn).1
      have hx := h _ (nth_mem hn) l h0 h1
      rw [szr_neg c] at hx
      have d : ((-1 : Int) < 0) = True := by simp
      obtain ⟨x0, x1, x2, rfl, _⟩ := inv_Change (ok.nth_ hn)
      simp -implicitDefEqProofs only [List.map_cons, List.map_nil] at hx
      simp -implicitDefEqProofs only [lp29_0, hn, hx, d, hi, ilt hi, wi hi hB, Int.natCast_nonneg, go_sem, reduceIte, Nat.reduceAdd, Nat.reduceEqDiff, Nat.reduceMul, Nat.reduceLeDiff, Nat.reduceBEq, Nat.reduceBNe, Nat.reduceSub, Nat.reduceLT])
    (by intro l _ _; simp -implicitDefEqProofs only [lp29_0, nlt, go_sem, reduceIte, Nat.reduceAdd, Nat.reduceEqDiff, Nat.reduceMul, Nat.reduceLeDiff, Nat.reduceBEq, Nat.reduceBNe, Nat.reduceSub, Nat.reduceLT]) es.length 0 (l - es.length) (by omega) (by omega) (by omega)
  simp -implicitDefEqProofs only [Int.natCast_zero, List.drop_zero] at hl
  by_cases d : (szE es : Int) ≤ l - es.length
  · rw [if_pos d] at hl
    simp -implicitDefEqProofs only [hl, go_sem, reduceIte, Nat.reduceAdd, Nat.reduceEqDiff, Nat.reduceMul, Nat.reduceLeDiff, Nat.reduceBEq, Nat.reduceBNe, Nat.reduceSub, Nat.reduceLT]
    exact ret_int (by rw [szr_pos (by omega)]; omega)
  · rw [if_neg d] at hl
    simp -implicitDefEqProofs only [hl, go_sem, reduceIte, Nat.reduceAdd, Nat.reduceEqDiff, Nat.reduceMul, Nat.reduceLeDiff, Nat.reduceBEq, Nat.reduceBNe, Nat.reduceSub, Nat.reduceLT]
    exact ret_int (by rw [szr_neg (by omega)])
theorem sz_Journal (e : List D) (ok : OkC maxLen (lay 5) e) (l : Int) (h0 : 0 ≤ l) (h1 : l ≤ 4611686018427387904) :
    lim T 30 [.val true (e.map .d), .val false [.d (.int .i64 l)]] = some ([.val false [.d (.int .i64 (szr (szC e) l))]], []) := by
  obtain ⟨x0, x1, rfl, ⟨b0, c0⟩, ⟨b1, c1⟩⟩ := inv_Journal ok
  rw [lim_fn (f := 30) rfl rfl]
  have f0 := sz_NodeS x0 b0 c0 (l) (by omega) (by omega)
  simp -implicitDefEqProofs only [f0, go_sem, reduceIte, Nat.reduceAdd, Nat.reduceEqDiff, Nat.reduceMul, Nat.reduceLeDiff, Nat.reduceBEq, Nat.reduceBNe, Nat.reduceSub, Nat.reduceLT]
  split
  · rename_i c
    have c_ := szr_lt (by omega) c
    simp -implicitDefEqProofs only [go_sem, reduceIte, Nat.reduceAdd, Nat.reduceEqDiff, Nat.reduceMul, Nat.reduceLeDiff, Nat.reduceBEq, Nat.reduceBNe, Nat.reduceSub, Nat.reduceLT]
    exact ret_int (by rw [szr_neg (by simp -implicitDefEqProofs only [szC, D.sz]; omega)])
  rename_i c0_
  obtain ⟨r0, q0⟩ := szr_nn c0_
  simp -implicitDefEqProofs only [r0]
  clear f0 r0 c0_
  generalize e0 : l - ((x0.length + szE x0 : Nat) : Int) = l0 at *
  have p0 : 0 ≤ l0 := by omega
  have f1 := sz_ChangeS x1 b1 c1 (l0) (by omega) (by omega)
  simp -implicitDefEqProofs only [f1, go_sem, reduceIte, Nat.reduceAdd, Nat.reduceEqDiff, Nat.reduceMul, Nat.reduceLeDiff, Nat.reduceBEq, Nat.reduceBNe, Nat.reduceSub, Nat.reduceLT]
  split
  · rename_i c
    have c_ := szr_lt (by omega) c
    simp -implicitDefEqProofs only [go_sem, reduceIte, Nat.reduceAdd, Nat.reduceEqDiff, Nat.reduceMul, Nat.reduceLeDiff, Nat.reduceBEq, Nat.reduceBNe, Nat.reduceSub, Nat.reduceLT]
    exact ret_int (by rw [szr_neg (by simp -implicitDefEqProofs only [szC, D.sz]; omega)])
  rename_i c1_
  obtain ⟨r1, q1⟩ := szr_nn c1_
  simp -implicitDefEqProofs only [r1]
  clear f1 r1 c1_
  generalize e1 : l0 - ((x1.length + szE x1 : Nat) : Int) = l1 at *
  have p1 : 0 ≤ l1 := by omega
  simp -implicitDefEqProofs only [go_sem, reduceIte, Nat.reduceAdd, Nat.reduceEqDiff, Nat.reduceMul, Nat.reduceLeDiff, Nat.reduceBEq, Nat.reduceBNe, Nat.reduceSub, Nat.reduceLT]
  refine ret_int (szr_fin ?_ p1).symm
  simp -implicitDefEqProofs only [szC, D.sz]
  clear ok h0 h1 p0 p1 b0 b1
  omega

end Go.Proofs.Ytmaigpiappmpcaa
