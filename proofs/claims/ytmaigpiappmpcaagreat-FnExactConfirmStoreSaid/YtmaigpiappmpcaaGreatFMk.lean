/-
  What the functions mark.. do: marked data. Printed by a program of our own.
-/
import Derived.Test.YtmaigpiappmpcaaGreatInv
import Derived.Test.YtmaigpiappmpcaaGreatKSM
import Derived.Test.YtmaigpiappmpcaaGreatKP1T
namespace Go.Proofs.YtmaigpiappmpcaaGreat
open Go.RowKit
set_option maxRecDepth 100000
set_option maxHeartbeats 4000000
set_option linter.unusedSimpArgs false
set_option linter.unusedVariables false

theorem loop16 : ∀ (f n : Nat) (out : ByteArray) (W : List (Nat × Row)), n < 10 ^ f → n ≤ 9223372036854775807 → out.size + f ≤ 100 → (W = [] ∨ ∃ r, W = [(12, r)]) →
    ∃ W', ev T mf0 (.loop lp16_0) ⟨[(0, .d (.int .i64 n)), (3, .d (.str out))], [], W⟩ = some (.exit 0, ⟨[(0, .d (.int .i64 0)), (3, .d (.str (digs f n out))), (7, .d (.bool false))], [], W'⟩)
  | 0, n, out, W, h, _, _, hW => by
    obtain rfl : n = 0 := by simp at h; omega
    rw [ev_loop]
    rcases hW with rfl | ⟨r, rfl⟩
    · refine ⟨[], ?_⟩
      simp -implicitDefEqProofs only [lp16_0, digs, Int.natCast_zero, Int.lt_irrefl, go_sem, reduceIte, Nat.reduceAdd, Nat.reduceEqDiff]
    · refine ⟨[(12, r)], ?_⟩
      simp -implicitDefEqProofs only [lp16_0, digs, Int.natCast_zero, Int.lt_irrefl, go_sem, reduceIte, Nat.reduceAdd, Nat.reduceEqDiff]
  | f + 1, n, out, W, h, hb, ho, hW => by
    by_cases h0 : n = 0
    · subst h0
      rw [ev_loop]
      rcases hW with rfl | ⟨r, rfl⟩
      · refine ⟨[], ?_⟩
        simp -implicitDefEqProofs only [lp16_0, digs, Int.natCast_zero, Int.lt_irrefl, go_sem, reduceIte, Nat.reduceAdd, Nat.reduceEqDiff]
      · refine ⟨[(12, r)], ?_⟩
        simp -implicitDefEqProofs only [lp16_0, digs, Int.natCast_zero, Int.lt_irrefl, go_sem, reduceIte, Nat.reduceAdd, Nat.reduceEqDiff]
    · have hd : (0 : Int) < (n : Int) := by omega
      have hr : (0 : Int) ≤ (n : Int) := by omega
      have h1 : IntKind.i64.wrap (48 + (n : Int) % 10) = 48 + (n : Int) % 10 := i64_wrap (by omega)
      have h2 : IntKind.u8.wrap (48 + (n : Int) % 10) = 48 + (n : Int) % 10 := by simp -implicitDefEqProofs only [IntKind.wrap, IntKind.bits, IntKind.signed]; simp; omega
      have h3 : (48 + (n : Int) % 10).toNat = 48 + n % 10 := by omega
      have h4 : (n : Int) / 10 = ((n / 10 : Nat) : Int) := by omega
      have h5 : (⟨#[UInt8.ofNat (48 + n % 10)]⟩ : ByteArray).size + out.size ≤ maxLen := by rw [size1]; simp -implicitDefEqProofs only [maxLen]; omega
      obtain ⟨W', ih⟩ := loop16 f (n / 10) (⟨#[UInt8.ofNat (48 + n % 10)]⟩ ++ out) [(12, ⟨[[.int .u8 (48 + (n : Int) % 10)]], 1, true, true, true, false⟩)] (by rw [Nat.pow_succ] at h; omega) (by omega) (by rw [ByteArray.size_append, size1]; omega) (.inr ⟨_, rfl⟩)
      refine ⟨W', ?_⟩
      have hi1 : (1 : Int) ≤ 10 := by omega
      have h6 : #[UInt8.ofNat (48 + n % 10)].size + out.size ≤ maxLen := h5
      have hb : ev T mf0 lp16_0 ⟨[(0, .d (.int .i64 n)), (3, .d (.str out))], [], W⟩ = some (.norm, ⟨[(0, .d (.int .i64 (n / 10 : Nat))), (3, .d (.str (⟨#[UInt8.ofNat (48 + n % 10)]⟩ ++ out)))], [], [(12, ⟨[[.int .u8 (48 + (n : Int) % 10)]], 1, true, true, true, false⟩)]⟩) := by
        rcases hW with rfl | ⟨r, rfl⟩ <;> simp -implicitDefEqProofs only [lp16_0, hd, hr, hi1, h1, h2, h3, h4, h5, h6, bytesOf, List.map_cons, List.map_nil, ne_eq, not_false_eq_true, reduceCtorEq, go_sem, reduceIte, Nat.reduceAdd, Nat.reduceEqDiff, Nat.reduceLT, Nat.reduceBNe]
      rw [ev_loop, hb]
      simp -implicitDefEqProofs only [digs, h0, if_false]
      exact ih
theorem markText (q : Int) (h0 : 0 < q) (h1 : q ≤ 9223372036854775807) : lim T 16 [.val false [.d (.int .i64 q)]] = some ([.val false [.d (.str (mText q))]], []) := by
  obtain ⟨n, rfl⟩ : ∃ n : Nat, q = n := ⟨q.toNat, by omega⟩
  rw [lim_fn (f := 16) rfl rfl]
  obtain ⟨W', hl⟩ := loop16 20 n ⟨#[]⟩ [] (by omega) (by omega) (by decide) (.inl rfl)
  have hd : ¬ ((n : Int) ≤ 0) := by omega
  have hs : (mText (n : Int)).size ≤ maxLen := Nat.le_trans (mText_small _) (by decide)
  simp -implicitDefEqProofs only [mText, if_neg hd, Int.toNat_natCast] at hs ⊢
  rw [ByteArray.size_append] at hs
  have hs2 : #[(109 : UInt8)].size + (digs 20 n ⟨#[]⟩).size ≤ maxLen := hs
  simp -implicitDefEqProofs only [hl, hd, hs2, go_sem, reduceIte, Nat.reduceAdd, Nat.reduceEqDiff, Nat.reduceLeDiff]
theorem mark_StringS (es : List (List D)) (hB : es.length ≤ big) (ok : OkE big 0 es) (q : Int) (h0 : 0 < q) (h1 : q + mnE es ≤ 4611686018427387904) :
    limM T 149 false [.list 1 true es] q = some ([.list 1 true (mkE es q)], q + mnE es) := by
  rw [limM_list (f := 149) rfl]
  have hl := loopM0 (T := T) (own := true) (k := 1) (body := lp149_0) (fun i => ⟨⟨[(1, .d (.int .i64 (q + mnE (es.take i)))), (5, .d (.int .i64 i))], [], []⟩, [(0, .lst)], mkE (es.take i) q ++ es.drop i⟩) es.length
    (by simp -implicitDefEqProofs only [lp149_0, mkE_length, List.append_nil, nlt, List.take_length, List.drop_length, go_sem, reduceIte, Nat.reduceAdd, Nat.reduceEqDiff, Nat.reduceMul, Nat.reduceLeDiff, Nat.reduceBEq, Nat.reduceBNe, Nat.reduceSub, Nat.reduceLT]; rfl)
    (by
      intro i hi
      have hn := nth_lt hi
      have t1 := mnE_take_le es (i + 1)
      have t2 := mnE_take_succ hn
      obtain ⟨x0, he, b0⟩ := inv_str (ok.nth_ hn)
      have t3 : mnC es[i] = 0 + 1 := by rw [he]; simp -implicitDefEqProofs only [mnC, D.mn] <;> omega
      have m0 := markText (q + (mnE (es.take i) : Int)) (by omega) (by omega)
      obtain ⟨w0, t4⟩ : (IntKind.i64.wrap (q + (mnE (es.take i) : Int) + 1) = q + (mnE (es.take i) : Int) + 1) ∧ (q + (mnE (es.take (i + 1)) : Int) = q + (mnE (es.take i) : Int) + 1) := ⟨i64_wrap (by omega), by omega⟩
      have g := mk_end q hn
      rw [he] at hn g
      simp -implicitDefEqProofs only [mkC, D.mk, D.mn, Int.natCast_one] at g
      have i3 : (1 : Int) ≤ 3 := by omega
      simp -implicitDefEqProofs only [lp149_0, m0, w0, t4, i3, mk_len q (Nat.le_of_lt hi), mk_nth q hn, mk_set q hn, mk_nth' q hi, mk_len' q hi, mk_set' q hi, hi, ilt hi, wi hi (Nat.le_trans hB (by simp [maxLen, big])), Int.natCast_nonneg, go_sem, reduceIte, Nat.reduceAdd, Nat.reduceEqDiff, Nat.reduceMul, Nat.reduceLeDiff, Nat.reduceBEq, Nat.reduceBNe, Nat.reduceSub, Nat.reduceLT]
      exact congrArg (fun z => some (Ex.norm, MS.mk _ _ z)) g)
  simp -implicitDefEqProofs only [Int.natCast_zero, List.take_zero, List.drop_zero, mkE, mnE, List.nil_append, Int.add_zero] at hl
  simp -implicitDefEqProofs only [hl, go_sem, reduceIte, Nat.reduceAdd, Nat.reduceEqDiff, Nat.reduceMul, Nat.reduceLeDiff, Nat.reduceBEq, Nat.reduceBNe, Nat.reduceSub, Nat.reduceLT]
theorem mark_RangeS (es : List (List D)) (hB : es.length ≤ big) (ok : OkE big 6 es) (q : Int) (h0 : 0 < q) (h1 : q + mnE es ≤ 4611686018427387904) :
    limM T 148 false [.list 2 true es] q = some ([.list 2 true (mkE es q)], q + mnE es) := by
  rw [limM_list (f := 148) rfl]
  have hl := loopM0 (T := T) (own := true) (k := 2) (body := lp148_0) (fun i => ⟨⟨[(1, .d (.int .i64 (q + mnE (es.take i)))), (5, .d (.int .i64 i))], [], []⟩, [(0, .lst)], mkE (es.take i) q ++ es.drop i⟩) es.length
    (by simp -implicitDefEqProofs only [lp148_0, mkE_length, List.append_nil, nlt, List.take_length, List.drop_length, go_sem, reduceIte, Nat.reduceAdd, Nat.reduceEqDiff, Nat.reduceMul, Nat.reduceLeDiff, Nat.reduceBEq, Nat.reduceBNe, Nat.reduceSub, Nat.reduceLT]; rfl)
    (by
      intro i hi
      have hn := nth_lt hi
      have t1 := mnE_take_le es (i + 1)
      have t2 := mnE_take_succ hn
      obtain ⟨x0, x1, he, _, _⟩ := inv_Range (ok.nth_ hn)
      have t3 : mnC es[i] = 0 + 1 + 1 := by rw [he]; simp -implicitDefEqProofs only [mnC, D.mn] <;> omega
      obtain ⟨w0, w1, t4⟩ : (IntKind.i64.wrap (q + (mnE (es.take i) : Int) + 1) = q + (mnE (es.take i) : Int) + 1) ∧ (IntKind.i64.wrap (q + (mnE (es.take i) : Int) + 1 + 1) = q + (mnE (es.take i) : Int) + 1 + 1) ∧ (q + (mnE (es.take (i + 1)) : Int) = q + (mnE (es.take i) : Int) + 1 + 1) := ⟨i64_wrap (by omega), i64_wrap (by omega), by omega⟩
      have g := mk_end q hn
      rw [he] at hn g
      simp -implicitDefEqProofs only [mkC, D.mk, D.mn, Int.natCast_one] at g
      have i3 : (1 : Int) ≤ 3 := by omega
      simp -implicitDefEqProofs only [lp148_0, w0, w1, t4, i3, mk_len q (Nat.le_of_lt hi), mk_nth q hn, mk_set q hn, mk_nth' q hi, mk_len' q hi, mk_set' q hi, hi, ilt hi, wi hi (Nat.le_trans hB (by simp [maxLen, big])), Int.natCast_nonneg, go_sem, reduceIte, Nat.reduceAdd, Nat.reduceEqDiff, Nat.reduceMul, Nat.reduceLeDiff, Nat.reduceBEq, Nat.reduceBNe, Nat.reduceSub, Nat.reduceLT]
      exact congrArg (fun z => some (Ex.norm, MS.mk _ _ z)) g)
  simp -implicitDefEqProofs only [Int.natCast_zero, List.take_zero, List.drop_zero, mkE, mnE, List.nil_append, Int.add_zero] at hl
  simp -implicitDefEqProofs only [hl, go_sem, reduceIte, Nat.reduceAdd, Nat.reduceEqDiff, Nat.reduceMul, Nat.reduceLeDiff, Nat.reduceBEq, Nat.reduceBNe, Nat.reduceSub, Nat.reduceLT]
theorem mark_TestS (es : List (List D)) (hB : es.length ≤ big) (ok : OkE big 8 es) (q : Int) (h0 : 0 < q) (h1 : q + mnE es ≤ 4611686018427387904) :
    limM T 150 false [.list 2 true es] q = some ([.list 2 true (mkE es q)], q + mnE es) := by
  rw [limM_list (f := 150) rfl]
  have hl := loopM0 (T := T) (own := true) (k := 2) (body := lp150_0) (fun i => ⟨⟨[(1, .d (.int .i64 (q + mnE (es.take i)))), (5, .d (.int .i64 i))], [], []⟩, [(0, .lst)], mkE (es.take i) q ++ es.drop i⟩) es.length
    (by simp -implicitDefEqProofs only [lp150_0, mkE_length, List.append_nil, nlt, List.take_length, List.drop_length, go_sem, reduceIte, Nat.reduceAdd, Nat.reduceEqDiff, Nat.reduceMul, Nat.reduceLeDiff, Nat.reduceBEq, Nat.reduceBNe, Nat.reduceSub, Nat.reduceLT]; rfl)
    (by
      intro i hi
      have hn := nth_lt hi
      have t1 := mnE_take_le es (i + 1)
      have t2 := mnE_take_succ hn
      obtain ⟨x0, x1, he, b0, b1⟩ := inv_Test (ok.nth_ hn)
      have t3 : mnC es[i] = 0 + 1 + 1 := by rw [he]; simp -implicitDefEqProofs only [mnC, D.mn] <;> omega
      have m0 := markText (q + (mnE (es.take i) : Int)) (by omega) (by omega)
      have m1 := markText (q + (mnE (es.take i) : Int) + 1) (by omega) (by omega)
      obtain ⟨w0, w1, t4⟩ : (IntKind.i64.wrap (q + (mnE (es.take i) : Int) + 1) = q + (mnE (es.take i) : Int) + 1) ∧ (IntKind.i64.wrap (q + (mnE (es.take i) : Int) + 1 + 1) = q + (mnE (es.take i) : Int) + 1 + 1) ∧ (q + (mnE (es.take (i + 1)) : Int) = q + (mnE (es.take i) : Int) + 1 + 1) := ⟨i64_wrap (by omega), i64_wrap (by omega), by omega⟩
      have g := mk_end q hn
      rw [he] at hn g
      simp -implicitDefEqProofs only [mkC, D.mk, D.mn, Int.natCast_one] at g
      have i3 : (1 : Int) ≤ 3 := by omega
      simp -implicitDefEqProofs only [lp150_0, m0, m1, w0, w1, t4, i3, mk_len q (Nat.le_of_lt hi), mk_nth q hn, mk_set q hn, mk_nth' q hi, mk_len' q hi, mk_set' q hi, hi, ilt hi, wi hi (Nat.le_trans hB (by simp [maxLen, big])), Int.natCast_nonneg, go_sem, reduceIte, Nat.reduceAdd, Nat.reduceEqDiff, Nat.reduceMul, Nat.reduceLeDiff, Nat.reduceBEq, Nat.reduceBNe, Nat.reduceSub, Nat.reduceLT]
      exact congrArg (fun z => some (Ex.norm, MS.mk _ _ z)) g)
  simp -implicitDefEqProofs only [Int.natCast_zero, List.take_zero, List.drop_zero, mkE, mnE, List.nil_append, Int.add_zero] at hl
  simp -implicitDefEqProofs only [hl, go_sem, reduceIte, Nat.reduceAdd, Nat.reduceEqDiff, Nat.reduceMul, Nat.reduceLeDiff, Nat.reduceBEq, Nat.reduceBNe, Nat.reduceSub, Nat.reduceLT]
theorem mark_StepS (es : List (List D)) (hB : es.length ≤ big) (ok : OkE big 9 es) (q : Int) (h0 : 0 < q) (h1 : q + mnE es ≤ 4611686018427387904) :
    limM T 151 false [.list 2 false es] q = some ([.list 2 false (mkE es q)], q + mnE es) := by
  rw [limM_list (f := 151) rfl]
  have hl := loopM0 (T := T) (own := true) (k := 2) (body := lp151_0) (fun i => ⟨⟨[(1, .d (.int .i64 (q + mnE (es.take i)))), (5, .d (.int .i64 i))], [], []⟩, [(0, .lst)], mkE (es.take i) q ++ es.drop i⟩) es.length
    (by simp -implicitDefEqProofs only [lp151_0, mkE_length, List.append_nil, nlt, List.take_length, List.drop_length, go_sem, reduceIte, Nat.reduceAdd, Nat.reduceEqDiff, Nat.reduceMul, Nat.reduceLeDiff, Nat.reduceBEq, Nat.reduceBNe, Nat.reduceSub, Nat.reduceLT]; rfl)
    (by
      intro i hi
      have hn := nth_lt hi
      have t1 := mnE_take_le es (i + 1)
      have t2 := mnE_take_succ hn
      obtain ⟨x0, x1, he, b0, ⟨b1, c1⟩⟩ := inv_Step (ok.nth_ hn)
      have t3 : mnC es[i] = 0 + 1 + mnE x1 := by rw [he]; simp -implicitDefEqProofs only [mnC, D.mn] <;> omega
      have m0 := markText (q + (mnE (es.take i) : Int)) (by omega) (by omega)
      have m1 := mark_TestS x1 b1 c1 (q + (mnE (es.take i) : Int) + 1) (by omega) (by omega)
      obtain ⟨w0, t4⟩ : (IntKind.i64.wrap (q + (mnE (es.take i) : Int) + 1) = q + (mnE (es.take i) : Int) + 1) ∧ (q + (mnE (es.take (i + 1)) : Int) = q + (mnE (es.take i) : Int) + 1 + (mnE x1 : Int)) := ⟨i64_wrap (by omega), by omega⟩
      have g := mk_end q hn
      rw [he] at hn g
      simp -implicitDefEqProofs only [mkC, D.mk, D.mn, Int.natCast_one] at g
      have i3 : (1 : Int) ≤ 3 := by omega
      simp -implicitDefEqProofs only [lp151_0, m0, m1, w0, t4, i3, mk_len q (Nat.le_of_lt hi), mk_nth q hn, mk_set q hn, mk_nth' q hi, mk_len' q hi, mk_set' q hi, hi, ilt hi, wi hi (Nat.le_trans hB (by simp [maxLen, big])), Int.natCast_nonneg, go_sem, reduceIte, Nat.reduceAdd, Nat.reduceEqDiff, Nat.reduceMul, Nat.reduceLeDiff, Nat.reduceBEq, Nat.reduceBNe, Nat.reduceSub, Nat.reduceLT]
      exact congrArg (fun z => some (Ex.norm, MS.mk _ _ z)) g)
  simp -implicitDefEqProofs only [Int.natCast_zero, List.take_zero, List.drop_zero, mkE, mnE, List.nil_append, Int.add_zero] at hl
  simp -implicitDefEqProofs only [hl, go_sem, reduceIte, Nat.reduceAdd, Nat.reduceEqDiff, Nat.reduceMul, Nat.reduceLeDiff, Nat.reduceBEq, Nat.reduceBNe, Nat.reduceSub, Nat.reduceLT]
theorem mark_ExprS_s (es : List (List D)) (hB : es.length ≤ big) (ok : OkE big 11 es) (h : ∀ x, (∃ e ∈ es, D.list 7 false x ∈ e) → ∀ (q : Int), 0 < q → q + mnE x ≤ 4611686018427387904 → limM T 152 false [.list 7 false x] q = some ([.list 7 false (mkE x q)], q + mnE x)) (q : Int) (h0 : 0 < q) (h1 : q + mnE es ≤ 4611686018427387904) :
    limM T 152 false [.list 7 false es] q = some ([.list 7 false (mkE es q)], q + mnE es) := by
  rw [limM_list (f := 152) rfl]
  have hl := loopM0 (T := T) (own := true) (k := 7) (body := lp152_0) (fun i => ⟨⟨[(1, .d (.int .i64 (q + mnE (es.take i)))), (5, .d (.int .i64 i))], [], []⟩, [(0, .lst)], mkE (es.take i) q ++ es.drop i⟩) es.length
    (by simp -implicitDefEqProofs only [lp152_0, mkE_length, List.append_nil, nlt, List.take_length, List.drop_length, go_sem, reduceIte, Nat.reduceAdd, Nat.reduceEqDiff, Nat.reduceMul, Nat.reduceLeDiff, Nat.reduceBEq, Nat.reduceBNe, Nat.reduceSub, Nat.reduceLT]; rfl)
    (by
      intro i hi
      have hn := nth_lt hi
      have t1 := mnE_take_le es (i + 1)
      have t2 := mnE_take_succ hn
      obtain ⟨x0, x1, x2, x3, x4, x5, x6, he, _, _, b2, _, _, ⟨b5, c5⟩, ⟨b6, c6⟩⟩ := inv_Expr (ok.nth_ hn)
      have t3 : mnC es[i] = 0 + 1 + 1 + 1 + 1 + 1 + mnE x5 + mnE x6 := by rw [he]; simp -implicitDefEqProofs only [mnC, D.mn] <;> omega
      have m2 := markText (q + (mnE (es.take i) : Int) + 1 + 1) (by omega) (by omega)
      have m5 := mark_StepS x5 b5 c5 (q + (mnE (es.take i) : Int) + 1 + 1 + 1 + 1 + 1) (by omega) (by omega)
      have m6 := h x6 ⟨_, nth_mem hn, by rw [he]; simp -implicitDefEqProofs only [List.mem_cons, true_or, or_true]⟩ (q + (mnE (es.take i) : Int) + 1 + 1 + 1 + 1 + 1 + (mnE x5 : Int)) (by omega) (by omega)
      obtain ⟨w0, w1, w2, m3, w3, w4, t4⟩ : (IntKind.i64.wrap (q + (mnE (es.take i) : Int) + 1) = q + (mnE (es.take i) : Int) + 1) ∧ (IntKind.i64.wrap (q + (mnE (es.take i) : Int) + 1 + 1) = q + (mnE (es.take i) : Int) + 1 + 1) ∧ (IntKind.i64.wrap (q + (mnE (es.take i) : Int) + 1 + 1 + 1) = q + (mnE (es.take i) : Int) + 1 + 1 + 1) ∧ ((0 : Int) ≤ q + (mnE (es.take i) : Int) + 1 + 1 + 1) ∧ (IntKind.i64.wrap (q + (mnE (es.take i) : Int) + 1 + 1 + 1 + 1) = q + (mnE (es.take i) : Int) + 1 + 1 + 1 + 1) ∧ (IntKind.i64.wrap (q + (mnE (es.take i) : Int) + 1 + 1 + 1 + 1 + 1) = q + (mnE (es.take i) : Int) + 1 + 1 + 1 + 1 + 1) ∧ (q + (mnE (es.take (i + 1)) : Int) = q + (mnE (es.take i) : Int) + 1 + 1 + 1 + 1 + 1 + (mnE x5 : Int) + (mnE x6 : Int)) := ⟨i64_wrap (by omega), i64_wrap (by omega), i64_wrap (by omega), by omega, i64_wrap (by omega), i64_wrap (by omega), by omega⟩
      have g := mk_end q hn
      rw [he] at hn g
      simp -implicitDefEqProofs only [mkC, D.mk, D.mn, Int.natCast_one] at g
      have i3 : (1 : Int) ≤ 3 := by omega
      simp -implicitDefEqProofs only [lp152_0, m2, m5, m6, w0, w1, w2, m3, w3, w4, t4, i3, mk_len q (Nat.le_of_lt hi), mk_nth q hn, mk_set q hn, mk_nth' q hi, mk_len' q hi, mk_set' q hi, hi, ilt hi, wi hi (Nat.le_trans hB (by simp [maxLen, big])), Int.natCast_nonneg, go_sem, reduceIte, Nat.reduceAdd, Nat.reduceEqDiff, Nat.reduceMul, Nat.reduceLeDiff, Nat.reduceBEq, Nat.reduceBNe, Nat.reduceSub, Nat.reduceLT]
      exact congrArg (fun z => some (Ex.norm, MS.mk _ _ z)) g)
  simp -implicitDefEqProofs only [Int.natCast_zero, List.take_zero, List.drop_zero, mkE, mnE, List.nil_append, Int.add_zero] at hl
  simp -implicitDefEqProofs only [hl, go_sem, reduceIte, Nat.reduceAdd, Nat.reduceEqDiff, Nat.reduceMul, Nat.reduceLeDiff, Nat.reduceBEq, Nat.reduceBNe, Nat.reduceSub, Nat.reduceLT]
theorem mark_Expr_n (n : Nat) : ∀ (es : List (List D)), SizeOf.sizeOf es < n → es.length ≤ big → OkE big 11 es → ∀ (q : Int), 0 < q → q + mnE es ≤ 4611686018427387904 → limM T 152 false [.list 7 false es] q = some ([.list 7 false (mkE es q)], q + mnE es) := by
  induction n with
  | zero => intro es h; omega
  | succ n hi =>
    intro es hn hB ok q h0 h1
    refine mark_ExprS_s es hB ok (fun x hx => ?_) q h0 h1
    obtain ⟨e, he, hx⟩ := hx
    have hz := Nat.lt_of_lt_of_le (size_in2 hx he) (Nat.le_of_lt_succ hn)
    obtain ⟨x0, x1, x2, x3, x4, x5, x6, rfl, _, _, b2, _, _, ⟨b5, c5⟩, ⟨b6, c6⟩⟩ := inv_Expr (ok.mem e he)
    simp -implicitDefEqProofs only [List.mem_cons, List.not_mem_nil, reduceCtorEq, false_or, or_false, D.list.injEq, Nat.reduceEqDiff, Bool.false_eq_true, Bool.true_eq_false, false_and, and_false, true_and] at hx
    subst hx
    exact hi _ hz b6 c6
theorem mark_ExprS (es : List (List D)) (hB : es.length ≤ big) (ok : OkE big 11 es) (q : Int) (h0 : 0 < q) (h1 : q + mnE es ≤ 4611686018427387904) : limM T 152 false [.list 7 false es] q = some ([.list 7 false (mkE es q)], q + mnE es) := mark_Expr_n (SizeOf.sizeOf es + 1) es (by omega) hB ok q h0 h1
theorem mark_SchemaS_s (es : List (List D)) (hB : es.length ≤ big) (ok : OkE big 12 es) (h : ∀ x, (∃ e ∈ es, D.list 19 false x ∈ e) → ∀ (q : Int), 0 < q → q + mnE x ≤ 4611686018427387904 → limM T 153 false [.list 19 false x] q = some ([.list 19 false (mkE x q)], q + mnE x)) (q : Int) (h0 : 0 < q) (h1 : q + mnE es ≤ 4611686018427387904) :
    limM T 153 false [.list 19 false es] q = some ([.list 19 false (mkE es q)], q + mnE es) := by
  rw [limM_list (f := 153) rfl]
  have hl := loopM0 (T := T) (own := true) (k := 19) (body := lp153_0) (fun i => ⟨⟨[(1, .d (.int .i64 (q + mnE (es.take i)))), (5, .d (.int .i64 i))], [], []⟩, [(0, .lst)], mkE (es.take i) q ++ es.drop i⟩) es.length
    (by simp -implicitDefEqProofs only [lp153_0, mkE_length, List.append_nil, nlt, List.take_length, List.drop_length, go_sem, reduceIte, Nat.reduceAdd, Nat.reduceEqDiff, Nat.reduceMul, Nat.reduceLeDiff, Nat.reduceBEq, Nat.reduceBNe, Nat.reduceSub, Nat.reduceLT]; rfl)
    (by
      intro i hi
      have hn := nth_lt hi
      have t1 := mnE_take_le es (i + 1)
      have t2 := mnE_take_succ hn
      obtain ⟨x0, x1, x2, x3, x4, x5, x6, x7, x8, x9, x10, x11, x12, x13, x14, x15, x16, x17, x18, he, _, b1, _, ⟨b3, c3⟩, ⟨b4, c4⟩, b5, b6, ⟨b7, c7⟩, ⟨b8, c8⟩, b9, _, _, _, _, _, _, ⟨b16, c16⟩, ⟨b17, c17⟩, ⟨b18, c18⟩⟩ := inv_Schema (ok.nth_ hn)
      have t3 : mnC es[i] = 0 + 1 + 1 + 1 + mnE x3 + mnE x4 + 1 + 1 + mnE x7 + mnE x8 + 1 + 1 + 1 + 1 + 1 + 1 + 1 + mnE x16 + mnE x17 + mnE x18 := by rw [he]; simp -implicitDefEqProofs only [mnC, D.mn] <;> omega
      have m1 := markText (q + (mnE (es.take i) : Int) + 1) (by omega) (by omega)
      have m3 := mark_RangeS x3 b3 c3 (q + (mnE (es.take i) : Int) + 1 + 1 + 1) (by omega) (by omega)
      have m4 := mark_StringS x4 b4 c4 (q + (mnE (es.take i) : Int) + 1 + 1 + 1 + (mnE x3 : Int)) (by omega) (by omega)
      have m5 := markText (q + (mnE (es.take i) : Int) + 1 + 1 + 1 + (mnE x3 : Int) + (mnE x4 : Int)) (by omega) (by omega)
      have m6 := markText (q + (mnE (es.take i) : Int) + 1 + 1 + 1 + (mnE x3 : Int) + (mnE x4 : Int) + 1) (by omega) (by omega)
      have m7 := mark_StringS x7 b7 c7 (q + (mnE (es.take i) : Int) + 1 + 1 + 1 + (mnE x3 : Int) + (mnE x4 : Int) + 1 + 1) (by omega) (by omega)
      have m8 := mark_StringS x8 b8 c8 (q + (mnE (es.take i) : Int) + 1 + 1 + 1 + (mnE x3 : Int) + (mnE x4 : Int) + 1 + 1 + (mnE x7 : Int)) (by omega) (by omega)
      have m9 := markText (q + (mnE (es.take i) : Int) + 1 + 1 + 1 + (mnE x3 : Int) + (mnE x4 : Int) + 1 + 1 + (mnE x7 : Int) + (mnE x8 : Int)) (by omega) (by omega)
      have m16 := mark_ExprS x16 b16 c16 (q + (mnE (es.take i) : Int) + 1 + 1 + 1 + (mnE x3 : Int) + (mnE x4 : Int) + 1 + 1 + (mnE x7 : Int) + (mnE x8 : Int) + 1 + 1 + 1 + 1 + 1 + 1 + 1) (by omega) (by omega)
      have m17 := mark_ExprS x17 b17 c17 (q + (mnE (es.take i) : Int) + 1 + 1 + 1 + (mnE x3 : Int) + (mnE x4 : Int) + 1 + 1 + (mnE x7 : Int) + (mnE x8 : Int) + 1 + 1 + 1 + 1 + 1 + 1 + 1 + (mnE x16 : Int)) (by omega) (by omega)
      have m18 := h x18 ⟨_, nth_mem hn, by rw [he]; simp -implicitDefEqProofs only [List.mem_cons, true_or, or_true]⟩ (q + (mnE (es.take i) : Int) + 1 + 1 + 1 + (mnE x3 : Int) + (mnE x4 : Int) + 1 + 1 + (mnE x7 : Int) + (mnE x8 : Int) + 1 + 1 + 1 + 1 + 1 + 1 + 1 + (mnE x16 : Int) + (mnE x17 : Int)) (by omega) (by omega)
      obtain ⟨w0, w1, w2, w5, w6, w9, m10, w10, m11, w11, m12, w12, m13, w13, w14, w15, t4⟩ : (IntKind.i64.wrap (q + (mnE (es.take i) : Int) + 1) = q + (mnE (es.take i) : Int) + 1) ∧ (IntKind.i64.wrap (q + (mnE (es.take i) : Int) + 1 + 1) = q + (mnE (es.take i) : Int) + 1 + 1) ∧ (IntKind.i64.wrap (q + (mnE (es.take i) : Int) + 1 + 1 + 1) = q + (mnE (es.take i) : Int) + 1 + 1 + 1) ∧ (IntKind.i64.wrap (q + (mnE (es.take i) : Int) + 1 + 1 + 1 + (mnE x3 : Int) + (mnE x4 : Int) + 1) = q + (mnE (es.take i) : Int) + 1 + 1 + 1 + (mnE x3 : Int) + (mnE x4 : Int) + 1) ∧ (IntKind.i64.wrap (q + (mnE (es.take i) : Int) + 1 + 1 + 1 + (mnE x3 : Int) + (mnE x4 : Int) + 1 + 1) = q + (mnE (es.take i) : Int) + 1 + 1 + 1 + (mnE x3 : Int) + (mnE x4 : Int) + 1 + 1) ∧ (IntKind.i64.wrap (q + (mnE (es.take i) : Int) + 1 + 1 + 1 + (mnE x3 : Int) + (mnE x4 : Int) + 1 + 1 + (mnE x7 : Int) + (mnE x8 : Int) + 1) = q + (mnE (es.take i) : Int) + 1 + 1 + 1 + (mnE x3 : Int) + (mnE x4 : Int) + 1 + 1 + (mnE x7 : Int) + (mnE x8 : Int) + 1) ∧ ((0 : Int) ≤ q + (mnE (es.take i) : Int) + 1 + 1 + 1 + (mnE x3 : Int) + (mnE x4 : Int) + 1 + 1 + (mnE x7 : Int) + (mnE x8 : Int) + 1) ∧ (IntKind.i64.wrap (q + (mnE (es.take i) : Int) + 1 + 1 + 1 + (mnE x3 : Int) + (mnE x4 : Int) + 1 + 1 + (mnE x7 : Int) + (mnE x8 : Int) + 1 + 1) = q + (mnE (es.take i) : Int) + 1 + 1 + 1 + (mnE x3 : Int) + (mnE x4 : Int) + 1 + 1 + (mnE x7 : Int) + (mnE x8 : Int) + 1 + 1) ∧ ((0 : Int) ≤ q + (mnE (es.take i) : Int) + 1 + 1 + 1 + (mnE x3 : Int) + (mnE x4 : Int) + 1 + 1 + (mnE x7 : Int) + (mnE x8 : Int) + 1 + 1) ∧ (IntKind.i64.wrap (q + (mnE (es.take i) : Int) + 1 + 1 + 1 + (mnE x3 : Int) + (mnE x4 : Int) + 1 + 1 + (mnE x7 : Int) + (mnE x8 : Int) + 1 + 1 + 1) = q + (mnE (es.take i) : Int) + 1 + 1 + 1 + (mnE x3 : Int) + (mnE x4 : Int) + 1 + 1 + (mnE x7 : Int) + (mnE x8 : Int) + 1 + 1 + 1) ∧ ((0 : Int) ≤ q + (mnE (es.take i) : Int) + 1 + 1 + 1 + (mnE x3 : Int) + (mnE x4 : Int) + 1 + 1 + (mnE x7 : Int) + (mnE x8 : Int) + 1 + 1 + 1) ∧ (IntKind.i64.wrap (q + (mnE (es.take i) : Int) + 1 + 1 + 1 + (mnE x3 : Int) + (mnE x4 : Int) + 1 + 1 + (mnE x7 : Int) + (mnE x8 : Int) + 1 + 1 + 1 + 1) = q + (mnE (es.take i) : Int) + 1 + 1 + 1 + (mnE x3 : Int) + (mnE x4 : Int) + 1 + 1 + (mnE x7 : Int) + (mnE x8 : Int) + 1 + 1 + 1 + 1) ∧ ((0 : Int) ≤ q + (mnE (es.take i) : Int) + 1 + 1 + 1 + (mnE x3 : Int) + (mnE x4 : Int) + 1 + 1 + (mnE x7 : Int) + (mnE x8 : Int) + 1 + 1 + 1 + 1) ∧ (IntKind.i64.wrap (q + (mnE (es.take i) : Int) + 1 + 1 + 1 + (mnE x3 : Int) + (mnE x4 : Int) + 1 + 1 + (mnE x7 : Int) + (mnE x8 : Int) + 1 + 1 + 1 + 1 + 1) = q + (mnE (es.take i) : Int) + 1 + 1 + 1 + (mnE x3 : Int) + (mnE x4 : Int) + 1 + 1 + (mnE x7 : Int) + (mnE x8 : Int) + 1 + 1 + 1 + 1 + 1) ∧ (IntKind.i64.wrap (q + (mnE (es.take i) : Int) + 1 + 1 + 1 + (mnE x3 : Int) + (mnE x4 : Int) + 1 + 1 + (mnE x7 : Int) + (mnE x8 : Int) + 1 + 1 + 1 + 1 + 1 + 1) = q + (mnE (es.take i) : Int) + 1 + 1 + 1 + (mnE x3 : Int) + (mnE x4 : Int) + 1 + 1 + (mnE x7 : Int) + (mnE x8 : Int) + 1 + 1 + 1 + 1 + 1 + 1) ∧ (IntKind.i64.wrap (q + (mnE (es.take i) : Int) + 1 + 1 + 1 + (mnE x3 : Int) + (mnE x4 : Int) + 1 + 1 + (mnE x7 : Int) + (mnE x8 : Int) + 1 + 1 + 1 + 1 + 1 + 1 + 1) = q + (mnE (es.take i) : Int) + 1 + 1 + 1 + (mnE x3 : Int) + (mnE x4 : Int) + 1 + 1 + (mnE x7 : Int) + (mnE x8 : Int) + 1 + 1 + 1 + 1 + 1 + 1 + 1) ∧ (q + (mnE (es.take (i + 1)) : Int) = q + (mnE (es.take i) : Int) + 1 + 1 + 1 + (mnE x3 : Int) + (mnE x4 : Int) + 1 + 1 + (mnE x7 : Int) + (mnE x8 : Int) + 1 + 1 + 1 + 1 + 1 + 1 + 1 + (mnE x16 : Int) + (mnE x17 : Int) + (mnE x18 : Int)) := ⟨i64_wrap (by omega), i64_wrap (by omega), i64_wrap (by omega), i64_wrap (by omega), i64_wrap (by omega), i64_wrap (by omega), by omega, i64_wrap (by omega), by omega, i64_wrap (by omega), by omega, i64_wrap (by omega), by omega, i64_wrap (by omega), i64_wrap (by omega), i64_wrap (by omega), by omega⟩
      have g := mk_end q hn
      rw [he] at hn g
      simp -implicitDefEqProofs only [mkC, D.mk, D.mn, Int.natCast_one] at g
      have i3 : (1 : Int) ≤ 3 := by omega
      simp -implicitDefEqProofs only [lp153_0, m1, m3, m4, m5, m6, m7, m8, m9, m16, m17, m18, w0, w1, w2, w5, w6, w9, m10, w10, m11, w11, m12, w12, m13, w13, w14, w15, t4, i3, mk_len q (Nat.le_of_lt hi), mk_nth q hn, mk_set q hn, mk_nth' q hi, mk_len' q hi, mk_set' q hi, hi, ilt hi, wi hi (Nat.le_trans hB (by simp [maxLen, big])), Int.natCast_nonneg, go_sem, reduceIte, Nat.reduceAdd, Nat.reduceEqDiff, Nat.reduceMul, Nat.reduceLeDiff, Nat.reduceBEq, Nat.reduceBNe, Nat.reduceSub, Nat.reduceLT]
      exact congrArg (fun z => some (Ex.norm, MS.mk _ _ z)) g)
  simp -implicitDefEqProofs only [Int.natCast_zero, List.take_zero, List.drop_zero, mkE, mnE, List.nil_append, Int.add_zero] at hl
  simp -implicitDefEqProofs only [hl, go_sem, reduceIte, Nat.reduceAdd, Nat.reduceEqDiff, Nat.reduceMul, Nat.reduceLeDiff, Nat.reduceBEq, Nat.reduceBNe, Nat.reduceSub, Nat.reduceLT]
theorem mark_Schema_n (n : Nat) : ∀ (es : List (List D)), SizeOf.sizeOf es < n → es.length ≤ big → OkE big 12 es → ∀ (q : Int), 0 < q → q + mnE es ≤ 4611686018427387904 → limM T 153 false [.list 19 false es] q = some ([.list 19 false (mkE es q)], q + mnE es) := by
  induction n with
  | zero => intro es h; omega
  | succ n hi =>
    intro es hn hB ok q h0 h1
    refine mark_SchemaS_s es hB ok (fun x hx => ?_) q h0 h1
    obtain ⟨e, he, hx⟩ := hx
    have hz := Nat.lt_of_lt_of_le (size_in2 hx he) (Nat.le_of_lt_succ hn)
    obtain ⟨x0, x1, x2, x3, x4, x5, x6, x7, x8, x9, x10, x11, x12, x13, x14, x15, x16, x17, x18, rfl, _, b1, _, ⟨b3, c3⟩, ⟨b4, c4⟩, b5, b6, ⟨b7, c7⟩, ⟨b8, c8⟩, b9, _, _, _, _, _, _, ⟨b16, c16⟩, ⟨b17, c17⟩, ⟨b18, c18⟩⟩ := inv_Schema (ok.mem e he)
    simp -implicitDefEqProofs only [List.mem_cons, List.not_mem_nil, reduceCtorEq, false_or, or_false, D.list.injEq, Nat.reduceEqDiff, Bool.false_eq_true, Bool.true_eq_false, false_and, and_false, true_and] at hx
    subst hx
    exact hi _ hz b18 c18
theorem mark_SchemaS (es : List (List D)) (hB : es.length ≤ big) (ok : OkE big 12 es) (q : Int) (h0 : 0 < q) (h1 : q + mnE es ≤ 4611686018427387904) : limM T 153 false [.list 19 false es] q = some ([.list 19 false (mkE es q)], q + mnE es) := mark_Schema_n (SizeOf.sizeOf es + 1) es (by omega) hB ok q h0 h1
theorem mark_NodeS_s (es : List (List D)) (hB : es.length ≤ big) (ok : OkE big 2 es) (h : ∀ x, (∃ e ∈ es, D.list 3 false x ∈ e) → ∀ (q : Int), 0 < q → q + mnE x ≤ 4611686018427387904 → limM T 17 false [.list 3 false x] q = some ([.list 3 false (mkE x q)], q + mnE x)) (q : Int) (h0 : 0 < q) (h1 : q + mnE es ≤ 4611686018427387904) :
    limM T 17 false [.list 3 false es] q = some ([.list 3 false (mkE es q)], q + mnE es) := by
  rw [limM_list (f := 17) rfl]
  have hl := loopM0 (T := T) (own := true) (k := 3) (body := lp17_0) (fun i => ⟨⟨[(1, .d (.int .i64 (q + mnE (es.take i)))), (5, .d (.int .i64 i))], [], []⟩, [(0, .lst)], mkE (es.take i) q ++ es.drop i⟩) es.length
    (by simp -implicitDefEqProofs only [lp17_0, mkE_length, List.append_nil, nlt, List.take_length, List.drop_length, go_sem, reduceIte, Nat.reduceAdd, Nat.reduceEqDiff, Nat.reduceMul, Nat.reduceLeDiff, Nat.reduceBEq, Nat.reduceBNe, Nat.reduceSub, Nat.reduceLT]; rfl)
    (by
      intro i hi
      have hn := nth_lt hi
      have t1 := mnE_take_le es (i + 1)
      have t2 := mnE_take_succ hn
      obtain ⟨x0, x1, x2, he, b0, b1, ⟨b2, c2⟩⟩ := inv_Node (ok.nth_ hn)
      have t3 : mnC es[i] = 0 + 1 + 1 + mnE x2 := by rw [he]; simp -implicitDefEqProofs only [mnC, D.mn] <;> omega
      have m0 := markText (q + (mnE (es.take i) : Int)) (by omega) (by omega)
      have m1 := markText (q + (mnE (es.take i) : Int) + 1) (by omega) (by omega)
      have m2 := h x2 ⟨_, nth_mem hn, by rw [he]; simp -implicitDefEqProofs only [List.mem_cons, true_or, or_true]⟩ (q + (mnE (es.take i) : Int) + 1 + 1) (by omega) (by omega)
      obtain ⟨w0, w1, t4⟩ : (IntKind.i64.wrap (q + (mnE (es.take i) : Int) + 1) = q + (mnE (es.take i) : Int) + 1) ∧ (IntKind.i64.wrap (q + (mnE (es.take i) : Int) + 1 + 1) = q + (mnE (es.take i) : Int) + 1 + 1) ∧ (q + (mnE (es.take (i + 1)) : Int) = q + (mnE (es.take i) : Int) + 1 + 1 + (mnE x2 : Int)) := ⟨i64_wrap (by omega), i64_wrap (by omega), by omega⟩
      have g := mk_end q hn
      rw [he] at hn g
      simp -implicitDefEqProofs only [mkC, D.mk, D.mn, Int.natCast_one] at g
      have i3 : (1 : Int) ≤ 3 := by omega
      simp -implicitDefEqProofs only [lp17_0, m0, m1, m2, w0, w1, t4, i3, mk_len q (Nat.le_of_lt hi), mk_nth q hn, mk_set q hn, mk_nth' q hi, mk_len' q hi, mk_set' q hi, hi, ilt hi, wi hi (Nat.le_trans hB (by simp [maxLen, big])), Int.natCast_nonneg, go_sem, reduceIte, Nat.reduceAdd, Nat.reduceEqDiff, Nat.reduceMul, Nat.reduceLeDiff, Nat.reduceBEq, Nat.reduceBNe, Nat.reduceSub, Nat.reduceLT]
      exact congrArg (fun z => some (Ex.norm, MS.mk _ _ z)) g)
  simp -implicitDefEqProofs only [Int.natCast_zero, List.take_zero, List.drop_zero, mkE, mnE, List.nil_append, Int.add_zero] at hl
  simp -implicitDefEqProofs only [hl, go_sem, reduceIte, Nat.reduceAdd, Nat.reduceEqDiff, Nat.reduceMul, Nat.reduceLeDiff, Nat.reduceBEq, Nat.reduceBNe, Nat.reduceSub, Nat.reduceLT]
theorem mark_Node_n (n : Nat) : ∀ (es : List (List D)), SizeOf.sizeOf es < n → es.length ≤ big → OkE big 2 es → ∀ (q : Int), 0 < q → q + mnE es ≤ 4611686018427387904 → limM T 17 false [.list 3 false es] q = some ([.list 3 false (mkE es q)], q + mnE es) := by
  induction n with
  | zero => intro es h; omega
  | succ n hi =>
    intro es hn hB ok q h0 h1
    refine mark_NodeS_s es hB ok (fun x hx => ?_) q h0 h1
    obtain ⟨e, he, hx⟩ := hx
    have hz := Nat.lt_of_lt_of_le (size_in2 hx he) (Nat.le_of_lt_succ hn)
    obtain ⟨x0, x1, x2, rfl, b0, b1, ⟨b2, c2⟩⟩ := inv_Node (ok.mem e he)
    simp -implicitDefEqProofs only [List.mem_cons, List.not_mem_nil, reduceCtorEq, false_or, or_false, D.list.injEq, Nat.reduceEqDiff, Bool.false_eq_true, Bool.true_eq_false, false_and, and_false, true_and] at hx
    subst hx
    exact hi _ hz b2 c2
theorem mark_NodeS (es : List (List D)) (hB : es.length ≤ big) (ok : OkE big 2 es) (q : Int) (h0 : 0 < q) (h1 : q + mnE es ≤ 4611686018427387904) : limM T 17 false [.list 3 false es] q = some ([.list 3 false (mkE es q)], q + mnE es) := mark_Node_n (SizeOf.sizeOf es + 1) es (by omega) hB ok q h0 h1
theorem mark_VersionS (es : List (List D)) (hB : es.length ≤ big) (ok : OkE big 13 es) (q : Int) (h0 : 0 < q) (h1 : q + mnE es ≤ 4611686018427387904) :
    limM T 154 false [.list 3 false es] q = some ([.list 3 false (mkE es q)], q + mnE es) := by
  rw [limM_list (f := 154) rfl]
  have hl := loopM0 (T := T) (own := true) (k := 3) (body := lp154_0) (fun i => ⟨⟨[(1, .d (.int .i64 (q + mnE (es.take i)))), (5, .d (.int .i64 i))], [], []⟩, [(0, .lst)], mkE (es.take i) q ++ es.drop i⟩) es.length
    (by simp -implicitDefEqProofs only [lp154_0, mkE_length, List.append_nil, nlt, List.take_length, List.drop_length, go_sem, reduceIte, Nat.reduceAdd, Nat.reduceEqDiff, Nat.reduceMul, Nat.reduceLeDiff, Nat.reduceBEq, Nat.reduceBNe, Nat.reduceSub, Nat.reduceLT]; rfl)
    (by
      intro i hi
      have hn := nth_lt hi
      have t1 := mnE_take_le es (i + 1)
      have t2 := mnE_take_succ hn
      obtain ⟨x0, x1, x2, he, ⟨b0, c0⟩, _, _⟩ := inv_Version (ok.nth_ hn)
      have t3 : mnC es[i] = 0 + mnE x0 + 1 + 1 := by rw [he]; simp -implicitDefEqProofs only [mnC, D.mn] <;> omega
      have m0 := mark_NodeS x0 b0 c0 (q + (mnE (es.take i) : Int)) (by omega) (by omega)
      obtain ⟨w1, w2, t4⟩ : (IntKind.i64.wrap (q + (mnE (es.take i) : Int) + (mnE x0 : Int) + 1) = q + (mnE (es.take i) : Int) + (mnE x0 : Int) + 1) ∧ (IntKind.i64.wrap (q + (mnE (es.take i) : Int) + (mnE x0 : Int) + 1 + 1) = q + (mnE (es.take i) : Int) + (mnE x0 : Int) + 1 + 1) ∧ (q + (mnE (es.take (i + 1)) : Int) = q + (mnE (es.take i) : Int) + (mnE x0 : Int) + 1 + 1) := ⟨i64_wrap (by omega), i64_wrap (by omega), by omega⟩
      have g := mk_end q hn
      rw [he] at hn g
      simp -implicitDefEqProofs only [mkC, D.mk, D.mn, Int.natCast_one] at g
      have i3 : (1 : Int) ≤ 3 := by omega
      simp -implicitDefEqProofs only [lp154_0, m0, w1, w2, t4, i3, mk_len q (Nat.le_of_lt hi), mk_nth q hn, mk_set q hn, mk_nth' q hi, mk_len' q hi, mk_set' q hi, hi, ilt hi, wi hi (Nat.le_trans hB (by simp [maxLen, big])), Int.natCast_nonneg, go_sem, reduceIte, Nat.reduceAdd, Nat.reduceEqDiff, Nat.reduceMul, Nat.reduceLeDiff, Nat.reduceBEq, Nat.reduceBNe, Nat.reduceSub, Nat.reduceLT]
      exact congrArg (fun z => some (Ex.norm, MS.mk _ _ z)) g)
  simp -implicitDefEqProofs only [Int.natCast_zero, List.take_zero, List.drop_zero, mkE, mnE, List.nil_append, Int.add_zero] at hl
  simp -implicitDefEqProofs only [hl, go_sem, reduceIte, Nat.reduceAdd, Nat.reduceEqDiff, Nat.reduceMul, Nat.reduceLeDiff, Nat.reduceBEq, Nat.reduceBNe, Nat.reduceSub, Nat.reduceLT]
theorem mark_Pending (e : List D) (ok : OkC big (lay 14) e) (q : Int) (h0 : 0 < q) (h1 : q + mnA e ≤ 4611686018427387904) :
    limM T 155 true e q = some (mkA e q, q + mnA e) := by
  obtain ⟨x0, x1, x2, x3, x4, rfl, _, _, _, b3, ⟨b4, c4⟩⟩ := inv_Pending ok
  simp -implicitDefEqProofs only [mnA, D.mnA, Nat.zero_add, Nat.add_zero] at h1
  have m4 := mark_NodeS x4 b4 c4 (q) (by omega) (by omega)
  have t : q + ((mnE x4 : Nat) : Int) = q + (mnE x4 : Int) := by omega
  simp -implicitDefEqProofs only [mkA, D.mkA, mnA, D.mnA, Nat.zero_add, Nat.add_zero, Int.natCast_zero, Int.add_zero, t, List.map_cons, List.map_nil]
  rw [limM_agg (f := 155) rfl]
  simp -implicitDefEqProofs only [m4, List.set_cons_zero, go_sem, reduceIte, Nat.reduceAdd, Nat.reduceEqDiff, Nat.reduceMul, Nat.reduceLeDiff, Nat.reduceBEq, Nat.reduceBNe, Nat.reduceSub, Nat.reduceLT]
theorem mark_Store (e : List D) (ok : OkC big (lay 15) e) (q : Int) (h0 : 0 < q) (h1 : q + mnA e ≤ 4611686018427387904) :
    limM T 156 true e q = some (mkA e q, q + mnA e) := by
  obtain ⟨x0, x1, x2, x3, x4, x5, x6, x7, x8, x9, rfl, ⟨b0, c0⟩, ⟨b1, c1⟩, ⟨b2, c2⟩, _, ⟨b4, c4⟩, _, _, _, b8, ⟨b9, c9⟩⟩ := inv_Store ok
  simp -implicitDefEqProofs only [mnA, D.mnA, Nat.zero_add, Nat.add_zero] at h1
  have m0 := mark_SchemaS x0 b0 c0 (q) (by omega) (by omega)
  have m1 := mark_NodeS x1 b1 c1 (q + (mnE x0 : Int)) (by omega) (by omega)
  have m2 := mark_NodeS x2 b2 c2 (q + (mnE x0 : Int) + (mnE x1 : Int)) (by omega) (by omega)
  have m4 := mark_VersionS x4 b4 c4 (q + (mnE x0 : Int) + (mnE x1 : Int) + (mnE x2 : Int)) (by omega) (by omega)
  have m5 := mark_Pending _ (OkC.sub 5 5 ok) (q + (mnE x0 : Int) + (mnE x1 : Int) + (mnE x2 : Int) + (mnE x4 : Int)) (by omega) (by simp -implicitDefEqProofs only [List.drop_succ_cons, List.drop_zero, List.take_succ_cons, List.take_zero, mnA, D.mnA, Nat.zero_add, Nat.add_zero]; omega)
  simp -implicitDefEqProofs only [List.drop_succ_cons, List.drop_zero, List.take_succ_cons, List.take_zero, List.map_cons, List.map_nil, mkA, D.mkA, mnA, D.mnA, Nat.zero_add, Nat.add_zero, Int.natCast_zero, Int.add_zero] at m5
  have t : q + ((mnE x0 + (mnE x1 + (mnE x2 + (mnE x4 + (mnE x9)))) : Nat) : Int) = q + (mnE x0 : Int) + (mnE x1 : Int) + (mnE x2 : Int) + (mnE x4 : Int) + (mnE x9 : Int) := by omega
  simp -implicitDefEqProofs only [mkA, D.mkA, mnA, D.mnA, Nat.zero_add, Nat.add_zero, Int.natCast_zero, Int.add_zero, t, List.map_cons, List.map_nil]
  rw [limM_agg (f := 156) rfl]
  simp -implicitDefEqProofs only [m0, m1, m2, m4, m5, List.set_cons_zero, go_sem, reduceIte, Nat.reduceAdd, Nat.reduceEqDiff, Nat.reduceMul, Nat.reduceLeDiff, Nat.reduceBEq, Nat.reduceBNe, Nat.reduceSub, Nat.reduceLT]

end Go.Proofs.YtmaigpiappmpcaaGreat
