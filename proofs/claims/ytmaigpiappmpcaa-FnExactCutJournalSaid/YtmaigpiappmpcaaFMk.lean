/-
  What the functions mark.. do: marked data. Printed by a program of our own.
-/
import Derived.Test.YtmaigpiappmpcaaInv
import Derived.Test.YtmaigpiappmpcaaKSM
import Derived.Test.YtmaigpiappmpcaaKP1T
namespace Go.Proofs.Ytmaigpiappmpcaa
open Go.RowKit
set_option maxRecDepth 100000
set_option maxHeartbeats 4000000
set_option linter.unusedSimpArgs false
set_option linter.unusedVariables false

theorem loop16 : ∀ (f n : Nat) (out : ByteArray) (W : List (Nat × Row)), n < 10 ^ f → n ≤ 9223372036854775807 → out.size + f ≤ 100 → (W = [] ∨ ∃ r, W = [(12, r)]) →
    ∃ W', ev T mf0 (.loop lp16_0) ⟨[(0, .d (.int .i64 n)), (3, .d (.str out))], [], W⟩ = some (.exit 0, ⟨[(0, .d (.int .i64 0)), (3, .d (.str (digs f n out))), (7, .d (.bool false))], [], W'⟩)
  | 0, n, out, W, h, _, _, hW => by
    obtain rfl : n = 0 := by simp at h; omega
    rw [ev_loop]
    rcases hW with rfl | ⟨r, rfl⟩
    · refine ⟨[], ?_⟩
      simp -implicitDefEqProofs only [lp16_0, digs, Int.natCast_zero, Int.lt_irrefl, go_sem, reduceIte, Nat.reduceAdd, Nat.reduceEqDiff]
    · refine ⟨[(12, r)], ?_⟩
      simp -implicitDefEqProofs only [lp16_0, digs, Int.natCast_zero, Int.lt_irrefl, go_sem, reduceIte, Nat.reduceAdd, Nat.reduceEqDiff]
  | f + 1, n, out, W, h, hb, ho, hW => by
    by_cases h0 : n = 0
    · subst h0
      rw [ev_loop]
      rcases hW with rfl | ⟨r, rfl⟩
      · refine ⟨[], ?_⟩
        simp -implicitDefEqProofs only [lp16_0, digs, Int.natCast_zero, Int.lt_irrefl, go_sem, reduceIte, Nat.reduceAdd, Nat.reduceEqDiff]
      · refine ⟨[(12, r)], ?_⟩
        simp -implicitDefEqProofs only [lp16_0, digs, Int.natCast_zero, Int.lt_irrefl, go_sem, reduceIte, Nat.reduceAdd, Nat.reduceEqDiff]
    · have hd : (0 : Int) < (n : Int) := by omega
      have hr : (0 : Int) ≤ (n : Int) := by omega
      have h1 : IntKind.i64.wrap (48 + (n : Int) % 10) = 48 + (n : Int) % 10 := i64_wrap (by omega)
      have h2 : IntKind.u8.wrap (48 + (n : Int) % 10) = 48 + (n : Int) % 10 := by simp -implicitDefEqProofs only [IntKind.wrap, IntKind.bits, IntKind.signed]; simp; omega
      have h3 : (48 + (n : Int) % 10).toNat = 48 + n % 10 := by omega
      have h4 : (n : Int) / 10 = ((n / 10 : Nat) : Int) := by omega
      have h5 : (⟨#[UInt8.ofNat (48 + n % 10)]⟩ : ByteArray).size + out.size ≤ maxLen := by rw [size1]; simp -implicitDefEqProofs only [maxLen]; omega
      obtain ⟨W', ih⟩ := loop16 f (n / 10) (⟨#[UInt8.ofNat (48 + n % 10)]⟩ ++ out) [(12, ⟨[[.int .u8 (48 + (n : Int) % 10)]], 1, true, true, true, false⟩)] (by rw [Nat.pow_succ] at h; omega) (by omega) (by rw [ByteArray.size_append, size1]; omega) (.inr ⟨_, rfl⟩)
      refine ⟨W', ?_⟩
      have hi1 : (1 : Int) ≤ 10 := by omega
      have h6 : #[UInt8.ofNat (48 + n % 10)].size + out.size ≤ maxLen := h5
      have hb : ev T mf0 lp16_0 ⟨[(0, .d (.int .i64 n)), (3, .d (.str out))], [], W⟩ = some (.norm, ⟨[(0, .d (.int .i64 (n / 10 : Nat))), (3, .d (.str (⟨#[UInt8.ofNat (48 + n % 10)]⟩ ++ out)))], [], [(12, ⟨[[.int .u8 (48 + (n : Int) % 10)]], 1, true, true, true, false⟩)]⟩) := by
        rcases hW with rfl | ⟨r, rfl⟩ <;> simp -implicitDefEqProofs only [lp16_0, hd, hr, hi1, h1, h2, h3, h4, h5, h6, bytesOf, List.map_cons, List.map_nil, ne_eq, not_false_eq_true, reduceCtorEq, go_sem, reduceIte, Nat.reduceAdd, Nat.reduceEqDiff, Nat.reduceLT, Nat.reduceBNe]
      rw [ev_loop, hb]
      simp -implicitDefEqProofs only [digs, h0, if_false]
      exact ih
theorem markText (q : Int) (h0 : 0 < q) (h1 : q ≤ 9223372036854775807) : lim T 16 [.val false [.d (.int .i64 q)]] = some ([.val false [.d (.str (mText q))]], []) := by
  obtain ⟨n, rfl⟩ : ∃ n : Nat, q = n := ⟨q.toNat, by omega⟩
  rw [lim_fn (f := 16) rfl rfl]
  obtain ⟨W', hl⟩ := loop16 20 n ⟨#[]⟩ [] (by omega) (by omega) (by decide) (.inl rfl)
  have hd : ¬ ((n : Int) ≤ 0) := by omega
  have hs : (mText (n : Int)).size ≤ maxLen := Nat.le_trans (mText_small _) (by decide)
  simp -implicitDefEqProofs only [mText, if_neg hd, Int.toNat_natCast] at hs ⊢
  rw [ByteArray.size_append] at hs
  have hs2 : #[(109 : UInt8)].size + (digs 20 n ⟨#[]⟩).size ≤ maxLen := hs
  simp -implicitDefEqProofs only [hl, hd, hs2, go_sem, reduceIte, Nat.reduceAdd, Nat.reduceEqDiff, Nat.reduceLeDiff]
theorem mark_NodeS_s (es : List (List D)) (hB : es.length ≤ big) (ok : OkE big 2 es) (h : ∀ x, (∃ e ∈ es, D.list 3 false x ∈ e) → ∀ (q : Int), 0 < q → q + mnE x ≤ 4611686018427387904 → limM T 17 false [.list 3 false x] q = some ([.list 3 false (mkE x q)], q + mnE x)) (q : Int) (h0 : 0 < q) (h1 : q + mnE es ≤ 4611686018427387904) :
    limM T 17 false [.list 3 false es] q = some ([.list 3 false (mkE es q)], q + mnE es) := by
  rw [limM_list (f := 17) rfl]
  have hl := loopM0 (T := T) (own := true) (k := 3) (body := lp17_0) (fun i => ⟨⟨[(1, .d (.int .i64 (q + mnE (es.take i)))), (5, .d (.int .i64 i))], [], []⟩, [(0, .lst)], mkE (es.take i) q ++ es.drop i⟩) es.length
    (by simp -implicitDefEqProofs only [lp17_0, mkE_length, List.append_nil, nlt, List.take_length, List.drop_length, go_sem, reduceIte, Nat.reduceAdd, Nat.reduceEqDiff, Nat.reduceMul, Nat.reduceLeDiff, Nat.reduceBEq, Nat.reduceBNe, Nat.reduceSub, Nat.reduceLT]; rfl)
    (by
      intro i hi
      have hn := nth_lt hi
      have t1 := mnE_take_le es (i + 1)
      have t2 := mnE_take_succ hn
      obtain ⟨x0, x1, x2, he, b0, b1, ⟨b2, c2⟩⟩ := inv_Node (ok.nth_ hn)
      have t3 : mnC es[i] = 0 + 1 + 1 + mnE x2 := by rw [he]; simp -implicitDefEqProofs only [mnC, D.mn] <;> omega
      have m0 := markText (q + (mnE (es.take i) : Int)) (by omega) (by omega)
      have m1 := markText (q + (mnE (es.take i) : Int) + 1) (by omega) (by omega)
      have m2 := h x2 ⟨_, nth_mem hn, by rw [he]; simp -implicitDefEqProofs only [List.mem_cons, true_or, or_true]⟩ (q + (mnE (es.take i) : Int) + 1 + 1) (by omega) (by omega)
      obtain ⟨w0, w1, t4⟩ : (IntKind.i64.wrap (q + (mnE (es.take i) : Int) + 1) = q + (mnE (es.take i) : Int) + 1) ∧ (IntKind.i64.wrap (q + (mnE (es.take i) : Int) + 1 + 1) = q + (mnE (es.take i) : Int) + 1 + 1) ∧ (q + (mnE (es.take (i + 1)) : Int) = q + (mnE (es.take i) : Int) + 1 + 1 + (mnE x2 : Int)) := ⟨i64_wrap (by omega), i64_wrap (by omega), by omega⟩
      have g := mk_end q hn
      rw [he] at hn g
      simp -implicitDefEqProofs only [mkC, D.mk, D.mn, Int.natCast_one] at g
      have i3 : (1 : Int) ≤ 3 := by omega
      simp -implicitDefEqProofs only [lp17_0, m0, m1, m2, w0, w1, t4, i3, mk_len q (Nat.le_of_lt hi), mk_nth q hn, mk_set q hn, mk_nth' q hi, mk_len' q hi, mk_set' q hi, hi, ilt hi, wi hi (Nat.le_trans hB (by simp [maxLen, big])), Int.natCast_nonneg, go_sem, reduceIte, Nat.reduceAdd, Nat.reduceEqDiff, Nat.reduceMul, Nat.reduceLeDiff, Nat.reduceBEq, Nat.reduceBNe, Nat.reduceSub, Nat.reduceLT]
      exact congrArg (fun z => some (Ex.norm, MS.mk _ _ z)) g)
  simp -implicitDefEqProofs only [Int.natCast_zero, List.take_zero, List.drop_zero, mkE, mnE, List.nil_append, Int.add_zero] at hl
  simp -implicitDefEqProofs only [hl, go_sem, reduceIte, Nat.reduceAdd, Nat.reduceEqDiff, Nat.reduceMul, Nat.reduceLeDiff, Nat.reduceBEq, Nat.reduceBNe, Nat.reduceSub, Nat.reduceLT]
theorem mark_Node_n (n : Nat) : ∀ (es : List (List D)), SizeOf.sizeOf es < n → es.length ≤ big → OkE big 2 es → ∀ (q : Int), 0 < q → q + mnE es ≤ 4611686018427387904 → limM T 17 false [.list 3 false es] q = some ([.list 3 false (mkE es q)], q + mnE es) := by
  induction n with
  | zero => intro es h; omega
  | succ n hi =>
    intro es hn hB ok q h0 h1
    refine mark_NodeS_s es hB ok (fun x hx => ?_) q h0 h1
    obtain ⟨e, he, hx⟩ := hx
    have hz := Nat.lt_of_lt_of_le (size_in2 hx he) (Nat.le_of_lt_succ hn)
    obtain ⟨x0, x1, x2, rfl, b0, b1, ⟨b2, c2⟩⟩ := inv_Node (ok.mem e he)
    simp -implicitDefEqProofs only [List.mem_cons, List.not_mem_nil, reduceCtorEq, false_or, or_false, D.list.injEq, Nat.reduceEqDiff, Bool.false_eq_true, Bool.true_eq_false, false_and, and_false, true_and] at hx
    subst hx
    exact hi _ hz b2 c2
theorem mark_NodeS (es : List (List D)) (hB : es.length ≤ big) (ok : OkE big 2 es) (q : Int) (h0 : 0 < q) (h1 : q + mnE es ≤ 4611686018427387904) : limM T 17 false [.list 3 false es] q = some ([.list 3 false (mkE es q)], q + mnE es) := mark_Node_n (SizeOf.sizeOf es + 1) es (by omega) hB ok q h0 h1
theorem mark_EditS_s (es : List (List D)) (hB : es.length ≤ big) (ok : OkE big 3 es) (h : ∀ x, (∃ e ∈ es, D.list 4 false x ∈ e) → ∀ (q : Int), 0 < q → q + mnE x ≤ 4611686018427387904 → limM T 18 false [.list 4 false x] q = some ([.list 4 false (mkE x q)], q + mnE x)) (q : Int) (h0 : 0 < q) (h1 : q + mnE es ≤ 4611686018427387904) :
    limM T 18 false [.list 4 false es] q = some ([.list 4 false (mkE es q)], q + mnE es) := by
  rw [limM_list (f := 18) rfl]
  have hl := loopM0 (T := T) (own := true) (k := 4) (body := lp18_0) (fun i => ⟨⟨[(1, .d (.int .i64 (q + mnE (es.take i)))), (5, .d (.int .i64 i))], [], []⟩, [(0, .lst)], mkE (es.take i) q ++ es.drop i⟩) es.length
    (by simp -implicitDefEqProofs only [lp18_0, mkE_length, List.append_nil, nlt, List.take_length, List.drop_length, go_sem, reduceIte, Nat.reduceAdd, Nat.reduceEqDiff, Nat.reduceMul, Nat.reduceLeDiff, Nat.reduceBEq, Nat.reduceBNe, Nat.reduceSub, Nat.reduceLT]; rfl)
    (by
      intro i hi
      have hn := nth_lt hi
      have t1 := mnE_take_le es (i + 1)
      have t2 := mnE_take_succ hn
      obtain ⟨x0, x1, x2, x3, he, _, b1, b2, ⟨b3, c3⟩⟩ := inv_Edit (ok.nth_ hn)
      have t3 : mnC es[i] = 0 + 1 + 1 + 1 + mnE x3 := by rw [he]; simp -implicitDefEqProofs only [mnC, D.mn] <;> omega
      have m1 := markText (q + (mnE (es.take i) : Int) + 1) (by omega) (by omega)
      have m2 := markText (q + (mnE (es.take i) : Int) + 1 + 1) (by omega) (by omega)
      have m3 := h x3 ⟨_, nth_mem hn, by rw [he]; simp -implicitDefEqProofs only [List.mem_cons, true_or, or_true]⟩ (q + (mnE (es.take i) : Int) + 1 + 1 + 1) (by omega) (by omega)
      obtain ⟨w0, w1, w2, t4⟩ : (IntKind.i64.wrap (q + (mnE (es.take i) : Int) + 1) = q + (mnE (es.take i) : Int) + 1) ∧ (IntKind.i64.wrap (q + (mnE (es.take i) : Int) + 1 + 1) = q + (mnE (es.take i) : Int) + 1 + 1) ∧ (IntKind.i64.wrap (q + (mnE (es.take i) : Int) + 1 + 1 + 1) = q + (mnE (es.take i) : Int) + 1 + 1 + 1) ∧ (q + (mnE (es.take (i + 1)) : Int) = q + (mnE (es.take i) : Int) + 1 + 1 + 1 + (mnE x3 : Int)) := ⟨i64_wrap (by omega), i64_wrap (by omega), i64_wrap (by omega), by omega⟩
      have g := mk_end q hn
      rw [he] at hn g
      simp -implicitDefEqProofs only [mkC, D.mk, D.mn, Int.natCast_one] at g
      have i3 : (1 : Int) ≤ 3 := by omega
      simp -implicitDefEqProofs only [lp18_0, m1, m2, m3, w0, w1, w2, t4, i3, mk_len q (Nat.le_of_lt hi), mk_nth q hn, mk_set q hn, mk_nth' q hi, mk_len' q hi, mk_set' q hi, hi, ilt hi, wi hi (Nat.le_trans hB (by simp [maxLen, big])), Int.natCast_nonneg, go_sem, reduceIte, Nat.reduceAdd, Nat.reduceEqDiff, Nat.reduceMul, Nat.reduceLeDiff, Nat.reduceBEq, Nat.reduceBNe, Nat.reduceSub, Nat.reduceLT]
      exact congrArg (fun z => some (Ex.norm, MS.mk _ _ z)) g)
  simp -implicitDefEqProofs only [Int.natCast_zero, List.take_zero, List.drop_zero, mkE, mnE, List.nil_append, Int.add_zero] at hl
  simp -implicitDefEqProofs only [hl, go_sem, reduceIte, Nat.reduceAdd, Nat.reduceEqDiff, Nat.reduceMul, Nat.reduceLeDiff, Nat.reduceBEq, Nat.reduceBNe, Nat.reduceSub, Nat.reduceLT]
theorem mark_Edit_n (n : Nat) : ∀ (es : List (List D)), SizeOf.sizeOf es < n → es.length ≤ big → OkE big 3 es → ∀ (q : Int), 0 < q → q + mnE es ≤ 4611686018427387904 → limM T 18 false [.list 4 false es] q = some ([.list 4 false (mkE es q)], q + mnE es) := by
  induction n with
  | zero => intro es h; omega
  | succ n hi =>
    intro es hn hB ok q h0 h1
    refine mark_EditS_s es hB ok (fun x hx => ?_) q h0 h1
    obtain ⟨e, he, hx⟩ := hx
    have hz := Nat.lt_of_lt_of_le (size_in2 hx he) (Nat.le_of_lt_succ hn)
    obtain ⟨x0, x1, x2, x3, rfl, _, b1, b2, ⟨b3, c3⟩⟩ := inv_Edit (ok.mem e he)
    simp -implicitDefEqProofs only [List.mem_cons, List.not_mem_nil, reduceCtorEq, false_or, or_false, D.list.injEq, Nat.reduceEqDiff, Bool.false_eq_true, Bool.true_eq_false, false_and, and_false, true_and] at hx
    subst hx
    exact hi _ hz b3 c3
theorem mark_EditS (es : List (List D)) (hB : es.length ≤ big) (ok : OkE big 3 es) (q : Int) (h0 : 0 < q) (h1 : q + mnE es ≤ 4611686018427387904) : limM T 18 false [.list 4 false es] q = some ([.list 4 false (mkE es q)], q + mnE es) := mark_Edit_n (SizeOf.sizeOf es + 1) es (by omega) hB ok q h0 h1
theorem mark_ChangeS (es : List (List D)) (hB : es.length ≤ big) (ok : OkE big 4 es) (q : Int) (h0 : 0 < q) (h1 : q + mnE es ≤ 4611686018427387904) :
    limM T 19 false [.list 3 false es] q = some ([.list 3 false (mkE es q)], q + mnE es) := by
  rw [limM_list (f := 19) rfl]
  have hl := loopM0 (T := T) (own := true) (k := 3) (body := lp19_0) (fun i => ⟨⟨[(1, .d (.int .i64 (q + mnE (es.take i)))), (5, .d (.int .i64 i))], [], []⟩, [(0, .lst)], mkE (es.take i) q ++ es.drop i⟩) es.length
    (by simp -implicitDefEqProofs only [lp19_0, mkE_length, List.append_nil, nlt, List.take_length, List.drop_length, go_sem, reduceIte, Nat.reduceAdd, Nat.reduceEqDiff, Nat.reduceMul, Nat.reduceLeDiff, Nat.reduceBEq, Nat.reduceBNe, Nat.reduceSub, Nat.reduceLT]; rfl)
    (by
      intro i hi
      have hn := nth_lt hi
      have t1 := mnE_take_le es (i + 1)
      have t2 := mnE_take_succ hn
      obtain ⟨x0, x1, x2, he, _, _, ⟨b2, c2⟩⟩ := inv_Change (ok.nth_ hn)
      have t3 : mnC es[i] = 0 + 1 + 1 + mnE x2 := by rw [he]; simp -implicitDefEqProofs only [mnC, D.mn] <;> omega
      have m2 := mark_EditS x2 b2 c2 (q + (mnE (es.take i) : Int) + 1 + 1) (by omega) (by omega)
      obtain ⟨w0, w1, t4⟩ : (IntKind.i64.wrap (q + (mnE (es.take i) : Int) + 1) = q + (mnE (es.take i) : Int) + 1) ∧ (IntKind.i64.wrap (q + (mnE (es.take i) : Int) + 1 + 1) = q + (mnE (es.take i) : Int) + 1 + 1) ∧ (q + (mnE (es.take (i + 1)) : Int) = q + (mnE (es.take i) : Int) + 1 + 1 + (mnE x2 : Int)) := ⟨i64_wrap (by omega), i64_wrap (by omega), by omega⟩
      have g := mk_end q hn
      rw [he] at hn g
      simp -implicitDefEqProofs only [mkC, D.mk, D.mn, Int.natCast_one] at g
      have i3 : (1 : Int) ≤ 3 := by omega
      simp -implicitDefEqProofs only [lp19_0, m2, w0, w1, t4, i3, mk_len q (Nat.le_of_lt hi), mk_nth q hn, mk_set q hn, mk_nth' q hi, mk_len' q hi, mk_set' q hi, hi, ilt hi, wi hi (Nat.le_trans hB (by simp [maxLen, big])), Int.natCast_nonneg, go_sem, reduceIte, Nat.reduceAdd, Nat.reduceEqDiff, Nat.reduceMul, Nat.reduceLeDiff, Nat.reduceBEq, Nat.reduceBNe, Nat.reduceSub, Nat.reduceLT]
      exact congrArg (fun z => some (Ex.norm, MS.mk _ _ z)) g)
  simp -implicitDefEqProofs only [Int.natCast_zero, List.take_zero, List.drop_zero, mkE, mnE, List.nil_append, Int.add_zero] at hl
  simp -implicitDefEqProofs only [hl, go_sem, reduceIte, Nat.reduceAdd, Nat.reduceEqDiff, Nat.reduceMul, Nat.reduceLeDiff, Nat.reduceBEq, Nat.reduceBNe, Nat.reduceSub, Nat.reduceLT]
theorem mark_Journal (e : List D) (ok : OkC big (lay 5) e) (q : Int) (h0 : 0 < q) (h1 : q + mnA e ≤ 4611686018427387904) :
    limM T 20 true e q = some (mkA e q, q + mnA e) := by
  obtain ⟨x0, x1, rfl, ⟨b0, c0⟩, ⟨b1, c1⟩⟩ := inv_Journal ok
  simp -implicitDefEqProofs only [mnA, D.mnA, Nat.zero_add, Nat.add_zero] at h1
  have m0 := mark_NodeS x0 b0 c0 (q) (by omega) (by omega)
  have m1 := mark_ChangeS x1 b1 c1 (q + (mnE x0 : Int)) (by omega) (by omega)
  have t : q + ((mnE x0 + (mnE x1) : Nat) : Int) = q + (mnE x0 : Int) + (mnE x1 : Int) := by omega
  simp -implicitDefEqProofs only [mkA, D.mkA, mnA, D.mnA, Nat.zero_add, Nat.add_zero, Int.natCast_zero, Int.add_zero, t, List.map_cons, List.map_nil]
  rw [limM_agg (f := 20) rfl]
  simp -implicitDefEqProofs only [m0, m1, List.set_cons_zero, go_sem, reduceIte, Nat.reduceAdd, Nat.reduceEqDiff, Nat.reduceMul, Nat.reduceLeDiff, Nat.reduceBEq, Nat.reduceBNe, Nat.reduceSub, Nat.reduceLT]

end Go.Proofs.Ytmaigpiappmpcaa
