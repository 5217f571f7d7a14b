/-
  What the functions of stores answer, the program's and the reference's: the same. Printed by a program of our own.
-/
import Derived.Test.YtmaigpiappmpcaaGreatFCp
import Derived.Test.YtmaigpiappmpcaaGreatKSM
namespace Go.Proofs.YtmaigpiappmpcaaGreat
open Go.RowKit
set_option maxRecDepth 100000
set_option maxHeartbeats 4000000
set_option linter.unusedSimpArgs false
set_option linter.unusedVariables false

theorem szE_nth {es : List (List D)} {i : Nat} {e : List D} (h : nth es i = some e) : szC e ≤ szE es := by
  have h1 := szE_take_succ h
  have h2 := szE_take_le es (i + 1)
  omega
theorem pe (p : Prop) : p = True ∨ p = False := by by_cases h : p <;> simp [h]
theorem ok_store {x0 x1 x2 : List (List D)} {x3 : Int} {x4 : List (List D)} {x5 : Bool} {x6 x7 : Int} {x8 : ByteArray} {x9 : List (List D)} (b0 : x0.length ≤ big) (c0 : OkE big 12 x0) (b1 : x1.length ≤ big) (c1 : OkE big 2 x1) (b2 : x2.length ≤ big) (c2 : OkE big 2 x2) (i3 : -9223372036854775808 ≤ x3 ∧ x3 ≤ 9223372036854775807) (b4 : x4.length ≤ big) (c4 : OkE big 13 x4) (i6 : -9223372036854775808 ≤ x6 ∧ x6 ≤ 9223372036854775807) (i7 : -9223372036854775808 ≤ x7 ∧ x7 ≤ 9223372036854775807) (b8 : x8.size ≤ maxLen) (b9 : x9.length ≤ big) (c9 : OkE big 2 x9) :
    OkC big (lay 15) [.list 19 false x0, .list 3 false x1, .list 3 false x2, .int .i64 x3, .list 3 false x4, .bool x5, .int .i64 x6, .int .i64 x7, .str x8, .list 3 false x9] := by
  simp -implicitDefEqProofs only [lay, OkC, Ok]
  exact ⟨⟨rfl, rfl, b0, c0⟩, ⟨rfl, rfl, b1, c1⟩, ⟨rfl, rfl, b2, c2⟩, ⟨trivial, i3⟩, ⟨rfl, rfl, b4, c4⟩, trivial, ⟨trivial, i6⟩, ⟨trivial, i7⟩, b8, ⟨rfl, rfl, b9, c9⟩, trivial⟩
def mayW (o s : Int) : Bool := decide (1 ≤ s) && (decide (o = 0) || decide (o = s))
def knows (name : ByteArray) (by_ s : Int) (n : ByteArray) : Bool := if name = ⟨#[]⟩ then decide (by_ = s) else decide (name = n)
theorem kn186 (x5 : Bool) (x6 x7 : Int) (x8 : ByteArray) (x9 : List (List D)) (s : Int) (n : ByteArray) : lim T 186 [.val true [.d (.bool x5), .d (.int .i64 x6), .d (.int .i64 x7), .d (.str x8), .d (.list 3 false x9)], .val false [.d (.int .i64 s)], .val false [.d (.str n)]] = some ([.val false [.d (.bool (knows x8 x7 s n))]], []) := by
  rw [lim_fn (f := 186) rfl rfl]
  rcases pe (x8 = ⟨#[]⟩) with h1 | h1 <;> rcases pe (x7 = s) with h2 | h2 <;> rcases pe (x8 = n) with h3 | h3 <;> simp -implicitDefEqProofs only [knows, h1, h2, h3, List.map_cons, List.map_nil, go_sem, reduceIte, Nat.reduceAdd, Nat.reduceEqDiff, Nat.reduceMul, Nat.reduceLeDiff, Nat.reduceBEq, Nat.reduceBNe, Nat.reduceSub, Nat.reduceLT]
theorem kn188 (x0 : List (List D)) (x1 : List (List D)) (x2 : List (List D)) (x3 : Int) (x4 : List (List D)) (x5 : Bool) (x6 : Int) (x7 : Int) (x8 : ByteArray) (x9 : List (List D)) (s : Int) (n : ByteArray) : lim T 188 [.val true ([.list 19 false x0, .list 3 false x1, .list 3 false x2, .int .i64 x3, .list 3 false x4, .bool x5, .int .i64 x6, .int .i64 x7, .str x8, .list 3 false x9].map .d), .val false [.d (.int .i64 s)], .val false [.d (.str n)]] = some ([.val false [.d (.bool (knows x8 x7 s n))]], []) := by
  have e1 : (s = x7) = (x7 = s) := propext ⟨Eq.symm, Eq.symm⟩
  have e2 : (n = x8) = (x8 = n) := propext ⟨Eq.symm, Eq.symm⟩
  rw [lim_fn (f := 188) rfl rfl]
  rcases pe (x8 = ⟨#[]⟩) with h1 | h1 <;> rcases pe (x7 = s) with h2 | h2 <;> rcases pe (x8 = n) with h3 | h3 <;> simp -implicitDefEqProofs only [knows, h1, h2, h3, e1, e2, List.map_cons, List.map_nil, go_sem, reduceIte, Nat.reduceAdd, Nat.reduceEqDiff, Nat.reduceMul, Nat.reduceLeDiff, Nat.reduceBEq, Nat.reduceBNe, Nat.reduceSub, Nat.reduceLT]
noncomputable def sameD (a b : List (List D)) : Bool := @decide (a = b) (Classical.propDecidable _)
theorem sameD_self (a : List (List D)) : sameD a a = true := by simp [sameD]
theorem sameD_ne {a b : List (List D)} (h : a ≠ b) : sameD a b = false := by simp [sameD, h]
theorem same194_s (es fs : List (List D)) (hB : es.length ≤ big) (ok : OkE big 2 es) (hC : fs.length ≤ big) (okf : OkE big 2 fs) (h : ∀ x, (∃ e ∈ es, D.list 3 false x ∈ e) → ∀ y, y.length ≤ big → OkE big 2 y → lim T 194 [.val false [.d (.list 3 false x)], .val false [.d (.list 3 false y)]] = some ([.val false [.d (.bool (sameD x y))]], [])) :
    lim T 194 [.val false [.d (.list 3 false es)], .val false [.d (.list 3 false fs)]] = some ([.val false [.d (.bool (sameD es fs))]], []) := by
  rw [lim_fn (f := 194) rfl rfl]
  by_cases hl : es.length = fs.length
  · have hlp := loop_same (T := T) (mf := mf0) (body := lp194_0) (es := es) (es' := fs) (fun i => ⟨[(0, .d (.list 3 false es)), (1, .d (.list 3 false fs)), (5, .d (.int .i64 (i : Nat)))], [], []⟩) ⟨[(0, .d (.list 3 false es)), (1, .d (.list 3 false fs)), (5, .d (.int .i64 (es.length : Nat))), (14, .d (.bool false))], [], []⟩ ⟨[(4, .d (.bool false))], [], []⟩ rfl hl.symm
      (by
        intro i e hn hm
        have hi : i < es.length := by rw [nth_get] at hn; exact (List.getElem?_eq_some_iff.1 hn).1
        obtain ⟨x0, x1, x2, rfl, _, _, ⟨b2, c2⟩⟩ := inv_Node (ok.nth_ hn)
        have m := h x2 ⟨_, nth_mem hn, by simp -implicitDefEqProofs only [List.mem_cons, true_or, or_true]⟩ x2 b2 c2
        rw [sameD_self] at m
        simp -implicitDefEqProofs only [lp194_0, hn, hm, m, hi, ilt hi, wi hi (Nat.le_trans hB (by simp [maxLen, big])), Int.natCast_nonneg, go_sem, reduceIte, Nat.reduceAdd, Nat.reduceEqDiff, Nat.reduceMul, Nat.reduceLeDiff, Nat.reduceBEq, Nat.reduceBNe, Nat.reduceSub, Nat.reduceLT])
      (by
        intro i e e' hn hm hne
        have hi : i < es.length := by rw [nth_get] at hn; exact (List.getElem?_eq_some_iff.1 hn).1
        obtain ⟨x0, x1, x2, rfl, _, _, ⟨b2, c2⟩⟩ := inv_Node (ok.nth_ hn)
        obtain ⟨y0, y1, y2, rfl, _, _, ⟨p2, q2⟩⟩ := inv_Node (okf.nth_ hm)
        have m := h x2 ⟨_, nth_mem hn, by simp -implicitDefEqProofs only [List.mem_cons, true_or, or_true]⟩ y2 p2 q2
        rcases pe (x0 = y0) with h1 | h1
        · rcases pe (x1 = y1) with h2 | h2
          · rw [sameD_ne (fun hk => hne (by rw [of_eq_true h1, of_eq_true h2, hk]))] at m
            simp -implicitDefEqProofs only [lp194_0, hn, hm, m, hi, ilt hi, h1, h2, Int.natCast_nonneg, go_sem, reduceIte, Nat.reduceAdd, Nat.reduceEqDiff, Nat.reduceMul, Nat.reduceLeDiff, Nat.reduceBEq, Nat.reduceBNe, Nat.reduceSub, Nat.reduceLT]
          · simp -implicitDefEqProofs only [lp194_0, hn, hm, m, hi, ilt hi, h1, h2, Int.natCast_nonneg, go_sem, reduceIte, Nat.reduceAdd, Nat.reduceEqDiff, Nat.reduceMul, Nat.reduceLeDiff, Nat.reduceBEq, Nat.reduceBNe, Nat.reduceSub, Nat.reduceLT]
        · simp -implicitDefEqProofs only [lp194_0, hn, hm, m, hi, ilt hi, h1, Int.natCast_nonneg, go_sem, reduceIte, Nat.reduceAdd, Nat.reduceEqDiff, Nat.reduceMul, Nat.reduceLeDiff, Nat.reduceBEq, Nat.reduceBNe, Nat.reduceSub, Nat.reduceLT])
      (by simp -implicitDefEqProofs only [lp194_0, nlt, go_sem, reduceIte, Nat.reduceAdd, Nat.reduceEqDiff, Nat.reduceMul, Nat.reduceLeDiff, Nat.reduceBEq, Nat.reduceBNe, Nat.reduceSub, Nat.reduceLT]) es.length 0 (by omega)
    simp -implicitDefEqProofs only [List.drop_zero, Int.natCast_zero] at hlp
    have hq : (((es.length : Nat) : Int) = ((fs.length : Nat) : Int)) = True := eq_true (by rw [hl])
    by_cases he : es = fs
    · have hz := hlp.1 he
      rw [show sameD es fs = true by rw [he]; exact sameD_self fs]
      simp -implicitDefEqProofs only [hz, hq, go_sem, reduceIte, Nat.reduceAdd, Nat.reduceEqDiff, Nat.reduceMul, Nat.reduceLeDiff, Nat.reduceBEq, Nat.reduceBNe, Nat.reduceSub, Nat.reduceLT]
    · have hz := hlp.2 he
      rw [sameD_ne he]
      simp -implicitDefEqProofs only [hz, hq, go_sem, reduceIte, Nat.reduceAdd, Nat.reduceEqDiff, Nat.reduceMul, Nat.reduceLeDiff, Nat.reduceBEq, Nat.reduceBNe, Nat.reduceSub, Nat.reduceLT]
  · have hq : (((es.length : Nat) : Int) = ((fs.length : Nat) : Int)) = False := eq_false (by omega)
    rw [sameD_ne (fun h => hl (by rw [h]))]
    simp -implicitDefEqProofs only [hq, go_sem, reduceIte, Nat.reduceAdd, Nat.reduceEqDiff, Nat.reduceMul, Nat.reduceLeDiff, Nat.reduceBEq, Nat.reduceBNe, Nat.reduceSub, Nat.reduceLT]
theorem same194_n (n : Nat) : ∀ (es fs : List (List D)), SizeOf.sizeOf es < n → es.length ≤ big → OkE big 2 es → fs.length ≤ big → OkE big 2 fs → lim T 194 [.val false [.d (.list 3 false es)], .val false [.d (.list 3 false fs)]] = some ([.val false [.d (.bool (sameD es fs))]], []) := by
  induction n with
  | zero => intro es fs h; omega
  | succ n hi =>
    intro es fs hn hB ok hC okf
    refine same194_s es fs hB ok hC okf (fun x hx y p q => ?_)
    obtain ⟨e, he, hx⟩ := hx
    have hz := Nat.lt_of_lt_of_le (size_in2 hx he) (Nat.le_of_lt_succ hn)
    obtain ⟨x0, x1, x2, rfl, _, _, ⟨b2, c2⟩⟩ := inv_Node (ok.mem e he)
    simp -implicitDefEqProofs only [List.mem_cons, List.not_mem_nil, reduceCtorEq, false_or, or_false, D.list.injEq, true_and] at hx
    subst hx
    exact hi _ y hz b2 c2 p q
theorem same194 (es fs : List (List D)) (hB : es.length ≤ big) (ok : OkE big 2 es) (hC : fs.length ≤ big) (okf : OkE big 2 fs) : lim T 194 [.val false [.d (.list 3 false es)], .val false [.d (.list 3 false fs)]] = some ([.val false [.d (.bool (sameD es fs))]], []) := same194_n (SizeOf.sizeOf es + 1) es fs (by omega) hB ok hC okf
theorem same197_s (es fs : List (List D)) (hB : es.length ≤ big) (ok : OkE big 2 es) (hC : fs.length ≤ big) (okf : OkE big 2 fs) (h : ∀ x, (∃ e ∈ es, D.list 3 false x ∈ e) → ∀ y, y.length ≤ big → OkE big 2 y → lim T 197 [.val false [.d (.list 3 false x)], .val false [.d (.list 3 false y)]] = some ([.val false [.d (.bool (sameD x y))]], [])) :
    lim T 197 [.val false [.d (.list 3 false es)], .val false [.d (.list 3 false fs)]] = some ([.val false [.d (.bool (sameD es fs))]], []) := by
  rw [lim_fn (f := 197) rfl rfl]
  by_cases hl : es.length = fs.length
  · have hlp := loop_same (T := T) (mf := mf0) (body := lp197_0) (es := es) (es' := fs) (fun i => ⟨[(0, .d (.list 3 false es)), (1, .d (.list 3 false fs)), (12, .d (.int .i64 (es.length : Nat))), (13, .d (.int .i64 (i : Nat)))], [], []⟩) ⟨[(0, .d (.list 3 false es)), (1, .d (.list 3 false fs)), (12, .d (.int .i64 (es.length : Nat))), (13, .d (.int .i64 (es.length : Nat))), (14, .d (.bool false))], [], []⟩ ⟨[(4, .d (.bool false))], [], []⟩ rfl hl.symm
      (by
        intro i e hn hm
        have hi : i < es.length := by rw [nth_get] at hn; exact (List.getElem?_eq_some_iff.1 hn).1
        obtain ⟨x0, x1, x2, rfl, _, _, ⟨b2, c2⟩⟩ := inv_Node (ok.nth_ hn)
        have m := h x2 ⟨_, nth_mem hn, by simp -implicitDefEqProofs only [List.mem_cons, true_or, or_true]⟩ x2 b2 c2
        rw [sameD_self] at m
        simp -implicitDefEqProofs only [lp197_0, hn, hm, m, hi, ilt hi, wi hi (Nat.le_trans hB (by simp [maxLen, big])), Int.natCast_nonneg, go_sem, reduceIte, Nat.reduceAdd, Nat.reduceEqDiff, Nat.reduceMul, Nat.reduceLeDiff, Nat.reduceBEq, Nat.reduceBNe, Nat.reduceSub, Nat.reduceLT])
      (by
        intro i e e' hn hm hne
        have hi : i < es.length := by rw [nth_get] at hn; exact (List.getElem?_eq_some_iff.1 hn).1
        obtain ⟨x0, x1, x2, rfl, _, _, ⟨b2, c2⟩⟩ := inv_Node (ok.nth_ hn)
        obtain ⟨y0, y1, y2, rfl, _, _, ⟨p2, q2⟩⟩ := inv_Node (okf.nth_ hm)
        have m := h x2 ⟨_, nth_mem hn, by simp -implicitDefEqProofs only [List.mem_cons, true_or, or_true]⟩ y2 p2 q2
        rcases pe (x0 = y0) with h1 | h1
        · rcases pe (x1 = y1) with h2 | h2
          · rw [sameD_ne (fun hk => hne (by rw [of_eq_true h1, of_eq_true h2, hk]))] at m
            simp -implicitDefEqProofs only [lp197_0, hn, hm, m, hi, ilt hi, h1, h2, Int.natCast_nonneg, go_sem, reduceIte, Nat.reduceAdd, Nat.reduceEqDiff, Nat.reduceMul, Nat.reduceLeDiff, Nat.reduceBEq, Nat.reduceBNe, Nat.reduceSub, Nat.reduceLT]
          · simp -implicitDefEqProofs only [lp197_0, hn, hm, m, hi, ilt hi, h1, h2, Int.natCast_nonneg, go_sem, reduceIte, Nat.reduceAdd, Nat.reduceEqDiff, Nat.reduceMul, Nat.reduceLeDiff, Nat.reduceBEq, Nat.reduceBNe, Nat.reduceSub, Nat.reduceLT]
        · simp -implicitDefEqProofs only [lp197_0, hn, hm, m, hi, ilt hi, h1, Int.natCast_nonneg, go_sem, reduceIte, Nat.reduceAdd, Nat.reduceEqDiff, Nat.reduceMul, Nat.reduceLeDiff, Nat.reduceBEq, Nat.reduceBNe, Nat.reduceSub, Nat.reduceLT])
      (by simp -implicitDefEqProofs only [lp197_0, nlt, go_sem, reduceIte, Nat.reduceAdd, Nat.reduceEqDiff, Nat.reduceMul, Nat.reduceLeDiff, Nat.reduceBEq, Nat.reduceBNe, Nat.reduceSub, Nat.reduceLT]) es.length 0 (by omega)
    simp -implicitDefEqProofs only [List.drop_zero, Int.natCast_zero] at hlp
    have hq : (((es.length : Nat) : Int) = ((fs.length : Nat) : Int)) = True := eq_true (by rw [hl])
    by_cases he : es = fs
    · have hz := hlp.1 he
      rw [show sameD es fs = true by rw [he]; exact sameD_self fs]
      simp -implicitDefEqProofs only [hz, hq, go_sem, reduceIte, Nat.reduceAdd, Nat.reduceEqDiff, Nat.reduceMul, Nat.reduceLeDiff, Nat.reduceBEq, Nat.reduceBNe, Nat.reduceSub, Nat.reduceLT]
    · have hz := hlp.2 he
      rw [sameD_ne he]
      simp -implicitDefEqProofs only [hz, hq, go_sem, reduceIte, Nat.reduceAdd, Nat.reduceEqDiff, Nat.reduceMul, Nat.reduceLeDiff, Nat.reduceBEq, Nat.reduceBNe, Nat.reduceSub, Nat.reduceLT]
  · have hq : (((es.length : Nat) : Int) = ((fs.length : Nat) : Int)) = False := eq_false (by omega)
    rw [sameD_ne (fun h => hl (by rw [h]))]
    simp -implicitDefEqProofs only [hq, go_sem, reduceIte, Nat.reduceAdd, Nat.reduceEqDiff, Nat.reduceMul, Nat.reduceLeDiff, Nat.reduceBEq, Nat.reduceBNe, Nat.reduceSub, Nat.reduceLT]
theorem same197_n (n : Nat) : ∀ (es fs : List (List D)), SizeOf.sizeOf es < n → es.length ≤ big → OkE big 2 es → fs.length ≤ big → OkE big 2 fs → lim T 197 [.val false [.d (.list 3 false es)], .val false [.d (.list 3 false fs)]] = some ([.val false [.d (.bool (sameD es fs))]], []) := by
  induction n with
  | zero => intro es fs h; omega
  | succ n hi =>
    intro es fs hn hB ok hC okf
    refine same197_s es fs hB ok hC okf (fun x hx y p q => ?_)
    obtain ⟨e, he, hx⟩ := hx
    have hz := Nat.lt_of_lt_of_le (size_in2 hx he) (Nat.le_of_lt_succ hn)
    obtain ⟨x0, x1, x2, rfl, _, _, ⟨b2, c2⟩⟩ := inv_Node (ok.mem e he)
    simp -implicitDefEqProofs only [List.mem_cons, List.not_mem_nil, reduceCtorEq, false_or, or_false, D.list.injEq, true_and] at hx
    subst hx
    exact hi _ y hz b2 c2 p q
theorem same197 (es fs : List (List D)) (hB : es.length ≤ big) (ok : OkE big 2 es) (hC : fs.length ≤ big) (okf : OkE big 2 fs) : lim T 197 [.val false [.d (.list 3 false es)], .val false [.d (.list 3 false fs)]] = some ([.val false [.d (.bool (sameD es fs))]], []) := same197_n (SizeOf.sizeOf es + 1) es fs (by omega) hB ok hC okf

end Go.Proofs.YtmaigpiappmpcaaGreat
