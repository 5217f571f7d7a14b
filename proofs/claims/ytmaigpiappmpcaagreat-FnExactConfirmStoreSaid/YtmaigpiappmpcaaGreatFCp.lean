/-
  What the functions that copy answer: what they are given, as lists of their own. Printed by a program of our own.
-/
import Derived.Test.YtmaigpiappmpcaaGreatInv
import Derived.Test.YtmaigpiappmpcaaGreatKP1T
namespace Go.Proofs.YtmaigpiappmpcaaGreat
open Go.RowKit
set_option maxRecDepth 100000
set_option maxHeartbeats 4000000
set_option linter.unusedSimpArgs false
set_option linter.unusedVariables false

def nr (k : Nat) (fl : Bool) (r : Nat) : Nat → C
  | 0 => .nil k fl
  | _ + 1 => .ref r
def nw (r : Nat) (x : Row) : Nat → List (Nat × Row)
  | 0 => []
  | _ + 1 => [(r, x)]
theorem cp1_s (es : List (List D)) (hB : es.length ≤ big) (ok : OkE big 2 es) (h : ∀ x, (∃ e ∈ es, D.list 3 false x ∈ e) → lim T 1 [.val false [.d (.list 3 false x)]] = some ([.val false [.row (orow 3 false x)]], [])) :
    lim T 1 [.val false [.d (.list 3 false es)]] = some ([.val false [.row (orow 3 false es)]], []) := by
  rw [lim_fn (f := 1) rfl rfl]
  have hl := loop0 (T := T) (mf := mf0) (body := lp1_0) (fun i => ⟨[(3, .ref 6), (7, .d (.list 3 false es)), (8, .d (.int .i64 es.length)), (9, .d (.int .i64 i))], [], [(6, orow 3 false (es.take i))]⟩) es.length (e := .exit 0) (by simp)
    (by simp -implicitDefEqProofs only [lp1_0, nlt, List.take_length, go_sem, reduceIte, Nat.reduceAdd, Nat.reduceEqDiff, Nat.reduceMul, Nat.reduceLeDiff, Nat.reduceBEq, Nat.reduceBNe, Nat.reduceSub, Nat.reduceLT]; rfl)
    (by
      intro i hi
      have hn := nth_lt hi
      obtain ⟨x0, x1, x2, he, b0, b1, ⟨b2, c2⟩⟩ := inv_Node (ok.nth_ hn)
      have m := h x2 ⟨_, nth_mem hn, by rw [he]; simp -implicitDefEqProofs only [List.mem_cons, true_or, or_true]⟩
      rw [he] at hn
      have ht := take_succ_nth es i _ hn
      have hr : (((es.take i).length + 1) * 56 ≤ room ∧ (es.take i).length + 1 ≤ maxLen) = True := by simp [room, big, maxLen] at hB ⊢; omega
      simp -implicitDefEqProofs only [lp1_0, hn, hi, hr, ht, m, ilt hi, wi hi (Nat.le_trans hB (by simp [maxLen, big])), Int.natCast_nonneg, go_sem, reduceIte, Nat.reduceAdd, Nat.reduceEqDiff, Nat.reduceMul, Nat.reduceLeDiff, Nat.reduceBEq, Nat.reduceBNe, Nat.reduceSub, Nat.reduceLT])
  simp -implicitDefEqProofs only [Int.natCast_zero, List.take_zero] at hl
  simp -implicitDefEqProofs only [hl, go_sem, reduceIte, Nat.reduceAdd, Nat.reduceEqDiff, Nat.reduceMul, Nat.reduceLeDiff, Nat.reduceBEq, Nat.reduceBNe, Nat.reduceSub, Nat.reduceLT]
theorem cp1_n (n : Nat) : ∀ (es : List (List D)), SizeOf.sizeOf es < n → es.length ≤ big → OkE big 2 es → lim T 1 [.val false [.d (.list 3 false es)]] = some ([.val false [.row (orow 3 false es)]], []) := by
  induction n with
  | zero => intro es h; omega
  | succ n hi =>
    intro es hn hB ok
    refine cp1_s es hB ok (fun x hx => ?_)
    obtain ⟨e, he, hx⟩ := hx
    have hz := Nat.lt_of_lt_of_le (size_in2 hx he) (Nat.le_of_lt_succ hn)
    obtain ⟨x0, x1, x2, rfl, b0, b1, ⟨b2, c2⟩⟩ := inv_Node (ok.mem e he)
    simp -implicitDefEqProofs only [List.mem_cons, List.not_mem_nil, reduceCtorEq, false_or, or_false, D.list.injEq, Nat.reduceEqDiff, Bool.false_eq_true, Bool.true_eq_false, false_and, and_false, true_and] at hx
    subst hx
    exact hi _ hz b2 c2
theorem cp1 (es : List (List D)) (hB : es.length ≤ big) (ok : OkE big 2 es) : lim T 1 [.val false [.d (.list 3 false es)]] = some ([.val false [.row (orow 3 false es)]], []) := cp1_n (SizeOf.sizeOf es + 1) es (by omega) hB ok
theorem cp2_s (es : List (List D)) (hB : es.length ≤ big) (ok : OkE big 2 es) (h : ∀ x, (∃ e ∈ es, D.list 3 false x ∈ e) → lim T 2 [.val false [.d (.list 3 false x)]] = some ([.val false [.row (orow 3 false x)]], [])) :
    lim T 2 [.val false [.d (.list 3 false es)]] = some ([.val false [.row (orow 3 false es)]], []) := by
  rw [lim_fn (f := 2) rfl rfl]
  have hl := loop0 (T := T) (mf := mf0) (body := lp2_0) (fun i => ⟨[(0, .d (.list 3 false es)), (3, .ref 5), (4, .d (.int .i64 i))], [], [(5, orow 3 false (es.take i))]⟩) es.length (e := .exit 0) (by simp)
    (by simp -implicitDefEqProofs only [lp2_0, nlt, List.take_length, go_sem, reduceIte, Nat.reduceAdd, Nat.reduceEqDiff, Nat.reduceMul, Nat.reduceLeDiff, Nat.reduceBEq, Nat.reduceBNe, Nat.reduceSub, Nat.reduceLT]; rfl)
    (by
      intro i hi
      have hn := nth_lt hi
      obtain ⟨x0, x1, x2, he, b0, b1, ⟨b2, c2⟩⟩ := inv_Node (ok.nth_ hn)
      have m := h x2 ⟨_, nth_mem hn, by rw [he]; simp -implicitDefEqProofs only [List.mem_cons, true_or, or_true]⟩
      rw [he] at hn
      have ht := take_succ_nth es i _ hn
      have hr : (((es.take i).length + 1) * 56 ≤ room ∧ (es.take i).length + 1 ≤ maxLen) = True := by simp [room, big, maxLen] at hB ⊢; omega
      simp -implicitDefEqProofs only [lp2_0, hn, hi, hr, ht, m, ilt hi, wi hi (Nat.le_trans hB (by simp [maxLen, big])), Int.natCast_nonneg, go_sem, reduceIte, Nat.reduceAdd, Nat.reduceEqDiff, Nat.reduceMul, Nat.reduceLeDiff, Nat.reduceBEq, Nat.reduceBNe, Nat.reduceSub, Nat.reduceLT])
  simp -implicitDefEqProofs only [Int.natCast_zero, List.take_zero] at hl
  simp -implicitDefEqProofs only [hl, go_sem, reduceIte, Nat.reduceAdd, Nat.reduceEqDiff, Nat.reduceMul, Nat.reduceLeDiff, Nat.reduceBEq, Nat.reduceBNe, Nat.reduceSub, Nat.reduceLT]
theorem cp2_n (n : Nat) : ∀ (es : List (List D)), SizeOf.sizeOf es < n → es.length ≤ big → OkE big 2 es → lim T 2 [.val false [.d (.list 3 false es)]] = some ([.val false [.row (orow 3 false es)]], []) := by
  induction n with
  | zero => intro es h; omega
  | succ n hi =>
    intro es hn hB ok
    refine cp2_s es hB ok (fun x hx => ?_)
    obtain ⟨e, he, hx⟩ := hx
    have hz := Nat.lt_of_lt_of_le (size_in2 hx he) (Nat.le_of_lt_succ hn)
    obtain ⟨x0, x1, x2, rfl, b0, b1, ⟨b2, c2⟩⟩ := inv_Node (ok.mem e he)
    simp -implicitDefEqProofs only [List.mem_cons, List.not_mem_nil, reduceCtorEq, false_or, or_false, D.list.injEq, Nat.reduceEqDiff, Bool.false_eq_true, Bool.true_eq_false, false_and, and_false, true_and] at hx
    subst hx
    exact hi _ hz b2 c2
theorem cp2 (es : List (List D)) (hB : es.length ≤ big) (ok : OkE big 2 es) : lim T 2 [.val false [.d (.list 3 false es)]] = some ([.val false [.row (orow 3 false es)]], []) := cp2_n (SizeOf.sizeOf es + 1) es (by omega) hB ok
theorem cp135 (e : List D) (ok : OkC big (lay 7) e) :
    lim T 135 [.val true (e.map .d)] = some ([.val true (e.map own)], []) := by
  obtain ⟨x0, x1, x2, x3, x4, rfl, _, ⟨b1, c1⟩, ⟨b2, c2⟩, b3, b4⟩ := inv_Type ok
  have r1 : (x1.length * 16 ≤ room ∧ x1.length ≤ maxLen) = True := by simp [room, big, maxLen] at b1 ⊢; omega
  have r2 : (x2.length * 16 ≤ room ∧ x2.length ≤ maxLen) = True := by simp [room, big, maxLen] at b2 ⊢; omega
  rw [lim_fn (f := 135) rfl rfl]
  simp -implicitDefEqProofs only [r1, r2, own, go_sem, reduceIte, Nat.reduceAdd, Nat.reduceEqDiff, Nat.reduceMul, Nat.reduceLeDiff, Nat.reduceBEq, Nat.reduceBNe, Nat.reduceSub, Nat.reduceLT]
theorem cp76 (e : List D) (ok : OkC big (lay 7) e) :
    lim T 76 [.val true (e.map .d)] = some ([.val true (e.map own)], []) := by
  obtain ⟨x0, x1, x2, x3, x4, rfl, _, ⟨b1, c1⟩, ⟨b2, c2⟩, b3, b4⟩ := inv_Type ok
  have r1 : (x1.length * 16 ≤ room ∧ x1.length ≤ maxLen) = True := by simp [room, big, maxLen] at b1 ⊢; omega
  have r2 : (x2.length * 16 ≤ room ∧ x2.length ≤ maxLen) = True := by simp [room, big, maxLen] at b2 ⊢; omega
  rw [lim_fn (f := 76) rfl rfl]
  simp -implicitDefEqProofs only [r1, r2, own, go_sem, reduceIte, Nat.reduceAdd, Nat.reduceEqDiff, Nat.reduceMul, Nat.reduceLeDiff, Nat.reduceBEq, Nat.reduceBNe, Nat.reduceSub, Nat.reduceLT]
theorem cp77 (e : List D) (ok : OkC big (lay 10) e) :
    lim T 77 [.val true (e.map .d)] = some ([.val true (e.map own)], []) := by
  obtain ⟨x0, x1, x2, rfl, _, _, ⟨b2, c2⟩⟩ := inv_Path ok
  have hl0 := loop0 (T := T) (mf := mf0) (body := lp77_0) (fun i => ⟨[(1, .ptr 1 0), (2, .ptr 2 0), (3, .ptr 3 0), (4, .d (.int .i64 (i : Nat)))], [(1, [.d (.bool x0), .d (.int .i64 x1), .d (.list 2 false x2)]), (2, [.d (.bool false), .d (.int .i64 0), .nil 2 false]), (3, [.d (.bool x0), .d (.int .i64 x1), nr 2 false 35 i])], nw 35 (orow 2 false (x2.take i)) i⟩) x2.length (e := .exit 0) (s := ⟨[(1, .ptr 1 0), (2, .ptr 2 0), (3, .ptr 3 0), (4, .d (.int .i64 (x2.length : Nat))), (14, .d (.bool false))], [(1, [.d (.bool x0), .d (.int .i64 x1), .d (.list 2 false x2)]), (2, [.d (.bool false), .d (.int .i64 0), .nil 2 false]), (3, [.d (.bool x0), .d (.int .i64 x1), nr 2 false 35 x2.length])], nw 35 (orow 2 false (x2.take x2.length)) x2.length⟩) (by simp)
    (by cases x2 <;> simp -implicitDefEqProofs only [lp77_0, nlt, nr, nw, List.length_cons, List.length_nil, List.take_length, List.take_succ_cons, List.take_nil, List.take_zero, go_sem, reduceIte, Nat.reduceAdd, Nat.reduceEqDiff, Nat.reduceMul, Nat.reduceLeDiff, Nat.reduceBEq, Nat.reduceBNe, Nat.reduceSub, Nat.reduceLT])
    (by
      intro i hi
      have hn := nth_lt hi
      obtain ⟨y0, y1, he, p0, ⟨p1, q1⟩⟩ := inv_Step (c2.nth_ hn)
      have r1 : (y1.length * 32 ≤ room ∧ y1.length ≤ maxLen) = True := by simp [room, big, maxLen] at p1 ⊢; omega
      rw [he] at hn
      have ht := take_succ_nth x2 i _ hn
      have hr : (((x2.take i).length + 1) * 40 ≤ room ∧ (x2.take i).length + 1 ≤ maxLen) = True := by simp [room, big, maxLen] at b2 ⊢; omega
      have h1 : (40 ≤ room ∧ 1 ≤ maxLen) = True := by simp [room, maxLen]
      cases i with
      | zero => simp -implicitDefEqProofs only [lp77_0, hn, hi, ht, ilt hi, wi hi (Nat.le_trans b2 (by simp [maxLen, big])), Int.natCast_nonneg, r1, nr, nw, h1, List.take_zero, List.map_nil, List.map_append, List.map_cons, go_sem, reduceIte, Nat.reduceAdd, Nat.reduceEqDiff, Nat.reduceMul, Nat.reduceLeDiff, Nat.reduceBEq, Nat.reduceBNe, Nat.reduceSub, Nat.reduceLT]
      | succ i => simp -implicitDefEqProofs only [lp77_0, hn, hi, ht, ilt hi, wi hi (Nat.le_trans b2 (by simp [maxLen, big])), Int.natCast_nonneg, r1, nr, nw, hr, List.map_append, List.map_cons, List.map_nil, go_sem, reduceIte, Nat.reduceAdd, Nat.reduceEqDiff, Nat.reduceMul, Nat.reduceLeDiff, Nat.reduceBEq, Nat.reduceBNe, Nat.reduceSub, Nat.reduceLT])
  simp -implicitDefEqProofs only [Int.natCast_zero, List.take_zero, List.drop_zero, List.map_nil, List.nil_append, List.cons_append, nr, nw] at hl0
  rw [lim_fn (f := 77) rfl rfl]
  cases x2 with
  | nil =>
    simp -implicitDefEqProofs only [List.length_nil, nr, nw] at hl0
    simp -implicitDefEqProofs only [hl0, own, List.take_length, List.drop_length, List.length_cons, List.length_nil, List.map_cons, List.map_nil, go_sem, reduceIte, Nat.reduceAdd, Nat.reduceEqDiff, Nat.reduceMul, Nat.reduceLeDiff, Nat.reduceBEq, Nat.reduceBNe, Nat.reduceSub, Nat.reduceLT]
  | cons a al =>
    simp -implicitDefEqProofs only [List.length_cons, nr, nw] at hl0
    simp -implicitDefEqProofs only [hl0, own, List.take_length, List.drop_length, List.length_cons, List.length_nil, List.map_cons, List.map_nil, go_sem, reduceIte, Nat.reduceAdd, Nat.reduceEqDiff, Nat.reduceMul, Nat.reduceLeDiff, Nat.reduceBEq, Nat.reduceBNe, Nat.reduceSub, Nat.reduceLT]
def plStep : List D → List D
  | .str n :: _ => [.str n, .list 2 true []]
  | e => e
theorem cp136 (e : List D) (ok : OkC big (lay 10) e) :
    lim T 136 [.val true (e.map .d)] = some ([.val true (match e with | [a, b, .list k fl es] => [own a, own b, .row (orow k fl (es.map plStep))] | e => e.map own)], []) := by
  obtain ⟨x0, x1, x2, rfl, _, _, ⟨b2, c2⟩⟩ := inv_Path ok
  have hl0 := loop0 (T := T) (mf := mf0) (body := lp136_0) (fun i => ⟨[(2, .ptr 2 0), (3, .ptr 3 0), (12, .d (.list 2 false x2)), (13, .d (.int .i64 (x2.length : Nat))), (14, .d (.int .i64 (i : Nat)))], [(2, [.d (.bool false), .d (.int .i64 0), .nil 2 false]), (3, [.d (.bool x0), .d (.int .i64 x1), nr 2 false 24 i])], nw 24 (orow 2 false ((x2.take i).map plStep)) i⟩) x2.length (e := .exit 0) (s := ⟨[(2, .ptr 2 0), (3, .ptr 3 0), (12, .d (.list 2 false x2)), (13, .d (.int .i64 (x2.length : Nat))), (14, .d (.int .i64 (x2.length : Nat))), (15, .d (.bool false))], [(2, [.d (.bool false), .d (.int .i64 0), .nil 2 false]), (3, [.d (.bool x0), .d (.int .i64 x1), nr 2 false 24 x2.length])], nw 24 (orow 2 false ((x2.take x2.length).map plStep)) x2.length⟩) (by simp)
    (by cases x2 <;> simp -implicitDefEqProofs only [lp136_0, nlt, nr, nw, List.length_cons, List.length_nil, List.take_length, List.take_succ_cons, List.take_nil, List.take_zero, go_sem, reduceIte, Nat.reduceAdd, Nat.reduceEqDiff, Nat.reduceMul, Nat.reduceLeDiff, Nat.reduceBEq, Nat.reduceBNe, Nat.reduceSub, Nat.reduceLT])
    (by
      intro i hi
      have hn := nth_lt hi
      obtain ⟨y0, y1, he, p0, ⟨p1, q1⟩⟩ := inv_Step (c2.nth_ hn)
      rw [he] at hn
      have ht := take_succ_nth x2 i _ hn
      have hr : ((((x2.take i).map plStep).length + 1) * 40 ≤ room ∧ ((x2.take i).map plStep).length + 1 ≤ maxLen) = True := by simp [room, big, maxLen] at b2 ⊢; omega
      have h1 : (40 ≤ room ∧ 1 ≤ maxLen) = True := by simp [room, maxLen]
      cases i with
      | zero => simp -implicitDefEqProofs only [lp136_0, hn, hi, ht, ilt hi, wi hi (Nat.le_trans b2 (by simp [maxLen, big])), Int.natCast_nonneg, plStep, nr, nw, h1, List.take_zero, List.map_nil, List.map_append, List.map_cons, go_sem, reduceIte, Nat.reduceAdd, Nat.reduceEqDiff, Nat.reduceMul, Nat.reduceLeDiff, Nat.reduceBEq, Nat.reduceBNe, Nat.reduceSub, Nat.reduceLT]
      | succ i => simp -implicitDefEqProofs only [lp136_0, hn, hi, ht, ilt hi, wi hi (Nat.le_trans b2 (by simp [maxLen, big])), Int.natCast_nonneg, plStep, nr, nw, hr, List.map_append, List.map_cons, List.map_nil, go_sem, reduceIte, Nat.reduceAdd, Nat.reduceEqDiff, Nat.reduceMul, Nat.reduceLeDiff, Nat.reduceBEq, Nat.reduceBNe, Nat.reduceSub, Nat.reduceLT])
  simp -implicitDefEqProofs only [Int.natCast_zero, List.take_zero, List.drop_zero, List.map_nil, List.nil_append, List.cons_append, nr, nw] at hl0
  rw [lim_fn (f := 136) rfl rfl]
  cases x2 with
  | nil =>
    simp -implicitDefEqProofs only [List.length_nil, nr, nw] at hl0
    simp -implicitDefEqProofs only [hl0, plStep, own, List.take_length, List.drop_length, List.length_cons, List.length_nil, List.map_cons, List.map_nil, go_sem, reduceIte, Nat.reduceAdd, Nat.reduceEqDiff, Nat.reduceMul, Nat.reduceLeDiff, Nat.reduceBEq, Nat.reduceBNe, Nat.reduceSub, Nat.reduceLT]
  | cons a al =>
    simp -implicitDefEqProofs only [List.length_cons, nr, nw] at hl0
    simp -implicitDefEqProofs only [hl0, plStep, own, List.take_length, List.drop_length, List.length_cons, List.length_nil, List.map_cons, List.map_nil, go_sem, reduceIte, Nat.reduceAdd, Nat.reduceEqDiff, Nat.reduceMul, Nat.reduceLeDiff, Nat.reduceBEq, Nat.reduceBNe, Nat.reduceSub, Nat.reduceLT]
theorem half_nth {α : Type} {es : List α} (g : α → α) {i : Nat} {e : α} (h : nth es i = some e) : nth (es.take i ++ (es.drop i).map g) i = some (g e) := by
  have hl : i < es.length := by rw [nth_get] at h; exact (List.getElem?_eq_some_iff.1 h).1
  rw [nth_get, List.getElem?_append_right (by simp; omega), List.length_take, Nat.min_eq_left (by omega), Nat.sub_self, drop_nth es i e h]
  rfl
theorem half_len {α : Type} {es : List α} (g : α → α) {i : Nat} (hl : i ≤ es.length) : (es.take i ++ (es.drop i).map g).length = es.length := by simp; omega
theorem half_set {α : Type} {es : List α} (g : α → α) {i : Nat} {e : α} (h : nth es i = some e) : (es.take i ++ (es.drop i).map g).set i e = es.take i ++ [e] ++ (es.drop (i + 1)).map g := by
  have hl : i < es.length := by rw [nth_get] at h; exact (List.getElem?_eq_some_iff.1 h).1
  rw [List.set_append_right _ _ (by simp; omega), List.length_take, Nat.min_eq_left (by omega), Nat.sub_self, drop_nth es i e h]
  simp
theorem cp137 (e : List D) (ok : OkC big (lay 10) e) :
    lim T 137 [.val true (e.map .d)] = some ([.val true (e.map own)], []) := by
  obtain ⟨x0, x1, x2, rfl, _, _, ⟨b2, c2⟩⟩ := inv_Path ok
  have f0 := cp136 _ ok
  simp -implicitDefEqProofs only [List.map_cons, List.map_nil, own] at f0
  have hl0 := loop0 (T := T) (mf := mf0) (body := lp137_0) (fun i => ⟨[(2, .ptr 2 0), (3, .ptr 3 0), (9, .d (.list 2 false x2)), (10, .d (.int .i64 (x2.length : Nat))), (11, .d (.int .i64 (i : Nat)))], [(2, [.d (.bool false), .d (.int .i64 0), .nil 2 false]), (3, [.d (.bool x0), .d (.int .i64 x1), .ref 8002])], [(8002, orow 2 false (x2.take i ++ (x2.drop i).map plStep))]⟩) x2.length (e := .exit 0) (s := ⟨[(2, .ptr 2 0), (3, .ptr 3 0), (9, .d (.list 2 false x2)), (10, .d (.int .i64 (x2.length : Nat))), (11, .d (.int .i64 (x2.length : Nat))), (12, .d (.bool false))], [(2, [.d (.bool false), .d (.int .i64 0), .nil 2 false]), (3, [.d (.bool x0), .d (.int .i64 x1), .ref 8002])], [(8002, orow 2 false (x2.take x2.length ++ (x2.drop x2.length).map plStep))]⟩) (by simp)
    (by simp -implicitDefEqProofs only [lp137_0, nlt, List.take_length, List.drop_length, List.map_nil, List.append_nil, go_sem, reduceIte, Nat.reduceAdd, Nat.reduceEqDiff, Nat.reduceMul, Nat.reduceLeDiff, Nat.reduceBEq, Nat.reduceBNe, Nat.reduceSub, Nat.reduceLT])
    (by
      intro i hi
      have hn := nth_lt hi
      obtain ⟨y0, y1, he, p0, ⟨p1, q1⟩⟩ := inv_Step (c2.nth_ hn)
      have hh := half_nth plStep hn
      have hg := half_set plStep hn
      rw [he] at hh hg
      simp -implicitDefEqProofs only [plStep] at hh
      have r1 : (y1.length * 32 ≤ room ∧ y1.length ≤ maxLen) = True := by simp [room, big, maxLen] at p1 ⊢; omega
      rw [he] at hn
      have ht := take_succ_nth x2 i _ hn
      simp -implicitDefEqProofs only [lp137_0, hn, hi, ht, ilt hi, wi hi (Nat.le_trans b2 (by simp [maxLen, big])), Int.natCast_nonneg, hh, hg, half_len plStep (Nat.le_of_lt hi), r1, go_sem, reduceIte, Nat.reduceAdd, Nat.reduceEqDiff, Nat.reduceMul, Nat.reduceLeDiff, Nat.reduceBEq, Nat.reduceBNe, Nat.reduceSub, Nat.reduceLT])
  simp -implicitDefEqProofs only [Int.natCast_zero, List.take_zero, List.drop_zero, List.map_nil, List.nil_append, List.cons_append, nr, nw] at hl0
  rw [lim_fn (f := 137) rfl rfl]
  simp -implicitDefEqProofs only [f0, hl0, own, List.take_length, List.drop_length, List.length_cons, List.length_nil, List.map_cons, List.map_nil, go_sem, reduceIte, Nat.reduceAdd, Nat.reduceEqDiff, Nat.reduceMul, Nat.reduceLeDiff, Nat.reduceBEq, Nat.reduceBNe, Nat.reduceSub, Nat.reduceLT]
theorem cp138_s (x0 : Int) (x1 : Int) (x2 : ByteArray) (x3 : Bool) (x4 : Int) (x5 : List (List D)) (x6 : List (List D)) (ok : OkC big (lay 11) [.int .i64 x0, .int .i64 x1, .str x2, .bool x3, .int .i64 x4, .list 2 false x5, .list 7 false x6]) (ih : ∀ e ∈ x6, lim T 138 [.val true (e.map .d)] = some ([.val true (e.map own)], [])) :
    lim T 138 [.val true ([.int .i64 x0, .int .i64 x1, .str x2, .bool x3, .int .i64 x4, .list 2 false x5, .list 7 false x6].map .d)] = some ([.val true ([.int .i64 x0, .int .i64 x1, .str x2, .bool x3, .int .i64 x4, .list 2 false x5, .list 7 false x6].map own)], []) := by
  obtain ⟨y0, y1, y2, y3, y4, y5, y6, e0, _, _, b2, _, _, ⟨b5, c5⟩, ⟨b6, c6⟩⟩ := inv_Expr ok
  simp -implicitDefEqProofs only [List.cons.injEq, D.str.injEq, D.int.injEq, D.bool.injEq, D.list.injEq, true_and, and_true] at e0
  obtain ⟨rfl, rfl, rfl, rfl, rfl, rfl, rfl⟩ := e0
  have f3 := cp137 _ (OkC.sub 3 3 ok)
  simp -implicitDefEqProofs only [List.drop_succ_cons, List.drop_zero, List.take_succ_cons, List.take_zero, List.map_cons, List.map_nil, own] at f3
  have hl0 := loop0 (T := T) (mf := mf0) (body := lp138_0) (fun i => ⟨[(1, .ptr 1 0), (2, .ptr 2 0), (3, .ref 10), (12, .d (.list 7 false x6)), (13, .d (.int .i64 (x6.length : Nat))), (14, .d (.int .i64 (i : Nat)))], [(1, [.d (.int .i64 x0), .d (.int .i64 x1), .d (.str x2), .d (.bool x3), .d (.int .i64 x4), .ref 9002, .d (.list 7 false x6)]), (2, [.d (.int .i64 0), .d (.int .i64 0), .d (.str ⟨#[]⟩), .d (.bool false), .d (.int .i64 0), .nil 2 false, .nil 7 false])], [(10, orow 7 false (x6.take i)), (9002, orow 2 false (x5))]⟩) x6.length (e := .exit 0) (s := ⟨[(1, .ptr 1 0), (2, .ptr 2 0), (3, .ref 10), (12, .d (.list 7 false x6)), (13, .d (.int .i64 (x6.length : Nat))), (14, .d (.int .i64 (x6.length : Nat))), (15, .d (.bool false))], [(1, [.d (.int .i64 x0), .d (.int .i64 x1), .d (.str x2), .d (.bool x3), .d (.int .i64 x4), .ref 9002, .d (.list 7 false x6)]), (2, [.d (.int .i64 0), .d (.int .i64 0), .d (.str ⟨#[]⟩), .d (.bool false), .d (.int .i64 0), .nil 2 false, .nil 7 false])], [(10, orow 7 false (x6.take x6.length)), (9002, orow 2 false (x5))]⟩) (by simp)
    (by simp -implicitDefEqProofs only [lp138_0, nlt, List.take_length, List.drop_length, List.map_nil, List.append_nil, go_sem, reduceIte, Nat.reduceAdd, Nat.reduceEqDiff, Nat.reduceMul, Nat.reduceLeDiff, Nat.reduceBEq, Nat.reduceBNe, Nat.reduceSub, Nat.reduceLT])
    (by
      intro i hi
      have hn := nth_lt hi
      obtain ⟨y0, y1, y2, y3, y4, y5, y6, he, _, _, p2, _, _, ⟨p5, q5⟩, ⟨p6, q6⟩⟩ := inv_Expr (c6.nth_ hn)
      have hx := ih _ (nth_mem hn)
      rw [he] at hx
      simp -implicitDefEqProofs only [List.map_cons, List.map_nil, own] at hx
      rw [he] at hn
      have ht := take_succ_nth x6 i _ hn
      have hr : (((x6.take i).length + 1) * 96 ≤ room ∧ (x6.take i).length + 1 ≤ maxLen) = True := by simp [room, big, maxLen] at b6 ⊢; omega
      simp -implicitDefEqProofs only [lp138_0, hn, hi, ht, ilt hi, wi hi (Nat.le_trans b6 (by simp [maxLen, big])), Int.natCast_nonneg, hx, hr, go_sem, reduceIte, Nat.reduceAdd, Nat.reduceEqDiff, Nat.reduceMul, Nat.reduceLeDiff, Nat.reduceBEq, Nat.reduceBNe, Nat.reduceSub, Nat.reduceLT])
  simp -implicitDefEqProofs only [Int.natCast_zero, List.take_zero, List.drop_zero, List.map_nil, List.nil_append, List.cons_append, nr, nw] at hl0
  rw [lim_fn (f := 138) rfl rfl]
  simp -implicitDefEqProofs only [f3, hl0, own, List.take_length, List.drop_length, List.length_cons, List.length_nil, List.map_cons, List.map_nil, go_sem, reduceIte, Nat.reduceAdd, Nat.reduceEqDiff, Nat.reduceMul, Nat.reduceLeDiff, Nat.reduceBEq, Nat.reduceBNe, Nat.reduceSub, Nat.reduceLT]
theorem cp138_n (n : Nat) : ∀ (e : List D), SizeOf.sizeOf e < n → OkC big (lay 11) e → lim T 138 [.val true (e.map .d)] = some ([.val true (e.map own)], []) := by
  induction n with
  | zero => intro e h; omega
  | succ n hi =>
    intro e hn ok
    obtain ⟨x0, x1, x2, x3, x4, x5, x6, he, _, _, b2, _, _, ⟨b5, c5⟩, ⟨b6, c6⟩⟩ := inv_Expr ok
    rw [he] at hn ok ⊢
    refine cp138_s x0 x1 x2 x3 x4 x5 x6 ok (fun e he => hi e ?_ (c6.mem e he))
    exact Nat.lt_of_lt_of_le (size_in (k := 7) (fl := false) (es := x6) (by simp -implicitDefEqProofs only [List.mem_cons, true_or, or_true]) he) (Nat.le_of_lt_succ hn)
theorem cp138 (e : List D) (ok : OkC big (lay 11) e) : lim T 138 [.val true (e.map .d)] = some ([.val true (e.map own)], []) := cp138_n (SizeOf.sizeOf e + 1) e (by omega) ok
theorem cp139 (es : List (List D)) (hB : es.length ≤ big) (ok : OkE big 11 es) :
    lim T 139 [.val false [.d (.list 7 false es)]] = some ([.val false [.row (orow 7 false es)]], []) := by
  rw [lim_fn (f := 139) rfl rfl]
  have hl := loop0 (T := T) (mf := mf0) (body := lp139_0) (fun i => ⟨[(3, .ref 6), (7, .d (.list 7 false es)), (8, .d (.int .i64 es.length)), (9, .d (.int .i64 i))], [], [(6, orow 7 false (es.take i))]⟩) es.length (e := .exit 0) (by simp)
    (by simp -implicitDefEqProofs only [lp139_0, nlt, List.take_length, go_sem, reduceIte, Nat.reduceAdd, Nat.reduceEqDiff, Nat.reduceMul, Nat.reduceLeDiff, Nat.reduceBEq, Nat.reduceBNe, Nat.reduceSub, Nat.reduceLT]; rfl)
    (by
      intro i hi
      have hn := nth_lt hi
      obtain ⟨x0, x1, x2, x3, x4, x5, x6, he, _, _, b2, _, _, ⟨b5, c5⟩, ⟨b6, c6⟩⟩ := inv_Expr (ok.nth_ hn)
      have hx := cp138 _ (ok.nth_ hn)
      rw [he] at hx
      simp -implicitDefEqProofs only [List.map_cons, List.map_nil, own] at hx
      rw [he] at hn
      have ht := take_succ_nth es i _ hn
      have hr : (((es.take i).length + 1) * 96 ≤ room ∧ (es.take i).length + 1 ≤ maxLen) = True := by simp [room, big, maxLen] at hB ⊢; omega
      simp -implicitDefEqProofs only [lp139_0, hn, hi, hr, ht, hx, ilt hi, wi hi (Nat.le_trans hB (by simp [maxLen, big])), Int.natCast_nonneg, go_sem, reduceIte, Nat.reduceAdd, Nat.reduceEqDiff, Nat.reduceMul, Nat.reduceLeDiff, Nat.reduceBEq, Nat.reduceBNe, Nat.reduceSub, Nat.reduceLT])
  simp -implicitDefEqProofs only [Int.natCast_zero, List.take_zero] at hl
  simp -implicitDefEqProofs only [hl, go_sem, reduceIte, Nat.reduceAdd, Nat.reduceEqDiff, Nat.reduceMul, Nat.reduceLeDiff, Nat.reduceBEq, Nat.reduceBNe, Nat.reduceSub, Nat.reduceLT]
theorem cp78_s (x0 : Int) (x1 : Int) (x2 : ByteArray) (x3 : Bool) (x4 : Int) (x5 : List (List D)) (x6 : List (List D)) (ok : OkC big (lay 11) [.int .i64 x0, .int .i64 x1, .str x2, .bool x3, .int .i64 x4, .list 2 false x5, .list 7 false x6]) (ih : ∀ e ∈ x6, lim T 78 [.val true (e.map .d)] = some ([.val true (e.map own)], [])) :
    lim T 78 [.val true ([.int .i64 x0, .int .i64 x1, .str x2, .bool x3, .int .i64 x4, .list 2 false x5, .list 7 false x6].map .d)] = some ([.val true ([.int .i64 x0, .int .i64 x1, .str x2, .bool x3, .int .i64 x4, .list 2 false x5, .list 7 false x6].map own)], []) := by
  obtain ⟨y0, y1, y2, y3, y4, y5, y6, e0, _, _, b2, _, _, ⟨b5, c5⟩, ⟨b6, c6⟩⟩ := inv_Expr ok
  simp -implicitDefEqProofs only [List.cons.injEq, D.str.injEq, D.int.injEq, D.bool.injEq, D.list.injEq, true_and, and_true] at e0
  obtain ⟨rfl, rfl, rfl, rfl, rfl, rfl, rfl⟩ := e0
  have f3 := cp77 _ (OkC.sub 3 3 ok)
  simp -implicitDefEqProofs only [List.drop_succ_cons, List.drop_zero, List.take_succ_cons, List.take_zero, List.map_cons, List.map_nil, own] at f3
  have hl0 := loop0 (T := T) (mf := mf0) (body := lp78_0) (fun i => ⟨[(1, .ptr 1 0), (2, .ptr 2 0), (3, .ptr 3 0), (4, .d (.int .i64 (i : Nat)))], [(1, [.d (.int .i64 x0), .d (.int .i64 x1), .d (.str x2), .d (.bool x3), .d (.int .i64 x4), .d (.list 2 false x5), .d (.list 7 false x6)]), (2, [.d (.int .i64 0), .d (.int .i64 0), .d (.str ⟨#[]⟩), .d (.bool false), .d (.int .i64 0), .nil 2 false, .nil 7 false]), (3, [.d (.int .i64 x0), .d (.int .i64 x1), .d (.str x2), .d (.bool x3), .d (.int .i64 x4), .ref 14002, nr 7 false 31 i])], nw 31 (orow 7 false (x6.take i)) i ++ [(14002, orow 2 false (x5))]⟩) x6.length (e := .exit 0) (s := ⟨[(1, .ptr 1 0), (2, .ptr 2 0), (3, .ptr 3 0), (4, .d (.int .i64 (x6.length : Nat))), (19, .d (.bool false))], [(1, [.d (.int .i64 x0), .d (.int .i64 x1), .d (.str x2), .d (.bool x3), .d (.int .i64 x4), .d (.list 2 false x5), .d (.list 7 false x6)]), (2, [.d (.int .i64 0), .d (.int .i64 0), .d (.str ⟨#[]⟩), .d (.bool false), .d (.int .i64 0), .nil 2 false, .nil 7 false]), (3, [.d (.int .i64 x0), .d (.int .i64 x1), .d (.str x2), .d (.bool x3), .d (.int .i64 x4), .ref 14002, nr 7 false 31 x6.length])], nw 31 (orow 7 false (x6.take x6.length)) x6.length ++ [(14002, orow 2 false (x5))]⟩) (by simp)
    (by cases x6 <;> simp -implicitDefEqProofs only [lp78_0, nlt, nr, nw, List.length_cons, List.length_nil, List.take_length, List.take_succ_cons, List.take_nil, List.take_zero, go_sem, reduceIte, Nat.reduceAdd, Nat.reduceEqDiff, Nat.reduceMul, Nat.reduceLeDiff, Nat.reduceBEq, Nat.reduceBNe, Nat.reduceSub, Nat.reduceLT])
    (by
      intro i hi
      have hn := nth_lt hi
      obtain ⟨y0, y1, y2, y3, y4, y5, y6, he, _, _, p2, _, _, ⟨p5, q5⟩, ⟨p6, q6⟩⟩ := inv_Expr (c6.nth_ hn)
      have hx := ih _ (nth_mem hn)
      rw [he] at hx
      simp -implicitDefEqProofs only [List.map_cons, List.map_nil, own] at hx
      rw [he] at hn
      have ht := take_succ_nth x6 i _ hn
      have hr : (((x6.take i).length + 1) * 96 ≤ room ∧ (x6.take i).length + 1 ≤ maxLen) = True := by simp [room, big, maxLen] at b6 ⊢; omega
      have h1 : (96 ≤ room ∧ 1 ≤ maxLen) = True := by simp [room, maxLen]
      cases i with
      | zero => simp -implicitDefEqProofs only [lp78_0, hn, hi, ht, ilt hi, wi hi (Nat.le_trans b6 (by simp [maxLen, big])), Int.natCast_nonneg, hx, nr, nw, h1, List.take_zero, List.map_nil, List.map_append, List.map_cons, go_sem, reduceIte, Nat.reduceAdd, Nat.reduceEqDiff, Nat.reduceMul, Nat.reduceLeDiff, Nat.reduceBEq, Nat.reduceBNe, Nat.reduceSub, Nat.reduceLT]
      | succ i => simp -implicitDefEqProofs only [lp78_0, hn, hi, ht, ilt hi, wi hi (Nat.le_trans b6 (by simp [maxLen, big])), Int.natCast_nonneg, hx, nr, nw, hr, List.map_append, List.map_cons, List.map_nil, go_sem, reduceIte, Nat.reduceAdd, Nat.reduceEqDiff, Nat.reduceMul, Nat.reduceLeDiff, Nat.reduceBEq, Nat.reduceBNe, Nat.reduceSub, Nat.reduceLT])
  simp -implicitDefEqProofs only [Int.natCast_zero, List.take_zero, List.drop_zero, List.map_nil, List.nil_append, List.cons_append, nr, nw] at hl0
  rw [lim_fn (f := 78) rfl rfl]
  cases x6 with
  | nil =>
    simp -implicitDefEqProofs only [List.length_nil, nr, nw] at hl0
    simp -implicitDefEqProofs only [f3, hl0, own, List.take_length, List.drop_length, List.length_cons, List.length_nil, List.map_cons, List.map_nil, go_sem, reduceIte, Nat.reduceAdd, Nat.reduceEqDiff, Nat.reduceMul, Nat.reduceLeDiff, Nat.reduceBEq, Nat.reduceBNe, Nat.reduceSub, Nat.reduceLT]
  | cons a al =>
    simp -implicitDefEqProofs only [List.length_cons, nr, nw] at hl0
    simp -implicitDefEqProofs only [f3, hl0, own, List.take_length, List.drop_length, List.length_cons, List.length_nil, List.map_cons, List.map_nil, go_sem, reduceIte, Nat.reduceAdd, Nat.reduceEqDiff, Nat.reduceMul, Nat.reduceLeDiff, Nat.reduceBEq, Nat.reduceBNe, Nat.reduceSub, Nat.reduceLT]
theorem cp78_n (n : Nat) : ∀ (e : List D), SizeOf.sizeOf e < n → OkC big (lay 11) e → lim T 78 [.val true (e.map .d)] = some ([.val true (e.map own)], []) := by
  induction n with
  | zero => intro e h; omega
  | succ n hi =>
    intro e hn ok
    obtain ⟨x0, x1, x2, x3, x4, x5, x6, he, _, _, b2, _, _, ⟨b5, c5⟩, ⟨b6, c6⟩⟩ := inv_Expr ok
    rw [he] at hn ok ⊢
    refine cp78_s x0 x1 x2 x3 x4 x5 x6 ok (fun e he => hi e ?_ (c6.mem e he))
    exact Nat.lt_of_lt_of_le (size_in (k := 7) (fl := false) (es := x6) (by simp -implicitDefEqProofs only [List.mem_cons, true_or, or_true]) he) (Nat.le_of_lt_succ hn)
theorem cp78 (e : List D) (ok : OkC big (lay 11) e) : lim T 78 [.val true (e.map .d)] = some ([.val true (e.map own)], []) := cp78_n (SizeOf.sizeOf e + 1) e (by omega) ok
theorem cp140_s (x0 : Int) (x1 : ByteArray) (x2 : Int) (x3 : List (List D)) (x4 : List (List D)) (x5 : ByteArray) (x6 : ByteArray) (x7 : List (List D)) (x8 : List (List D)) (x9 : ByteArray) (x10 : Bool) (x11 : Bool) (x12 : Bool) (x13 : Bool) (x14 : Int) (x15 : Int) (x16 : List (List D)) (x17 : List (List D)) (x18 : List (List D)) (ok : OkC big (lay 12) [.int .i64 x0, .str x1, .int .i64 x2, .list 2 true x3, .list 1 true x4, .str x5, .str x6, .list 1 true x7, .list 1 true x8, .str x9, .bool x10, .bool x11, .bool x12, .bool x13, .int .i64 x14, .int .i64 x15, .list 7 false x16, .list 7 false x17, .list 19 false x18]) (ih : lim T 141 [.val false [.d (.list 19 false x18)]] = some ([.val false [.row (orow 19 false x18)]], [])) :
    lim T 140 [.val true ([.int .i64 x0, .str x1, .int .i64 x2, .list 2 true x3, .list 1 true x4, .str x5, .str x6, .list 1 true x7, .list 1 true x8, .str x9, .bool x10, .bool x11, .bool x12, .bool x13, .int .i64 x14, .int .i64 x15, .list 7 false x16, .list 7 false x17, .list 19 false x18].map .d)] = some ([.val true ([.int .i64 x0, .str x1, .int .i64 x2, .list 2 true x3, .list 1 true x4, .str x5, .str x6, .list 1 true x7, .list 1 true x8, .str x9, .bool x10, .bool x11, .bool x12, .bool x13, .int .i64 x14, .int .i64 x15, .list 7 false x16, .list 7 false x17, .list 19 false x18].map own)], []) := by
  obtain ⟨y0, y1, y2, y3, y4, y5, y6, y7, y8, y9, y10, y11, y12, y13, y14, y15, y16, y17, y18, e0, _, b1, _, ⟨b3, c3⟩, ⟨b4, c4⟩, b5, b6, ⟨b7, c7⟩, ⟨b8, c8⟩, b9, _, _, _, _, _, _, ⟨b16, c16⟩, ⟨b17, c17⟩, ⟨b18, c18⟩⟩ := inv_Schema ok
  simp -implicitDefEqProofs only [List.cons.injEq, D.str.injEq, D.int.injEq, D.bool.injEq, D.list.injEq, true_and, and_true] at e0
  obtain ⟨rfl, rfl, rfl, rfl, rfl, rfl, rfl, rfl, rfl, rfl, rfl, rfl, rfl, rfl, rfl, rfl, rfl, rfl, rfl⟩ := e0
  have f2 := cp135 _ (OkC.sub 2 5 ok)
  simp -implicitDefEqProofs only [List.drop_succ_cons, List.drop_zero, List.take_succ_cons, List.take_zero, List.map_cons, List.map_nil, own] at f2
  have r7 : (x7.length * 16 ≤ room ∧ x7.length ≤ maxLen) = True := by simp [room, big, maxLen] at b7 ⊢; omega
  have r8 : (x8.length * 16 ≤ room ∧ x8.length ≤ maxLen) = True := by simp [room, big, maxLen] at b8 ⊢; omega
  have f16 := cp139 x16 b16 c16
  have f17 := cp139 x17 b17 c17
  rw [lim_fn (f := 140) rfl rfl]
  simp -implicitDefEqProofs only [f2, r7, r8, f16, f17, ih, own, go_sem, reduceIte, Nat.reduceAdd, Nat.reduceEqDiff, Nat.reduceMul, Nat.reduceLeDiff, Nat.reduceBEq, Nat.reduceBNe, Nat.reduceSub, Nat.reduceLT]
theorem cp141_s (es : List (List D)) (hB : es.length ≤ big) (ok : OkE big 12 es) (h : ∀ e ∈ es, lim T 140 [.val true (e.map .d)] = some ([.val true (e.map own)], [])) :
    lim T 141 [.val false [.d (.list 19 false es)]] = some ([.val false [.row (orow 19 false es)]], []) := by
  rw [lim_fn (f := 141) rfl rfl]
  have hl := loop0 (T := T) (mf := mf0) (body := lp141_0) (fun i => ⟨[(3, .ref 6), (7, .d (.list 19 false es)), (8, .d (.int .i64 es.length)), (9, .d (.int .i64 i))], [], [(6, orow 19 false (es.take i))]⟩) es.length (e := .exit 0) (by simp)
    (by simp -implicitDefEqProofs only [lp141_0, nlt, List.take_length, go_sem, reduceIte, Nat.reduceAdd, Nat.reduceEqDiff, Nat.reduceMul, Nat.reduceLeDiff, Nat.reduceBEq, Nat.reduceBNe, Nat.reduceSub, Nat.reduceLT]; rfl)
    (by
      intro i hi
      have hn := nth_lt hi
      obtain ⟨x0, x1, x2, x3, x4, x5, x6, x7, x8, x9, x10, x11, x12, x13, x14, x15, x16, x17, x18, he, _, b1, _, ⟨b3, c3⟩, ⟨b4, c4⟩, b5, b6, ⟨b7, c7⟩, ⟨b8, c8⟩, b9, _, _, _, _, _, _, ⟨b16, c16⟩, ⟨b17, c17⟩, ⟨b18, c18⟩⟩ := inv_Schema (ok.nth_ hn)
      have hx := h _ (nth_mem hn)
      rw [he] at hx
      simp -implicitDefEqProofs only [List.map_cons, List.map_nil, own] at hx
      rw [he] at hn
      have ht := take_succ_nth es i _ hn
      have hr : (((es.take i).length + 1) * 272 ≤ room ∧ (es.take i).length + 1 ≤ maxLen) = True := by simp [room, big, maxLen] at hB ⊢; omega
      simp -implicitDefEqProofs only [lp141_0, hn, hi, hr, ht, hx, ilt hi, wi hi (Nat.le_trans hB (by simp [maxLen, big])), Int.natCast_nonneg, go_sem, reduceIte, Nat.reduceAdd, Nat.reduceEqDiff, Nat.reduceMul, Nat.reduceLeDiff, Nat.reduceBEq, Nat.reduceBNe, Nat.reduceSub, Nat.reduceLT])
  simp -implicitDefEqProofs only [Int.natCast_zero, List.take_zero] at hl
  simp -implicitDefEqProofs only [hl, go_sem, reduceIte, Nat.reduceAdd, Nat.reduceEqDiff, Nat.reduceMul, Nat.reduceLeDiff, Nat.reduceBEq, Nat.reduceBNe, Nat.reduceSub, Nat.reduceLT]
theorem cp140_n (n : Nat) : ∀ (e : List D), SizeOf.sizeOf e < n → OkC big (lay 12) e → lim T 140 [.val true (e.map .d)] = some ([.val true (e.map own)], []) := by
  induction n with
  | zero => intro e h; omega
  | succ n hi =>
    intro e hn ok
    obtain ⟨x0, x1, x2, x3, x4, x5, x6, x7, x8, x9, x10, x11, x12, x13, x14, x15, x16, x17, x18, he, _, b1, _, ⟨b3, c3⟩, ⟨b4, c4⟩, b5, b6, ⟨b7, c7⟩, ⟨b8, c8⟩, b9, _, _, _, _, _, _, ⟨b16, c16⟩, ⟨b17, c17⟩, ⟨b18, c18⟩⟩ := inv_Schema ok
    rw [he] at hn ok ⊢
    refine cp140_s x0 x1 x2 x3 x4 x5 x6 x7 x8 x9 x10 x11 x12 x13 x14 x15 x16 x17 x18 ok (cp141_s x18 b18 c18 fun e he => hi e ?_ (c18.mem e he))
    exact Nat.lt_of_lt_of_le (size_in (k := 19) (fl := false) (es := x18) (by simp -implicitDefEqProofs only [List.mem_cons, true_or, or_true]) he) (Nat.le_of_lt_succ hn)
theorem cp140 (e : List D) (ok : OkC big (lay 12) e) : lim T 140 [.val true (e.map .d)] = some ([.val true (e.map own)], []) := cp140_n (SizeOf.sizeOf e + 1) e (by omega) ok
theorem cp141 (es : List (List D)) (hB : es.length ≤ big) (ok : OkE big 12 es) : lim T 141 [.val false [.d (.list 19 false es)]] = some ([.val false [.row (orow 19 false es)]], []) := cp141_s es hB ok fun e he => cp140 e (ok.mem e he)
theorem cp80_s (x0 : Int) (x1 : ByteArray) (x2 : Int) (x3 : List (List D)) (x4 : List (List D)) (x5 : ByteArray) (x6 : ByteArray) (x7 : List (List D)) (x8 : List (List D)) (x9 : ByteArray) (x10 : Bool) (x11 : Bool) (x12 : Bool) (x13 : Bool) (x14 : Int) (x15 : Int) (x16 : List (List D)) (x17 : List (List D)) (x18 : List (List D)) (ok : OkC big (lay 12) [.int .i64 x0, .str x1, .int .i64 x2, .list 2 true x3, .list 1 true x4, .str x5, .str x6, .list 1 true x7, .list 1 true x8, .str x9, .bool x10, .bool x11, .bool x12, .bool x13, .int .i64 x14, .int .i64 x15, .list 7 false x16, .list 7 false x17, .list 19 false x18]) (ih : lim T 79 [.val false [.d (.list 19 false x18)]] = some ([.val false [.row (orow 19 false x18)]], [])) :
    lim T 80 [.val true ([.int .i64 x0, .str x1, .int .i64 x2, .list 2 true x3, .list 1 true x4, .str x5, .str x6, .list 1 true x7, .list 1 true x8, .str x9, .bool x10, .bool x11, .bool x12, .bool x13, .int .i64 x14, .int .i64 x15, .list 7 false x16, .list 7 false x17, .list 19 false x18].map .d)] = some ([.val true ([.int .i64 x0, .str x1, .int .i64 x2, .list 2 true x3, .list 1 true x4, .str x5, .str x6, .list 1 true x7, .list 1 true x8, .str x9, .bool x10, .bool x11, .bool x12, .bool x13, .int .i64 x14, .int .i64 x15, .list 7 false x16, .list 7 false x17, .list 19 false x18].map own)], []) := by
  obtain ⟨y0, y1, y2, y3, y4, y5, y6, y7, y8, y9, y10, y11, y12, y13, y14, y15, y16, y17, y18, e0, _, b1, _, ⟨b3, c3⟩, ⟨b4, c4⟩, b5, b6, ⟨b7, c7⟩, ⟨b8, c8⟩, b9, _, _, _, _, _, _, ⟨b16, c16⟩, ⟨b17, c17⟩, ⟨b18, c18⟩⟩ := inv_Schema ok
  simp -implicitDefEqProofs only [List.cons.injEq, D.str.injEq, D.int.injEq, D.bool.injEq, D.list.injEq, true_and, and_true] at e0
  obtain ⟨rfl, rfl, rfl, rfl, rfl, rfl, rfl, rfl, rfl, rfl, rfl, rfl, rfl, rfl, rfl, rfl, rfl, rfl, rfl⟩ := e0
  have f2 := cp76 _ (OkC.sub 2 5 ok)
  simp -implicitDefEqProofs only [List.drop_succ_cons, List.drop_zero, List.take_succ_cons, List.take_zero, List.map_cons, List.map_nil, own] at f2
  have r7 : (x7.length * 16 ≤ room ∧ x7.length ≤ maxLen) = True := by simp [room, big, maxLen] at b7 ⊢; omega
  have r8 : (x8.length * 16 ≤ room ∧ x8.length ≤ maxLen) = True := by simp [room, big, maxLen] at b8 ⊢; omega
  have hl1 := loop0 (T := T) (mf := mf0) (body := lp80_1) (fun i => ⟨[(1, .ptr 1 0), (2, .ptr 2 0), (3, .ptr 3 0), (4, .d (.int .i64 (i : Nat)))], [(1, [.d (.int .i64 x0), .d (.str x1), .d (.int .i64 x2), .d (.list 2 true x3), .d (.list 1 true x4), .d (.str x5), .d (.str x6), .d (.list 1 true x7), .d (.list 1 true x8), .d (.str x9), .d (.bool x10), .d (.bool x11), .d (.bool x12), .d (.bool x13), .d (.int .i64 x14), .d (.int .i64 x15), .d (.list 7 false x16), .d (.list 7 false x17), .d (.list 19 false x18)]), (2, [.d (.int .i64 0), .d (.str ⟨#[]⟩), .d (.int .i64 0), .nil 2 true, .nil 1 true, .d (.str ⟨#[]⟩), .d (.str ⟨#[]⟩), .nil 1 true, .nil 1 true, .d (.str ⟨#[]⟩), .d (.bool false), .d (.bool false), .d (.bool false), .d (.bool false), .d (.int .i64 0), .d (.int .i64 0), .nil 7 false, .nil 7 false, .nil 19 false]), (3, [.d (.int .i64 x0), .d (.str x1), .d (.int .i64 x2), .ref 10001, .ref 10002, .d (.str x5), .d (.str x6), .ref 11, .ref 16, .d (.str x9), .d (.bool x10), .d (.bool x11), .d (.bool x12), .d (.bool x13), .d (.int .i64 x14), .d (.int .i64 x15), nr 7 false 39 i, .nil 7 false, .d (.list 19 false x18)])], [(11, orow 1 true (x7)), (16, orow 1 true (x8))] ++ nw 39 (orow 7 false (x16.take i)) i ++ [(10001, orow 2 true (x3)), (10002, orow 1 true (x4))]⟩) x16.length (e := .exit 0) (s := ⟨[(1, .ptr 1 0), (2, .ptr 2 0), (3, .ptr 3 0), (4, .d (.int .i64 (x16.length : Nat))), (27, .d (.bool false))], [(1, [.d (.int .i64 x0), .d (.str x1), .d (.int .i64 x2), .d (.list 2 true x3), .d (.list 1 true x4), .d (.str x5), .d (.str x6), .d (.list 1 true x7), .d (.list 1 true x8), .d (.str x9), .d (.bool x10), .d (.bool x11), .d (.bool x12), .d (.bool x13), .d (.int .i64 x14), .d (.int .i64 x15), .d (.list 7 false x16), .d (.list 7 false x17), .d (.list 19 false x18)]), (2, [.d (.int .i64 0), .d (.str ⟨#[]⟩), .d (.int .i64 0), .nil 2 true, .nil 1 true, .d (.str ⟨#[]⟩), .d (.str ⟨#[]⟩), .nil 1 true, .nil 1 true, .d (.str ⟨#[]⟩), .d (.bool false), .d (.bool false), .d (.bool false), .d (.bool false), .d (.int .i64 0), .d (.int .i64 0), .nil 7 false, .nil 7 false, .nil 19 false]), (3, [.d (.int .i64 x0), .d (.str x1), .d (.int .i64 x2), .ref 10001, .ref 10002, .d (.str x5), .d (.str x6), .ref 11, .ref 16, .d (.str x9), .d (.bool x10), .d (.bool x11), .d (.bool x12), .d (.bool x13), .d (.int .i64 x14), .d (.int .i64 x15), nr 7 false 39 x16.length, .nil 7 false, .d (.list 19 false x18)])], [(11, orow 1 true (x7)), (16, orow 1 true (x8))] ++ nw 39 (orow 7 false (x16.take x16.length)) x16.length ++ [(10001, orow 2 true (x3)), (10002, orow 1 true (x4))]⟩) (by simp)
    (by cases x16 <;> simp -implicitDefEqProofs only [lp80_1, nlt, nr, nw, List.length_cons, List.length_nil, List.take_length, List.take_succ_cons, List.take_nil, List.take_zero, go_sem, reduceIte, Nat.reduceAdd, Nat.reduceEqDiff, Nat.reduceMul, Nat.reduceLeDiff, Nat.reduceBEq, Nat.reduceBNe, Nat.reduceSub, Nat.reduceLT])
    (by
      intro i hi
      have hn := nth_lt hi
      obtain ⟨y0, y1, y2, y3, y4, y5, y6, he, _, _, p2, _, _, ⟨p5, q5⟩, ⟨p6, q6⟩⟩ := inv_Expr (c16.nth_ hn)
      have hx := cp78 _ (c16.nth_ hn)
      rw [he] at hx
      simp -implicitDefEqProofs only [List.map_cons, List.map_nil, own] at hx
      rw [he] at hn
      have ht := take_succ_nth x16 i _ hn
      have hr : (((x16.take i).length + 1) * 96 ≤ room ∧ (x16.take i).length + 1 ≤ maxLen) = True := by simp [room, big, maxLen] at b16 ⊢; omega
      have h1 : (96 ≤ room ∧ 1 ≤ maxLen) = True := by simp [room, maxLen]
      cases i with
      | zero => simp -implicitDefEqProofs only [lp80_1, hn, hi, ht, ilt hi, wi hi (Nat.le_trans b16 (by simp [maxLen, big])), Int.natCast_nonneg, hx, nr, nw, h1, List.take_zero, List.map_nil, List.map_append, List.map_cons, go_sem, reduceIte, Nat.reduceAdd, Nat.reduceEqDiff, Nat.reduceMul, Nat.reduceLeDiff, Nat.reduceBEq, Nat.reduceBNe, Nat.reduceSub, Nat.reduceLT]
      | succ i => simp -implicitDefEqProofs only [lp80_1, hn, hi, ht, ilt hi, wi hi (Nat.le_trans b16 (by simp [maxLen, big])), Int.natCast_nonneg, hx, nr, nw, hr, List.map_append, List.map_cons, List.map_nil, go_sem, reduceIte, Nat.reduceAdd, Nat.reduceEqDiff, Nat.reduceMul, Nat.reduceLeDiff, Nat.reduceBEq, Nat.reduceBNe, Nat.reduceSub, Nat.reduceLT])
  simp -implicitDefEqProofs only [Int.natCast_zero, List.take_zero, List.drop_zero, List.map_nil, List.nil_append, List.cons_append, nr, nw] at hl1
  have hl0 := loop0 (T := T) (mf := mf0) (body := lp80_0) (fun i => ⟨[(1, .ptr 1 0), (2, .ptr 2 0), (3, .ptr 3 0), (5, .d (.int .i64 (i : Nat)))], [(1, [.d (.int .i64 x0), .d (.str x1), .d (.int .i64 x2), .d (.list 2 true x3), .d (.list 1 true x4), .d (.str x5), .d (.str x6), .d (.list 1 true x7), .d (.list 1 true x8), .d (.str x9), .d (.bool x10), .d (.bool x11), .d (.bool x12), .d (.bool x13), .d (.int .i64 x14), .d (.int .i64 x15), .d (.list 7 false x16), .d (.list 7 false x17), .d (.list 19 false x18)]), (2, [.d (.int .i64 0), .d (.str ⟨#[]⟩), .d (.int .i64 0), .nil 2 true, .nil 1 true, .d (.str ⟨#[]⟩), .d (.str ⟨#[]⟩), .nil 1 true, .nil 1 true, .d (.str ⟨#[]⟩), .d (.bool false), .d (.bool false), .d (.bool false), .d (.bool false), .d (.int .i64 0), .d (.int .i64 0), .nil 7 false, .nil 7 false, .nil 19 false]), (3, [.d (.int .i64 x0), .d (.str x1), .d (.int .i64 x2), .ref 10001, .ref 10002, .d (.str x5), .d (.str x6), .ref 11, .ref 16, .d (.str x9), .d (.bool x10), .d (.bool x11), .d (.bool x12), .d (.bool x13), .d (.int .i64 x14), .d (.int .i64 x15), nr 7 false 39 x16.length, nr 7 false 57 i, .d (.list 19 false x18)])], [(11, orow 1 true (x7)), (16, orow 1 true (x8))] ++ nw 39 (orow 7 false (x16)) x16.length ++ nw 57 (orow 7 false (x17.take i)) i ++ [(10001, orow 2 true (x3)), (10002, orow 1 true (x4))]⟩) x17.length (e := .exit 2) (s := ⟨[(1, .ptr 1 0), (2, .ptr 2 0), (3, .ptr 3 0), (5, .d (.int .i64 (x17.length : Nat))), (45, .d (.bool false))], [(1, [.d (.int .i64 x0), .d (.str x1), .d (.int .i64 x2), .d (.list 2 true x3), .d (.list 1 true x4), .d (.str x5), .d (.str x6), .d (.list 1 true x7), .d (.list 1 true x8), .d (.str x9), .d (.bool x10), .d (.bool x11), .d (.bool x12), .d (.bool x13), .d (.int .i64 x14), .d (.int .i64 x15), .d (.list 7 false x16), .d (.list 7 false x17), .d (.list 19 false x18)]), (2, [.d (.int .i64 0), .d (.str ⟨#[]⟩), .d (.int .i64 0), .nil 2 true, .nil 1 true, .d (.str ⟨#[]⟩), .d (.str ⟨#[]⟩), .nil 1 true, .nil 1 true, .d (.str ⟨#[]⟩), .d (.bool false), .d (.bool false), .d (.bool false), .d (.bool false), .d (.int .i64 0), .d (.int .i64 0), .nil 7 false, .nil 7 false, .nil 19 false]), (3, [.d (.int .i64 x0), .d (.str x1), .d (.int .i64 x2), .ref 10001, .ref 10002, .d (.str x5), .d (.str x6), .ref 11, .ref 16, .d (.str x9), .d (.bool x10), .d (.bool x11), .d (.bool x12), .d (.bool x13), .d (.int .i64 x14), .d (.int .i64 x15), nr 7 false 39 x16.length, nr 7 false 57 x17.length, .d (.list 19 false x18)])], [(11, orow 1 true (x7)), (16, orow 1 true (x8))] ++ nw 39 (orow 7 false (x16)) x16.length ++ nw 57 (orow 7 false (x17.take x17.length)) x17.length ++ [(10001, orow 2 true (x3)), (10002, orow 1 true (x4))]⟩) (by simp)
    (by cases x16 <;> cases x17 <;> simp -implicitDefEqProofs only [lp80_0, nlt, nr, nw, List.length_cons, List.length_nil, List.take_length, List.take_succ_cons, List.take_nil, List.take_zero, go_sem, reduceIte, Nat.reduceAdd, Nat.reduceEqDiff, Nat.reduceMul, Nat.reduceLeDiff, Nat.reduceBEq, Nat.reduceBNe, Nat.reduceSub, Nat.reduceLT])
    (by
      intro i hi
      have hn := nth_lt hi
      obtain ⟨y0, y1, y2, y3, y4, y5, y6, he, _, _, p2, _, _, ⟨p5, q5⟩, ⟨p6, q6⟩⟩ := inv_Expr (c17.nth_ hn)
      have hx := cp78 _ (c17.nth_ hn)
      rw [he] at hx
      simp -implicitDefEqProofs only [List.map_cons, List.map_nil, own] at hx
      rw [he] at hn
      have ht := take_succ_nth x17 i _ hn
      have hr : (((x17.take i).length + 1) * 96 ≤ room ∧ (x17.take i).length + 1 ≤ maxLen) = True := by simp [room, big, maxLen] at b17 ⊢; omega
      have h1 : (96 ≤ room ∧ 1 ≤ maxLen) = True := by simp [room, maxLen]
      cases x16 <;> cases i with
      | zero => simp -implicitDefEqProofs only [lp80_0, hn, hi, ht, ilt hi, wi hi (Nat.le_trans b17 (by simp [maxLen, big])), Int.natCast_nonneg, hx, nr, nw, h1, List.take_zero, List.map_nil, List.map_append, List.map_cons, go_sem, reduceIte, Nat.reduceAdd, Nat.reduceEqDiff, Nat.reduceMul, Nat.reduceLeDiff, Nat.reduceBEq, Nat.reduceBNe, Nat.reduceSub, Nat.reduceLT]
      | succ i => simp -implicitDefEqProofs only [lp80_0, hn, hi, ht, ilt hi, wi hi (Nat.le_trans b17 (by simp [maxLen, big])), Int.natCast_nonneg, hx, nr, nw, hr, List.map_append, List.map_cons, List.map_nil, go_sem, reduceIte, Nat.reduceAdd, Nat.reduceEqDiff, Nat.reduceMul, Nat.reduceLeDiff, Nat.reduceBEq, Nat.reduceBNe, Nat.reduceSub, Nat.reduceLT])
  simp -implicitDefEqProofs only [Int.natCast_zero, List.take_zero, List.drop_zero, List.map_nil, List.nil_append, List.cons_append, nr, nw] at hl0
  rw [lim_fn (f := 80) rfl rfl]
  cases x16 <;> cases x17 <;> simp -implicitDefEqProofs only [List.length_cons, List.length_nil, List.cons_append, List.nil_append, nr, nw] at hl0 hl1 <;> simp -implicitDefEqProofs only [f2, r7, r8, hl0, hl1, ih, own, List.take_length, List.map_cons, List.map_nil, List.length_cons, List.length_nil, go_sem, reduceIte, Nat.reduceAdd, Nat.reduceEqDiff, Nat.reduceMul, Nat.reduceLeDiff, Nat.reduceBEq, Nat.reduceBNe, Nat.reduceSub, Nat.reduceLT]
theorem cp79_s (es : List (List D)) (hB : es.length ≤ big) (ok : OkE big 12 es) (h : ∀ e ∈ es, lim T 80 [.val true (e.map .d)] = some ([.val true (e.map own)], [])) :
    lim T 79 [.val false [.d (.list 19 false es)]] = some ([.val false [.row (orow 19 false es)]], []) := by
  rw [lim_fn (f := 79) rfl rfl]
  have hl := loop0 (T := T) (mf := mf0) (body := lp79_0) (fun i => ⟨[(0, .d (.list 19 false es)), (3, .ref 5), (4, .d (.int .i64 i))], [], [(5, orow 19 false (es.take i))]⟩) es.length (e := .exit 0) (by simp)
    (by simp -implicitDefEqProofs only [lp79_0, nlt, List.take_length, go_sem, reduceIte, Nat.reduceAdd, Nat.reduceEqDiff, Nat.reduceMul, Nat.reduceLeDiff, Nat.reduceBEq, Nat.reduceBNe, Nat.reduceSub, Nat.reduceLT]; rfl)
    (by
      intro i hi
      have hn := nth_lt hi
      obtain ⟨x0, x1, x2, x3, x4, x5, x6, x7, x8, x9, x10, x11, x12, x13, x14, x15, x16, x17, x18, he, _, b1, _, ⟨b3, c3⟩, ⟨b4, c4⟩, b5, b6, ⟨b7, c7⟩, ⟨b8, c8⟩, b9, _, _, _, _, _, _, ⟨b16, c16⟩, ⟨b17, c17⟩, ⟨b18, c18⟩⟩ := inv_Schema (ok.nth_ hn)
      have hx := h _ (nth_mem hn)
      rw [he] at hx
      simp -implicitDefEqProofs only [List.map_cons, List.map_nil, own] at hx
      rw [he] at hn
      have ht := take_succ_nth es i _ hn
      have hr : (((es.take i).length + 1) * 272 ≤ room ∧ (es.take i).length + 1 ≤ maxLen) = True := by simp [room, big, maxLen] at hB ⊢; omega
      simp -implicitDefEqProofs only [lp79_0, hn, hi, hr, ht, hx, ilt hi, wi hi (Nat.le_trans hB (by simp [maxLen, big])), Int.natCast_nonneg, go_sem, reduceIte, Nat.reduceAdd, Nat.reduceEqDiff, Nat.reduceMul, Nat.reduceLeDiff, Nat.reduceBEq, Nat.reduceBNe, Nat.reduceSub, Nat.reduceLT])
  simp -implicitDefEqProofs only [Int.natCast_zero, List.take_zero] at hl
  simp -implicitDefEqProofs only [hl, go_sem, reduceIte, Nat.reduceAdd, Nat.reduceEqDiff, Nat.reduceMul, Nat.reduceLeDiff, Nat.reduceBEq, Nat.reduceBNe, Nat.reduceSub, Nat.reduceLT]
theorem cp80_n (n : Nat) : ∀ (e : List D), SizeOf.sizeOf e < n → OkC big (lay 12) e → lim T 80 [.val true (e.map .d)] = some ([.val true (e.map own)], []) := by
  induction n with
  | zero => intro e h; omega
  | succ n hi =>
    intro e hn ok
    obtain ⟨x0, x1, x2, x3, x4, x5, x6, x7, x8, x9, x10, x11, x12, x13, x14, x15, x16, x17, x18, he, _, b1, _, ⟨b3, c3⟩, ⟨b4, c4⟩, b5, b6, ⟨b7, c7⟩, ⟨b8, c8⟩, b9, _, _, _, _, _, _, ⟨b16, c16⟩, ⟨b17, c17⟩, ⟨b18, c18⟩⟩ := inv_Schema ok
    rw [he] at hn ok ⊢
    refine cp80_s x0 x1 x2 x3 x4 x5 x6 x7 x8 x9 x10 x11 x12 x13 x14 x15 x16 x17 x18 ok (cp79_s x18 b18 c18 fun e he => hi e ?_ (c18.mem e he))
    exact Nat.lt_of_lt_of_le (size_in (k := 19) (fl := false) (es := x18) (by simp -implicitDefEqProofs only [List.mem_cons, true_or, or_true]) he) (Nat.le_of_lt_succ hn)
theorem cp80 (e : List D) (ok : OkC big (lay 12) e) : lim T 80 [.val true (e.map .d)] = some ([.val true (e.map own)], []) := cp80_n (SizeOf.sizeOf e + 1) e (by omega) ok
theorem cp79 (es : List (List D)) (hB : es.length ≤ big) (ok : OkE big 12 es) : lim T 79 [.val false [.d (.list 19 false es)]] = some ([.val false [.row (orow 19 false es)]], []) := cp79_s es hB ok fun e he => cp80 e (ok.mem e he)
theorem cp132 (es : List (List D)) (hB : es.length ≤ big) (ok : OkE big 13 es) :
    lim T 132 [.val false [.d (.list 3 false es)]] = some ([.val false [.row (orow 3 false es)]], []) := by
  rw [lim_fn (f := 132) rfl rfl]
  have hl := loop0 (T := T) (mf := mf0) (body := lp132_0) (fun i => ⟨[(0, .d (.list 3 false es)), (3, .ref 5), (4, .d (.int .i64 i))], [], [(5, orow 3 false (es.take i))]⟩) es.length (e := .exit 0) (by simp)
    (by simp -implicitDefEqProofs only [lp132_0, nlt, List.take_length, go_sem, reduceIte, Nat.reduceAdd, Nat.reduceEqDiff, Nat.reduceMul, Nat.reduceLeDiff, Nat.reduceBEq, Nat.reduceBNe, Nat.reduceSub, Nat.reduceLT]; rfl)
    (by
      intro i hi
      have hn := nth_lt hi
      obtain ⟨x0, x1, x2, he, ⟨b0, c0⟩, _, _⟩ := inv_Version (ok.nth_ hn)
      have m := cp2 x0 b0 c0
      rw [he] at hn
      have ht := take_succ_nth es i _ hn
      have hr : (((es.take i).length + 1) * 40 ≤ room ∧ (es.take i).length + 1 ≤ maxLen) = True := by simp [room, big, maxLen] at hB ⊢; omega
      simp -implicitDefEqProofs only [lp132_0, hn, hi, hr, ht, m, ilt hi, wi hi (Nat.le_trans hB (by simp [maxLen, big])), Int.natCast_nonneg, go_sem, reduceIte, Nat.reduceAdd, Nat.reduceEqDiff, Nat.reduceMul, Nat.reduceLeDiff, Nat.reduceBEq, Nat.reduceBNe, Nat.reduceSub, Nat.reduceLT])
  simp -implicitDefEqProofs only [Int.natCast_zero, List.take_zero] at hl
  simp -implicitDefEqProofs only [hl, go_sem, reduceIte, Nat.reduceAdd, Nat.reduceEqDiff, Nat.reduceMul, Nat.reduceLeDiff, Nat.reduceBEq, Nat.reduceBNe, Nat.reduceSub, Nat.reduceLT]
theorem cp133 (e : List D) (ok : OkC big (lay 15) e) :
    lim T 133 [.val true (e.map .d)] = some ([.val true (e.map own)], []) := by
  obtain ⟨x0, x1, x2, x3, x4, x5, x6, x7, x8, x9, rfl, ⟨b0, c0⟩, ⟨b1, c1⟩, ⟨b2, c2⟩, _, ⟨b4, c4⟩, _, _, _, b8, ⟨b9, c9⟩⟩ := inv_Store ok
  have f0 := cp79 x0 b0 c0
  have f1 := cp2 x1 b1 c1
  have f2 := cp2 x2 b2 c2
  have f4 := cp132 x4 b4 c4
  have f9 := cp2 x9 b9 c9
  rw [lim_fn (f := 133) rfl rfl]
  simp -implicitDefEqProofs only [f0, f1, f2, f4, f9, own, go_sem, reduceIte, Nat.reduceAdd, Nat.reduceEqDiff, Nat.reduceMul, Nat.reduceLeDiff, Nat.reduceBEq, Nat.reduceBNe, Nat.reduceSub, Nat.reduceLT]
theorem cp142 (e : List D) (ok : OkC big (lay 15) e) :
    lim T 142 [.val true (e.map .d)] = some ([.val true (e.map own)], []) := by
  obtain ⟨x0, x1, x2, x3, x4, x5, x6, x7, x8, x9, rfl, ⟨b0, c0⟩, ⟨b1, c1⟩, ⟨b2, c2⟩, _, ⟨b4, c4⟩, _, _, _, b8, ⟨b9, c9⟩⟩ := inv_Store ok
  have f0 := cp141 x0 b0 c0
  have f1 := cp1 x1 b1 c1
  have f2 := cp1 x2 b2 c2
  have f9 := cp1 x9 b9 c9
  have hl0 := loop0 (T := T) (mf := mf0) (body := lp142_0) (fun i => ⟨[(1, .ptr 1 0), (2, .ptr 2 0), (3, .ptr 3 0), (22, .d (.list 3 false x4)), (23, .d (.int .i64 (x4.length : Nat))), (24, .d (.int .i64 (i : Nat)))], [(1, [.d (.list 19 false x0), .d (.list 3 false x1), .d (.list 3 false x2), .d (.int .i64 x3), .d (.list 3 false x4), .d (.bool x5), .d (.int .i64 x6), .d (.int .i64 x7), .d (.str x8), .d (.list 3 false x9)]), (2, [.nil 19 false, .nil 3 false, .nil 3 false, .d (.int .i64 0), .nil 3 false, .d (.bool false), .d (.int .i64 0), .d (.int .i64 0), .d (.str ⟨#[]⟩), .nil 3 false]), (3, [.ref 10000, .ref 14000, .ref 18000, .d (.int .i64 x3), .ref 19, .d (.bool x5), .d (.int .i64 x6), .d (.int .i64 x7), .d (.str x8), .d (.list 3 false x9)])], [(19, orow 3 false (x4.take i)), (10000, orow 19 false (x0)), (14000, orow 3 false (x1)), (18000, orow 3 false (x2))]⟩) x4.length (e := .exit 0) (s := ⟨[(1, .ptr 1 0), (2, .ptr 2 0), (3, .ptr 3 0), (22, .d (.list 3 false x4)), (23, .d (.int .i64 (x4.length : Nat))), (24, .d (.int .i64 (x4.length : Nat))), (25, .d (.bool false))], [(1, [.d (.list 19 false x0), .d (.list 3 false x1), .d (.list 3 false x2), .d (.int .i64 x3), .d (.list 3 false x4), .d (.bool x5), .d (.int .i64 x6), .d (.int .i64 x7), .d (.str x8), .d (.list 3 false x9)]), (2, [.nil 19 false, .nil 3 false, .nil 3 false, .d (.int .i64 0), .nil 3 false, .d (.bool false), .d (.int .i64 0), .d (.int .i64 0), .d (.str ⟨#[]⟩), .nil 3 false]), (3, [.ref 10000, .ref 14000, .ref 18000, .d (.int .i64 x3), .ref 19, .d (.bool x5), .d (.int .i64 x6), .d (.int .i64 x7), .d (.str x8), .d (.list 3 false x9)])], [(19, orow 3 false (x4.take x4.length)), (10000, orow 19 false (x0)), (14000, orow 3 false (x1)), (18000, orow 3 false (x2))]⟩) (by simp)
    (by simp -implicitDefEqProofs only [lp142_0, nlt, List.take_length, List.drop_length, List.map_nil, List.append_nil, go_sem, reduceIte, Nat.reduceAdd, Nat.reduceEqDiff, Nat.reduceMul, Nat.reduceLeDiff, Nat.reduceBEq, Nat.reduceBNe, Nat.reduceSub, Nat.reduceLT])
    (by
      intro i hi
      have hn := nth_lt hi
      obtain ⟨y0, y1, y2, he, ⟨p0, q0⟩, _, _⟩ := inv_Version (c4.nth_ hn)
      have m := cp1 y0 p0 q0
      rw [he] at hn
      have ht := take_succ_nth x4 i _ hn
      have hr : (((x4.take i).length + 1) * 40 ≤ room ∧ (x4.take i).length + 1 ≤ maxLen) = True := by simp [room, big, maxLen] at b4 ⊢; omega
      simp -implicitDefEqProofs only [lp142_0, hn, hi, ht, ilt hi, wi hi (Nat.le_trans b4 (by simp [maxLen, big])), Int.natCast_nonneg, m, hr, go_sem, reduceIte, Nat.reduceAdd, Nat.reduceEqDiff, Nat.reduceMul, Nat.reduceLeDiff, Nat.reduceBEq, Nat.reduceBNe, Nat.reduceSub, Nat.reduceLT])
  simp -implicitDefEqProofs only [Int.natCast_zero, List.take_zero, List.drop_zero, List.map_nil, List.nil_append, List.cons_append, nr, nw] at hl0
  rw [lim_fn (f := 142) rfl rfl]
  simp -implicitDefEqProofs only [f0, f1, f2, f9, hl0, own, List.take_length, List.drop_length, List.length_cons, List.length_nil, List.map_cons, List.map_nil, go_sem, reduceIte, Nat.reduceAdd, Nat.reduceEqDiff, Nat.reduceMul, Nat.reduceLeDiff, Nat.reduceBEq, Nat.reduceBNe, Nat.reduceSub, Nat.reduceLT]

end Go.Proofs.YtmaigpiappmpcaaGreat
