/-
  Each type of data, opened to its cells. Printed by a program of our own.
-/
import Derived.Test.YtilohpakglpdcaaOp
namespace Go.Proofs.Ytilohpakglpdcaa
open Go.RowKit
set_option linter.unusedVariables false
set_option maxRecDepth 100000

theorem open_int {w : World} {x : V} {cs : List Value} {F : List Nat} (ho : Ok x tInt) (h : Rep w x cs F) :
    ∃ (i0 : Int), x = .int i0 ∧ cs = [.int .i64 i0] ∧ F = [] ∧ (-9223372036854775808 ≤ i0 ∧ i0 ≤ 9223372036854775807) := by
  obtain ⟨i0, rfl⟩ := ho.int_inv rfl
  obtain ⟨rfl, rfl, bd0⟩ := h.int_inv
  exact ⟨i0, rfl, rfl, by simp, bd0⟩
theorem wd_int {x : V} (ho : Ok x tInt) : V.width x = 1 := by
  obtain ⟨i0, rfl⟩ := ho.int_inv rfl
  simp only [V.width]


theorem cellr_int {w : World} {x : Int} {cs : List Value} {F : List Nat} (h : Rep w (.int x) cs F) : cs = [.int .i64 x] := h.int_inv.1

theorem open_bool {w : World} {x : V} {cs : List Value} {F : List Nat} (ho : Ok x tBool) (h : Rep w x cs F) :
    ∃ (b0 : Bool), x = .bool b0 ∧ cs = [.bool b0] ∧ F = [] := by
  obtain ⟨b0, rfl⟩ := ho.bool_inv rfl
  obtain ⟨rfl, rfl⟩ := h.bool_inv
  exact ⟨b0, rfl, rfl, by simp⟩
theorem wd_bool {x : V} (ho : Ok x tBool) : V.width x = 1 := by
  obtain ⟨b0, rfl⟩ := ho.bool_inv rfl
  simp only [V.width]


theorem cellr_bool {w : World} {x : Bool} {cs : List Value} {F : List Nat} (h : Rep w (.bool x) cs F) : cs = [.bool x] := h.bool_inv.1

theorem open_str {w : World} {x : V} {cs : List Value} {F : List Nat} (ho : Ok x tStr) (h : Rep w x cs F) :
    ∃ (s0 : ByteArray), x = .str s0 ∧ cs = [.string s0] ∧ F = [] ∧ s0.size ≤ 9223372036854775807 := by
  obtain ⟨s0, rfl⟩ := ho.str_inv rfl
  obtain ⟨rfl, rfl, bd0⟩ := h.str_inv
  exact ⟨s0, rfl, rfl, by simp, bd0⟩
theorem wd_str {x : V} (ho : Ok x tStr) : V.width x = 1 := by
  obtain ⟨s0, rfl⟩ := ho.str_inv rfl
  simp only [V.width]


theorem cellr_str {w : World} {x : ByteArray} {cs : List Value} {F : List Nat} (h : Rep w (.str x) cs F) : cs = [.string x] := h.str_inv.1

theorem open_Rule {w : World} {x : V} {cs : List Value} {F : List Nat} (ho : Ok x tRule) (h : Rep w x cs F) :
    ∃ (s0 : ByteArray) (xs1 : List V) (A1 : Option Addr) (n1 c1 : Nat) (F1 : List Nat) (i2 : Int) (b3 : Bool), x = .agg [.str s0, .list xs1, .int i2, .bool b3] ∧ cs = [.string s0, .slice A1 n1 c1, .int .i64 i2, .bool b3] ∧ F = F1 ∧ s0.size ≤ 9223372036854775807 ∧ Oks xs1 tStr ∧ Rep w (.list xs1) [.slice A1 n1 c1] F1 ∧ (n1 = xs1.length ∧ n1 ≤ c1 ∧ c1 ≤ 9223372036854775807) ∧ (-9223372036854775808 ≤ i2 ∧ i2 ≤ 9223372036854775807) := by
  obtain ⟨_, rfl, hz1⟩ := ho.agg_inv rfl
  obtain ⟨_, _, rfl, k2, hz2⟩ := hz1.cons_inv
  obtain ⟨s0, rfl⟩ := k2.str_inv rfl
  obtain ⟨_, _, rfl, k3, hz3⟩ := hz2.cons_inv
  obtain ⟨xs1, rfl, ok1⟩ := k3.list_inv rfl
  obtain ⟨_, _, rfl, k4, hz4⟩ := hz3.cons_inv
  obtain ⟨i2, rfl⟩ := k4.int_inv rfl
  obtain ⟨_, _, rfl, k5, hz5⟩ := hz4.cons_inv
  obtain ⟨b3, rfl⟩ := k5.bool_inv rfl
  obtain rfl := hz5.nil_inv
  have r6 := h.agg_inv
  obtain ⟨_, _, _, _, rfl, rfl, q7, r7⟩ := r6.cons_inv
  obtain ⟨rfl, rfl, bd0⟩ := q7.str_inv
  obtain ⟨_, _, _, _, rfl, rfl, q8, r8⟩ := r7.cons_inv
  obtain ⟨A1, n1, c1, rfl, ln1⟩ := q8.list_inv
  obtain ⟨_, _, _, _, rfl, rfl, q9, r9⟩ := r8.cons_inv
  obtain ⟨rfl, rfl, bd2⟩ := q9.int_inv
  obtain ⟨_, _, _, _, rfl, rfl, q10, r10⟩ := r9.cons_inv
  obtain ⟨rfl, rfl⟩ := q10.bool_inv
  obtain ⟨rfl, rfl⟩ := r10.nil_inv
  exact ⟨s0, xs1, A1, n1, c1, _, i2, b3, rfl, rfl, by simp, bd0, ok1, q8, ln1, bd2⟩
theorem wd_Rule {x : V} (ho : Ok x tRule) : V.width x = 4 := by
  obtain ⟨_, rfl, hz1⟩ := ho.agg_inv rfl
  obtain ⟨_, _, rfl, k2, hz2⟩ := hz1.cons_inv
  obtain ⟨s0, rfl⟩ := k2.str_inv rfl
  obtain ⟨_, _, rfl, k3, hz3⟩ := hz2.cons_inv
  obtain ⟨xs1, rfl, ok1⟩ := k3.list_inv rfl
  obtain ⟨_, _, rfl, k4, hz4⟩ := hz3.cons_inv
  obtain ⟨i2, rfl⟩ := k4.int_inv rfl
  obtain ⟨_, _, rfl, k5, hz5⟩ := hz4.cons_inv
  obtain ⟨b3, rfl⟩ := k5.bool_inv rfl
  obtain rfl := hz5.nil_inv
  simp only [V.width, V.widths]

theorem cells_Rule {w : World} {s0 : ByteArray} {xs1 : List V} {i2 : Int} {b3 : Bool} {cs : List Value} {F : List Nat} (h : Rep w (.agg [.str s0, .list xs1, .int i2, .bool b3]) cs F) : ∃ (A1 : Option Addr) (n1 c1 : Nat) (F1 : List Nat), cs = [.string s0, .slice A1 n1 c1, .int .i64 i2, .bool b3] := by
  have r1 := h.agg_inv
  obtain ⟨_, _, _, _, rfl, rfl, q2, r2⟩ := r1.cons_inv
  obtain ⟨rfl, rfl, _⟩ := q2.str_inv
  obtain ⟨_, _, _, _, rfl, rfl, q3, r3⟩ := r2.cons_inv
  obtain ⟨A1, n1, c1, rfl, _⟩ := q3.list_inv
  obtain ⟨_, _, _, _, rfl, rfl, q4, r4⟩ := r3.cons_inv
  obtain ⟨rfl, rfl, _⟩ := q4.int_inv
  obtain ⟨_, _, _, _, rfl, rfl, q5, r5⟩ := r4.cons_inv
  obtain ⟨rfl, rfl⟩ := q5.bool_inv
  obtain ⟨rfl, rfl⟩ := r5.nil_inv
  exact ⟨A1, n1, c1, [], rfl⟩

theorem cellr_Rule {w : World} {s0 : ByteArray} {xs1 : List V} {i2 : Int} {b3 : Bool} {cs : List Value} {F : List Nat} (h : Rep w (.agg [.str s0, .list xs1, .int i2, .bool b3]) cs F) : ∃ (A1 : Option Addr) (n1 c1 : Nat) (F1 : List Nat), cs = [.string s0, .slice A1 n1 c1, .int .i64 i2, .bool b3] ∧ Rep w (.list xs1) [.slice A1 n1 c1] F1 ∧ (n1 = xs1.length ∧ n1 ≤ c1 ∧ c1 ≤ 9223372036854775807) := by
  have r1 := h.agg_inv
  obtain ⟨_, _, _, _, rfl, rfl, q2, r2⟩ := r1.cons_inv
  obtain ⟨rfl, rfl, _⟩ := q2.str_inv
  obtain ⟨_, _, _, _, rfl, rfl, q3, r3⟩ := r2.cons_inv
  obtain ⟨A1, n1, c1, rfl, l1⟩ := q3.list_inv
  obtain ⟨_, _, _, _, rfl, rfl, q4, r4⟩ := r3.cons_inv
  obtain ⟨rfl, rfl, _⟩ := q4.int_inv
  obtain ⟨_, _, _, _, rfl, rfl, q5, r5⟩ := r4.cons_inv
  obtain ⟨rfl, rfl⟩ := q5.bool_inv
  obtain ⟨rfl, rfl⟩ := r5.nil_inv
  exact ⟨A1, n1, c1, _, rfl, q3, l1⟩

theorem open_Node {w : World} {x : V} {cs : List Value} {F : List Nat} (ho : Ok x tNode) (h : Rep w x cs F) :
    ∃ (s0 : ByteArray) (s1 : ByteArray) (xs2 : List V) (A2 : Option Addr) (n2 c2 : Nat) (F2 : List Nat), x = .agg [.str s0, .str s1, .list xs2] ∧ cs = [.string s0, .string s1, .slice A2 n2 c2] ∧ F = F2 ∧ s0.size ≤ 9223372036854775807 ∧ s1.size ≤ 9223372036854775807 ∧ Oks xs2 tNode ∧ Rep w (.list xs2) [.slice A2 n2 c2] F2 ∧ (n2 = xs2.length ∧ n2 ≤ c2 ∧ c2 ≤ 9223372036854775807) := by
  obtain ⟨_, rfl, hz1⟩ := ho.agg_inv rfl
  obtain ⟨_, _, rfl, k2, hz2⟩ := hz1.cons_inv
  obtain ⟨s0, rfl⟩ := k2.str_inv rfl
  obtain ⟨_, _, rfl, k3, hz3⟩ := hz2.cons_inv
  obtain ⟨s1, rfl⟩ := k3.str_inv rfl
  obtain ⟨_, _, rfl, k4, hz4⟩ := hz3.cons_inv
  obtain ⟨xs2, rfl, ok2⟩ := k4.list_inv rfl
  obtain rfl := hz4.nil_inv
  have r5 := h.agg_inv
  obtain ⟨_, _, _, _, rfl, rfl, q6, r6⟩ := r5.cons_inv
  obtain ⟨rfl, rfl, bd0⟩ := q6.str_inv
  obtain ⟨_, _, _, _, rfl, rfl, q7, r7⟩ := r6.cons_inv
  obtain ⟨rfl, rfl, bd1⟩ := q7.str_inv
  obtain ⟨_, _, _, _, rfl, rfl, q8, r8⟩ := r7.cons_inv
  obtain ⟨A2, n2, c2, rfl, ln2⟩ := q8.list_inv
  obtain ⟨rfl, rfl⟩ := r8.nil_inv
  exact ⟨s0, s1, xs2, A2, n2, c2, _, rfl, rfl, by simp, bd0, bd1, ok2, q8, ln2⟩
theorem wd_Node {x : V} (ho : Ok x tNode) : V.width x = 3 := by
  obtain ⟨_, rfl, hz1⟩ := ho.agg_inv rfl
  obtain ⟨_, _, rfl, k2, hz2⟩ := hz1.cons_inv
  obtain ⟨s0, rfl⟩ := k2.str_inv rfl
  obtain ⟨_, _, rfl, k3, hz3⟩ := hz2.cons_inv
  obtain ⟨s1, rfl⟩ := k3.str_inv rfl
  obtain ⟨_, _, rfl, k4, hz4⟩ := hz3.cons_inv
  obtain ⟨xs2, rfl, ok2⟩ := k4.list_inv rfl
  obtain rfl := hz4.nil_inv
  simp only [V.width, V.widths]

theorem cells_Node {w : World} {s0 : ByteArray} {s1 : ByteArray} {xs2 : List V} {cs : List Value} {F : List Nat} (h : Rep w (.agg [.str s0, .str s1, .list xs2]) cs F) : ∃ (A2 : Option Addr) (n2 c2 : Nat) (F2 : List Nat), cs = [.string s0, .string s1, .slice A2 n2 c2] := by
  have r1 := h.agg_inv
  obtain ⟨_, _, _, _, rfl, rfl, q2, r2⟩ := r1.cons_inv
  obtain ⟨rfl, rfl, _⟩ := q2.str_inv
  obtain ⟨_, _, _, _, rfl, rfl, q3, r3⟩ := r2.cons_inv
  obtain ⟨rfl, rfl, _⟩ := q3.str_inv
  obtain ⟨_, _, _, _, rfl, rfl, q4, r4⟩ := r3.cons_inv
  obtain ⟨A2, n2, c2, rfl, _⟩ := q4.list_inv
  obtain ⟨rfl, rfl⟩ := r4.nil_inv
  exact ⟨A2, n2, c2, [], rfl⟩

theorem cellr_Node {w : World} {s0 : ByteArray} {s1 : ByteArray} {xs2 : List V} {cs : List Value} {F : List Nat} (h : Rep w (.agg [.str s0, .str s1, .list xs2]) cs F) : ∃ (A2 : Option Addr) (n2 c2 : Nat) (F2 : List Nat), cs = [.string s0, .string s1, .slice A2 n2 c2] ∧ Rep w (.list xs2) [.slice A2 n2 c2] F2 ∧ (n2 = xs2.length ∧ n2 ≤ c2 ∧ c2 ≤ 9223372036854775807) := by
  have r1 := h.agg_inv
  obtain ⟨_, _, _, _, rfl, rfl, q2, r2⟩ := r1.cons_inv
  obtain ⟨rfl, rfl, _⟩ := q2.str_inv
  obtain ⟨_, _, _, _, rfl, rfl, q3, r3⟩ := r2.cons_inv
  obtain ⟨rfl, rfl, _⟩ := q3.str_inv
  obtain ⟨_, _, _, _, rfl, rfl, q4, r4⟩ := r3.cons_inv
  obtain ⟨A2, n2, c2, rfl, l2⟩ := q4.list_inv
  obtain ⟨rfl, rfl⟩ := r4.nil_inv
  exact ⟨A2, n2, c2, _, rfl, q4, l2⟩

theorem open_Edit {w : World} {x : V} {cs : List Value} {F : List Nat} (ho : Ok x tEdit) (h : Rep w x cs F) :
    ∃ (i0 : Int) (s1 : ByteArray) (s2 : ByteArray) (xs3 : List V) (A3 : Option Addr) (n3 c3 : Nat) (F3 : List Nat), x = .agg [.int i0, .str s1, .str s2, .list xs3] ∧ cs = [.int .i64 i0, .string s1, .string s2, .slice A3 n3 c3] ∧ F = F3 ∧ (-9223372036854775808 ≤ i0 ∧ i0 ≤ 9223372036854775807) ∧ s1.size ≤ 9223372036854775807 ∧ s2.size ≤ 9223372036854775807 ∧ Oks xs3 tEdit ∧ Rep w (.list xs3) [.slice A3 n3 c3] F3 ∧ (n3 = xs3.length ∧ n3 ≤ c3 ∧ c3 ≤ 9223372036854775807) := by
  obtain ⟨_, rfl, hz1⟩ := ho.agg_inv rfl
  obtain ⟨_, _, rfl, k2, hz2⟩ := hz1.cons_inv
  obtain ⟨i0, rfl⟩ := k2.int_inv rfl
  obtain ⟨_, _, rfl, k3, hz3⟩ := hz2.cons_inv
  obtain ⟨s1, rfl⟩ := k3.str_inv rfl
  obtain ⟨_, _, rfl, k4, hz4⟩ := hz3.cons_inv
  obtain ⟨s2, rfl⟩ := k4.str_inv rfl
  obtain ⟨_, _, rfl, k5, hz5⟩ := hz4.cons_inv
  obtain ⟨xs3, rfl, ok3⟩ := k5.list_inv rfl
  obtain rfl := hz5.nil_inv
  have r6 := h.agg_inv
  obtain ⟨_, _, _, _, rfl, rfl, q7, r7⟩ := r6.cons_inv
  obtain ⟨rfl, rfl, bd0⟩ := q7.int_inv
  obtain ⟨_, _, _, _, rfl, rfl, q8, r8⟩ := r7.cons_inv
  obtain ⟨rfl, rfl, bd1⟩ := q8.str_inv
  obtain ⟨_, _, _, _, rfl, rfl, q9, r9⟩ := r8.cons_inv
  obtain ⟨rfl, rfl, bd2⟩ := q9.str_inv
  obtain ⟨_, _, _, _, rfl, rfl, q10, r10⟩ := r9.cons_inv
  obtain ⟨A3, n3, c3, rfl, ln3⟩ := q10.list_inv
  obtain ⟨rfl, rfl⟩ := r10.nil_inv
  exact ⟨i0, s1, s2, xs3, A3, n3, c3, _, rfl, rfl, by simp, bd0, bd1, bd2, ok3, q10, ln3⟩
theorem wd_Edit {x : V} (ho : Ok x tEdit) : V.width x = 4 := by
  obtain ⟨_, rfl, hz1⟩ := ho.agg_inv rfl
  obtain ⟨_, _, rfl, k2, hz2⟩ := hz1.cons_inv
  obtain ⟨i0, rfl⟩ := k2.int_inv rfl
  obtain ⟨_, _, rfl, k3, hz3⟩ := hz2.cons_inv
  obtain ⟨s1, rfl⟩ := k3.str_inv rfl
  obtain ⟨_, _, rfl, k4, hz4⟩ := hz3.cons_inv
  obtain ⟨s2, rfl⟩ := k4.str_inv rfl
  obtain ⟨_, _, rfl, k5, hz5⟩ := hz4.cons_inv
  obtain ⟨xs3, rfl, ok3⟩ := k5.list_inv rfl
  obtain rfl := hz5.nil_inv
  simp only [V.width, V.widths]

theorem cells_Edit {w : World} {i0 : Int} {s1 : ByteArray} {s2 : ByteArray} {xs3 : List V} {cs : List Value} {F : List Nat} (h : Rep w (.agg [.int i0, .str s1, .str s2, .list xs3]) cs F) : ∃ (A3 : Option Addr) (n3 c3 : Nat) (F3 : List Nat), cs = [.int .i64 i0, .string s1, .string s2, .slice A3 n3 c3] := by
  have r1 := h.agg_inv
  obtain ⟨_, _, _, _, rfl, rfl, q2, r2⟩ := r1.cons_inv
  obtain ⟨rfl, rfl, _⟩ := q2.int_inv
  obtain ⟨_, _, _, _, rfl, rfl, q3, r3⟩ := r2.cons_inv
  obtain ⟨rfl, rfl, _⟩ := q3.str_inv
  obtain ⟨_, _, _, _, rfl, rfl, q4, r4⟩ := r3.cons_inv
  obtain ⟨rfl, rfl, _⟩ := q4.str_inv
  obtain ⟨_, _, _, _, rfl, rfl, q5, r5⟩ := r4.cons_inv
  obtain ⟨A3, n3, c3, rfl, _⟩ := q5.list_inv
  obtain ⟨rfl, rfl⟩ := r5.nil_inv
  exact ⟨A3, n3, c3, [], rfl⟩

theorem cellr_Edit {w : World} {i0 : Int} {s1 : ByteArray} {s2 : ByteArray} {xs3 : List V} {cs : List Value} {F : List Nat} (h : Rep w (.agg [.int i0, .str s1, .str s2, .list xs3]) cs F) : ∃ (A3 : Option Addr) (n3 c3 : Nat) (F3 : List Nat), cs = [.int .i64 i0, .string s1, .string s2, .slice A3 n3 c3] ∧ Rep w (.list xs3) [.slice A3 n3 c3] F3 ∧ (n3 = xs3.length ∧ n3 ≤ c3 ∧ c3 ≤ 9223372036854775807) := by
  have r1 := h.agg_inv
  obtain ⟨_, _, _, _, rfl, rfl, q2, r2⟩ := r1.cons_inv
  obtain ⟨rfl, rfl, _⟩ := q2.int_inv
  obtain ⟨_, _, _, _, rfl, rfl, q3, r3⟩ := r2.cons_inv
  obtain ⟨rfl, rfl, _⟩ := q3.str_inv
  obtain ⟨_, _, _, _, rfl, rfl, q4, r4⟩ := r3.cons_inv
  obtain ⟨rfl, rfl, _⟩ := q4.str_inv
  obtain ⟨_, _, _, _, rfl, rfl, q5, r5⟩ := r4.cons_inv
  obtain ⟨A3, n3, c3, rfl, l3⟩ := q5.list_inv
  obtain ⟨rfl, rfl⟩ := r5.nil_inv
  exact ⟨A3, n3, c3, _, rfl, q5, l3⟩

theorem open_Change {w : World} {x : V} {cs : List Value} {F : List Nat} (ho : Ok x tChange) (h : Rep w x cs F) :
    ∃ (i0 : Int) (i1 : Int) (xs2 : List V) (A2 : Option Addr) (n2 c2 : Nat) (F2 : List Nat), x = .agg [.int i0, .int i1, .list xs2] ∧ cs = [.int .i64 i0, .int .i64 i1, .slice A2 n2 c2] ∧ F = F2 ∧ (-9223372036854775808 ≤ i0 ∧ i0 ≤ 9223372036854775807) ∧ (-9223372036854775808 ≤ i1 ∧ i1 ≤ 9223372036854775807) ∧ Oks xs2 tEdit ∧ Rep w (.list xs2) [.slice A2 n2 c2] F2 ∧ (n2 = xs2.length ∧ n2 ≤ c2 ∧ c2 ≤ 9223372036854775807) := by
  obtain ⟨_, rfl, hz1⟩ := ho.agg_inv rfl
  obtain ⟨_, _, rfl, k2, hz2⟩ := hz1.cons_inv
  obtain ⟨i0, rfl⟩ := k2.int_inv rfl
  obtain ⟨_, _, rfl, k3, hz3⟩ := hz2.cons_inv
  obtain ⟨i1, rfl⟩ := k3.int_inv rfl
  obtain ⟨_, _, rfl, k4, hz4⟩ := hz3.cons_inv
  obtain ⟨xs2, rfl, ok2⟩ := k4.list_inv rfl
  obtain rfl := hz4.nil_inv
  have r5 := h.agg_inv
  obtain ⟨_, _, _, _, rfl, rfl, q6, r6⟩ := r5.cons_inv
  obtain ⟨rfl, rfl, bd0⟩ := q6.int_inv
  obtain ⟨_, _, _, _, rfl, rfl, q7, r7⟩ := r6.cons_inv
  obtain ⟨rfl, rfl, bd1⟩ := q7.int_inv
  obtain ⟨_, _, _, _, rfl, rfl, q8, r8⟩ := r7.cons_inv
  obtain ⟨A2, n2, c2, rfl, ln2⟩ := q8.list_inv
  obtain ⟨rfl, rfl⟩ := r8.nil_inv
  exact ⟨i0, i1, xs2, A2, n2, c2, _, rfl, rfl, by simp, bd0, bd1, ok2, q8, ln2⟩
theorem wd_Change {x : V} (ho : Ok x tChange) : V.width x = 3 := by
  obtain ⟨_, rfl, hz1⟩ := ho.agg_inv rfl
  obtain ⟨_, _, rfl, k2, hz2⟩ := hz1.cons_inv
  obtain ⟨i0, rfl⟩ := k2.int_inv rfl
  obtain ⟨_, _, rfl, k3, hz3⟩ := hz2.cons_inv
  obtain ⟨i1, rfl⟩ := k3.int_inv rfl
  obtain ⟨_, _, rfl, k4, hz4⟩ := hz3.cons_inv
  obtain ⟨xs2, rfl, ok2⟩ := k4.list_inv rfl
  obtain rfl := hz4.nil_inv
  simp only [V.width, V.widths]

theorem cells_Change {w : World} {i0 : Int} {i1 : Int} {xs2 : List V} {cs : List Value} {F : List Nat} (h : Rep w (.agg [.int i0, .int i1, .list xs2]) cs F) : ∃ (A2 : Option Addr) (n2 c2 : Nat) (F2 : List Nat), cs = [.int .i64 i0, .int .i64 i1, .slice A2 n2 c2] := by
  have r1 := h.agg_inv
  obtain ⟨_, _, _, _, rfl, rfl, q2, r2⟩ := r1.cons_inv
  obtain ⟨rfl, rfl, _⟩ := q2.int_inv
  obtain ⟨_, _, _, _, rfl, rfl, q3, r3⟩ := r2.cons_inv
  obtain ⟨rfl, rfl, _⟩ := q3.int_inv
  obtain ⟨_, _, _, _, rfl, rfl, q4, r4⟩ := r3.cons_inv
  obtain ⟨A2, n2, c2, rfl, _⟩ := q4.list_inv
  obtain ⟨rfl, rfl⟩ := r4.nil_inv
  exact ⟨A2, n2, c2, [], rfl⟩

theorem cellr_Change {w : World} {i0 : Int} {i1 : Int} {xs2 : List V} {cs : List Value} {F : List Nat} (h : Rep w (.agg [.int i0, .int i1, .list xs2]) cs F) : ∃ (A2 : Option Addr) (n2 c2 : Nat) (F2 : List Nat), cs = [.int .i64 i0, .int .i64 i1, .slice A2 n2 c2] ∧ Rep w (.list xs2) [.slice A2 n2 c2] F2 ∧ (n2 = xs2.length ∧ n2 ≤ c2 ∧ c2 ≤ 9223372036854775807) := by
  have r1 := h.agg_inv
  obtain ⟨_, _, _, _, rfl, rfl, q2, r2⟩ := r1.cons_inv
  obtain ⟨rfl, rfl, _⟩ := q2.int_inv
  obtain ⟨_, _, _, _, rfl, rfl, q3, r3⟩ := r2.cons_inv
  obtain ⟨rfl, rfl, _⟩ := q3.int_inv
  obtain ⟨_, _, _, _, rfl, rfl, q4, r4⟩ := r3.cons_inv
  obtain ⟨A2, n2, c2, rfl, l2⟩ := q4.list_inv
  obtain ⟨rfl, rfl⟩ := r4.nil_inv
  exact ⟨A2, n2, c2, _, rfl, q4, l2⟩

theorem open_Journal {w : World} {x : V} {cs : List Value} {F : List Nat} (ho : Ok x tJournal) (h : Rep w x cs F) :
    ∃ (xs0 : List V) (A0 : Option Addr) (n0 c0 : Nat) (F0 : List Nat) (xs1 : List V) (A1 : Option Addr) (n1 c1 : Nat) (F1 : List Nat), x = .agg [.list xs0, .list xs1] ∧ cs = [.slice A0 n0 c0, .slice A1 n1 c1] ∧ F = F0 ++ F1 ∧ Oks xs0 tNode ∧ Rep w (.list xs0) [.slice A0 n0 c0] F0 ∧ (n0 = xs0.length ∧ n0 ≤ c0 ∧ c0 ≤ 9223372036854775807) ∧ Oks xs1 tChange ∧ Rep w (.list xs1) [.slice A1 n1 c1] F1 ∧ (n1 = xs1.length ∧ n1 ≤ c1 ∧ c1 ≤ 9223372036854775807) := by
  obtain ⟨_, rfl, hz1⟩ := ho.agg_inv rfl
  obtain ⟨_, _, rfl, k2, hz2⟩ := hz1.cons_inv
  obtain ⟨xs0, rfl, ok0⟩ := k2.list_inv rfl
  obtain ⟨_, _, rfl, k3, hz3⟩ := hz2.cons_inv
  obtain ⟨xs1, rfl, ok1⟩ := k3.list_inv rfl
  obtain rfl := hz3.nil_inv
  have r4 := h.agg_inv
  obtain ⟨_, _, _, _, rfl, rfl, q5, r5⟩ := r4.cons_inv
  obtain ⟨A0, n0, c0, rfl, ln0⟩ := q5.list_inv
  obtain ⟨_, _, _, _, rfl, rfl, q6, r6⟩ := r5.cons_inv
  obtain ⟨A1, n1, c1, rfl, ln1⟩ := q6.list_inv
  obtain ⟨rfl, rfl⟩ := r6.nil_inv
  exact ⟨xs0, A0, n0, c0, _, xs1, A1, n1, c1, _, rfl, rfl, by simp, ok0, q5, ln0, ok1, q6, ln1⟩
theorem wd_Journal {x : V} (ho : Ok x tJournal) : V.width x = 2 := by
  obtain ⟨_, rfl, hz1⟩ := ho.agg_inv rfl
  obtain ⟨_, _, rfl, k2, hz2⟩ := hz1.cons_inv
  obtain ⟨xs0, rfl, ok0⟩ := k2.list_inv rfl
  obtain ⟨_, _, rfl, k3, hz3⟩ := hz2.cons_inv
  obtain ⟨xs1, rfl, ok1⟩ := k3.list_inv rfl
  obtain rfl := hz3.nil_inv
  simp only [V.width, V.widths]

theorem cells_Journal {w : World} {xs0 : List V} {xs1 : List V} {cs : List Value} {F : List Nat} (h : Rep w (.agg [.list xs0, .list xs1]) cs F) : ∃ (A0 : Option Addr) (n0 c0 : Nat) (F0 : List Nat) (A1 : Option Addr) (n1 c1 : Nat) (F1 : List Nat), cs = [.slice A0 n0 c0, .slice A1 n1 c1] := by
  have r1 := h.agg_inv
  obtain ⟨_, _, _, _, rfl, rfl, q2, r2⟩ := r1.cons_inv
  obtain ⟨A0, n0, c0, rfl, _⟩ := q2.list_inv
  obtain ⟨_, _, _, _, rfl, rfl, q3, r3⟩ := r2.cons_inv
  obtain ⟨A1, n1, c1, rfl, _⟩ := q3.list_inv
  obtain ⟨rfl, rfl⟩ := r3.nil_inv
  exact ⟨A0, n0, c0, [], A1, n1, c1, [], rfl⟩

theorem cellr_Journal {w : World} {xs0 : List V} {xs1 : List V} {cs : List Value} {F : List Nat} (h : Rep w (.agg [.list xs0, .list xs1]) cs F) : ∃ (A0 : Option Addr) (n0 c0 : Nat) (F0 : List Nat) (A1 : Option Addr) (n1 c1 : Nat) (F1 : List Nat), cs = [.slice A0 n0 c0, .slice A1 n1 c1] ∧ Rep w (.list xs0) [.slice A0 n0 c0] F0 ∧ (n0 = xs0.length ∧ n0 ≤ c0 ∧ c0 ≤ 9223372036854775807) ∧ Rep w (.list xs1) [.slice A1 n1 c1] F1 ∧ (n1 = xs1.length ∧ n1 ≤ c1 ∧ c1 ≤ 9223372036854775807) := by
  have r1 := h.agg_inv
  obtain ⟨_, _, _, _, rfl, rfl, q2, r2⟩ := r1.cons_inv
  obtain ⟨A0, n0, c0, rfl, l0⟩ := q2.list_inv
  obtain ⟨_, _, _, _, rfl, rfl, q3, r3⟩ := r2.cons_inv
  obtain ⟨A1, n1, c1, rfl, l1⟩ := q3.list_inv
  obtain ⟨rfl, rfl⟩ := r3.nil_inv
  exact ⟨A0, n0, c0, _, A1, n1, c1, _, rfl, q2, l0, q3, l1⟩

theorem open_Range {w : World} {x : V} {cs : List Value} {F : List Nat} (ho : Ok x tRange) (h : Rep w x cs F) :
    ∃ (i0 : Int) (i1 : Int), x = .agg [.int i0, .int i1] ∧ cs = [.int .i64 i0, .int .i64 i1] ∧ F = [] ∧ (-9223372036854775808 ≤ i0 ∧ i0 ≤ 9223372036854775807) ∧ (-9223372036854775808 ≤ i1 ∧ i1 ≤ 9223372036854775807) := by
  obtain ⟨_, rfl, hz1⟩ := ho.agg_inv rfl
  obtain ⟨_, _, rfl, k2, hz2⟩ := hz1.cons_inv
  obtain ⟨i0, rfl⟩ := k2.int_inv rfl
  obtain ⟨_, _, rfl, k3, hz3⟩ := hz2.cons_inv
  obtain ⟨i1, rfl⟩ := k3.int_inv rfl
  obtain rfl := hz3.nil_inv
  have r4 := h.agg_inv
  obtain ⟨_, _, _, _, rfl, rfl, q5, r5⟩ := r4.cons_inv
  obtain ⟨rfl, rfl, bd0⟩ := q5.int_inv
  obtain ⟨_, _, _, _, rfl, rfl, q6, r6⟩ := r5.cons_inv
  obtain ⟨rfl, rfl, bd1⟩ := q6.int_inv
  obtain ⟨rfl, rfl⟩ := r6.nil_inv
  exact ⟨i0, i1, rfl, rfl, by simp, bd0, bd1⟩
theorem wd_Range {x : V} (ho : Ok x tRange) : V.width x = 2 := by
  obtain ⟨_, rfl, hz1⟩ := ho.agg_inv rfl
  obtain ⟨_, _, rfl, k2, hz2⟩ := hz1.cons_inv
  obtain ⟨i0, rfl⟩ := k2.int_inv rfl
  obtain ⟨_, _, rfl, k3, hz3⟩ := hz2.cons_inv
  obtain ⟨i1, rfl⟩ := k3.int_inv rfl
  obtain rfl := hz3.nil_inv
  simp only [V.width, V.widths]

theorem cells_Range {w : World} {i0 : Int} {i1 : Int} {cs : List Value} {F : List Nat} (h : Rep w (.agg [.int i0, .int i1]) cs F) : cs = [.int .i64 i0, .int .i64 i1] := by
  have r1 := h.agg_inv
  obtain ⟨_, _, _, _, rfl, rfl, q2, r2⟩ := r1.cons_inv
  obtain ⟨rfl, rfl, _⟩ := q2.int_inv
  obtain ⟨_, _, _, _, rfl, rfl, q3, r3⟩ := r2.cons_inv
  obtain ⟨rfl, rfl, _⟩ := q3.int_inv
  obtain ⟨rfl, rfl⟩ := r3.nil_inv
  rfl

theorem cellr_Range {w : World} {i0 : Int} {i1 : Int} {cs : List Value} {F : List Nat} (h : Rep w (.agg [.int i0, .int i1]) cs F) : cs = [.int .i64 i0, .int .i64 i1] := by
  have r1 := h.agg_inv
  obtain ⟨_, _, _, _, rfl, rfl, q2, r2⟩ := r1.cons_inv
  obtain ⟨rfl, rfl, _⟩ := q2.int_inv
  obtain ⟨_, _, _, _, rfl, rfl, q3, r3⟩ := r2.cons_inv
  obtain ⟨rfl, rfl, _⟩ := q3.int_inv
  obtain ⟨rfl, rfl⟩ := r3.nil_inv
  rfl

theorem open_Type {w : World} {x : V} {cs : List Value} {F : List Nat} (ho : Ok x tType) (h : Rep w x cs F) :
    ∃ (i0 : Int) (xs1 : List V) (A1 : Option Addr) (n1 c1 : Nat) (F1 : List Nat) (xs2 : List V) (A2 : Option Addr) (n2 c2 : Nat) (F2 : List Nat) (s3 : ByteArray) (s4 : ByteArray), x = .agg [.int i0, .list xs1, .list xs2, .str s3, .str s4] ∧ cs = [.int .i64 i0, .slice A1 n1 c1, .slice A2 n2 c2, .string s3, .string s4] ∧ F = F1 ++ F2 ∧ (-9223372036854775808 ≤ i0 ∧ i0 ≤ 9223372036854775807) ∧ Oks xs1 tRange ∧ Rep w (.list xs1) [.slice A1 n1 c1] F1 ∧ (n1 = xs1.length ∧ n1 ≤ c1 ∧ c1 ≤ 9223372036854775807) ∧ Oks xs2 tStr ∧ Rep w (.list xs2) [.slice A2 n2 c2] F2 ∧ (n2 = xs2.length ∧ n2 ≤ c2 ∧ c2 ≤ 9223372036854775807) ∧ s3.size ≤ 9223372036854775807 ∧ s4.size ≤ 9223372036854775807 := by
  obtain ⟨_, rfl, hz1⟩ := ho.agg_inv rfl
  obtain ⟨_, _, rfl, k2, hz2⟩ := hz1.cons_inv
  obtain ⟨i0, rfl⟩ := k2.int_inv rfl
  obtain ⟨_, _, rfl, k3, hz3⟩ := hz2.cons_inv
  obtain ⟨xs1, rfl, ok1⟩ := k3.list_inv rfl
  obtain ⟨_, _, rfl, k4, hz4⟩ := hz3.cons_inv
  obtain ⟨xs2, rfl, ok2⟩ := k4.list_inv rfl
  obtain ⟨_, _, rfl, k5, hz5⟩ := hz4.cons_inv
  obtain ⟨s3, rfl⟩ := k5.str_inv rfl
  obtain ⟨_, _, rfl, k6, hz6⟩ := hz5.cons_inv
  obtain ⟨s4, rfl⟩ := k6.str_inv rfl
  obtain rfl := hz6.nil_inv
  have r7 := h.agg_inv
  obtain ⟨_, _, _, _, rfl, rfl, q8, r8⟩ := r7.cons_inv
  obtain ⟨rfl, rfl, bd0⟩ := q8.int_inv
  obtain ⟨_, _, _, _, rfl, rfl, q9, r9⟩ := r8.cons_inv
  obtain ⟨A1, n1, c1, rfl, ln1⟩ := q9.list_inv
  obtain ⟨_, _, _, _, rfl, rfl, q10, r10⟩ := r9.cons_inv
  obtain ⟨A2, n2, c2, rfl, ln2⟩ := q10.list_inv
  obtain ⟨_, _, _, _, rfl, rfl, q11, r11⟩ := r10.cons_inv
  obtain ⟨rfl, rfl, bd3⟩ := q11.str_inv
  obtain ⟨_, _, _, _, rfl, rfl, q12, r12⟩ := r11.cons_inv
  obtain ⟨rfl, rfl, bd4⟩ := q12.str_inv
  obtain ⟨rfl, rfl⟩ := r12.nil_inv
  exact ⟨i0, xs1, A1, n1, c1, _, xs2, A2, n2, c2, _, s3, s4, rfl, rfl, by simp, bd0, ok1, q9, ln1, ok2, q10, ln2, bd3, bd4⟩
theorem wd_Type {x : V} (ho : Ok x tType) : V.width x = 5 := by
  obtain ⟨_, rfl, hz1⟩ := ho.agg_inv rfl
  obtain ⟨_, _, rfl, k2, hz2⟩ := hz1.cons_inv
  obtain ⟨i0, rfl⟩ := k2.int_inv rfl
  obtain ⟨_, _, rfl, k3, hz3⟩ := hz2.cons_inv
  obtain ⟨xs1, rfl, ok1⟩ := k3.list_inv rfl
  obtain ⟨_, _, rfl, k4, hz4⟩ := hz3.cons_inv
  obtain ⟨xs2, rfl, ok2⟩ := k4.list_inv rfl
  obtain ⟨_, _, rfl, k5, hz5⟩ := hz4.cons_inv
  obtain ⟨s3, rfl⟩ := k5.str_inv rfl
  obtain ⟨_, _, rfl, k6, hz6⟩ := hz5.cons_inv
  obtain ⟨s4, rfl⟩ := k6.str_inv rfl
  obtain rfl := hz6.nil_inv
  simp only [V.width, V.widths]

theorem cells_Type {w : World} {i0 : Int} {xs1 : List V} {xs2 : List V} {s3 : ByteArray} {s4 : ByteArray} {cs : List Value} {F : List Nat} (h : Rep w (.agg [.int i0, .list xs1, .list xs2, .str s3, .str s4]) cs F) : ∃ (A1 : Option Addr) (n1 c1 : Nat) (F1 : List Nat) (A2 : Option Addr) (n2 c2 : Nat) (F2 : List Nat), cs = [.int .i64 i0, .slice A1 n1 c1, .slice A2 n2 c2, .string s3, .string s4] := by
  have r1 := h.agg_inv
  obtain ⟨_, _, _, _, rfl, rfl, q2, r2⟩ := r1.cons_inv
  obtain ⟨rfl, rfl, _⟩ := q2.int_inv
  obtain ⟨_, _, _, _, rfl, rfl, q3, r3⟩ := r2.cons_inv
  obtain ⟨A1, n1, c1, rfl, _⟩ := q3.list_inv
  obtain ⟨_, _, _, _, rfl, rfl, q4, r4⟩ := r3.cons_inv
  obtain ⟨A2, n2, c2, rfl, _⟩ := q4.list_inv
  obtain ⟨_, _, _, _, rfl, rfl, q5, r5⟩ := r4.cons_inv
  obtain ⟨rfl, rfl, _⟩ := q5.str_inv
  obtain ⟨_, _, _, _, rfl, rfl, q6, r6⟩ := r5.cons_inv
  obtain ⟨rfl, rfl, _⟩ := q6.str_inv
  obtain ⟨rfl, rfl⟩ := r6.nil_inv
  exact ⟨A1, n1, c1, [], A2, n2, c2, [], rfl⟩

theorem cellr_Type {w : World} {i0 : Int} {xs1 : List V} {xs2 : List V} {s3 : ByteArray} {s4 : ByteArray} {cs : List Value} {F : List Nat} (h : Rep w (.agg [.int i0, .list xs1, .list xs2, .str s3, .str s4]) cs F) : ∃ (A1 : Option Addr) (n1 c1 : Nat) (F1 : List Nat) (A2 : Option Addr) (n2 c2 : Nat) (F2 : List Nat), cs = [.int .i64 i0, .slice A1 n1 c1, .slice A2 n2 c2, .string s3, .string s4] ∧ Rep w (.list xs1) [.slice A1 n1 c1] F1 ∧ (n1 = xs1.length ∧ n1 ≤ c1 ∧ c1 ≤ 9223372036854775807) ∧ Rep w (.list xs2) [.slice A2 n2 c2] F2 ∧ (n2 = xs2.length ∧ n2 ≤ c2 ∧ c2 ≤ 9223372036854775807) := by
  have r1 := h.agg_inv
  obtain ⟨_, _, _, _, rfl, rfl, q2, r2⟩ := r1.cons_inv
  obtain ⟨rfl, rfl, _⟩ := q2.int_inv
  obtain ⟨_, _, _, _, rfl, rfl, q3, r3⟩ := r2.cons_inv
  obtain ⟨A1, n1, c1, rfl, l1⟩ := q3.list_inv
  obtain ⟨_, _, _, _, rfl, rfl, q4, r4⟩ := r3.cons_inv
  obtain ⟨A2, n2, c2, rfl, l2⟩ := q4.list_inv
  obtain ⟨_, _, _, _, rfl, rfl, q5, r5⟩ := r4.cons_inv
  obtain ⟨rfl, rfl, _⟩ := q5.str_inv
  obtain ⟨_, _, _, _, rfl, rfl, q6, r6⟩ := r5.cons_inv
  obtain ⟨rfl, rfl, _⟩ := q6.str_inv
  obtain ⟨rfl, rfl⟩ := r6.nil_inv
  exact ⟨A1, n1, c1, _, A2, n2, c2, _, rfl, q3, l1, q4, l2⟩

theorem open_Test {w : World} {x : V} {cs : List Value} {F : List Nat} (ho : Ok x tTest) (h : Rep w x cs F) :
    ∃ (s0 : ByteArray) (s1 : ByteArray), x = .agg [.str s0, .str s1] ∧ cs = [.string s0, .string s1] ∧ F = [] ∧ s0.size ≤ 9223372036854775807 ∧ s1.size ≤ 9223372036854775807 := by
  obtain ⟨_, rfl, hz1⟩ := ho.agg_inv rfl
  obtain ⟨_, _, rfl, k2, hz2⟩ := hz1.cons_inv
  obtain ⟨s0, rfl⟩ := k2.str_inv rfl
  obtain ⟨_, _, rfl, k3, hz3⟩ := hz2.cons_inv
  obtain ⟨s1, rfl⟩ := k3.str_inv rfl
  obtain rfl := hz3.nil_inv
  have r4 := h.agg_inv
  obtain ⟨_, _, _, _, rfl, rfl, q5, r5⟩ := r4.cons_inv
  obtain ⟨rfl, rfl, bd0⟩ := q5.str_inv
  obtain ⟨_, _, _, _, rfl, rfl, q6, r6⟩ := r5.cons_inv
  obtain ⟨rfl, rfl, bd1⟩ := q6.str_inv
  obtain ⟨rfl, rfl⟩ := r6.nil_inv
  exact ⟨s0, s1, rfl, rfl, by simp, bd0, bd1⟩
theorem wd_Test {x : V} (ho : Ok x tTest) : V.width x = 2 := by
  obtain ⟨_, rfl, hz1⟩ := ho.agg_inv rfl
  obtain ⟨_, _, rfl, k2, hz2⟩ := hz1.cons_inv
  obtain ⟨s0, rfl⟩ := k2.str_inv rfl
  obtain ⟨_, _, rfl, k3, hz3⟩ := hz2.cons_inv
  obtain ⟨s1, rfl⟩ := k3.str_inv rfl
  obtain rfl := hz3.nil_inv
  simp only [V.width, V.widths]

theorem cells_Test {w : World} {s0 : ByteArray} {s1 : ByteArray} {cs : List Value} {F : List Nat} (h : Rep w (.agg [.str s0, .str s1]) cs F) : cs = [.string s0, .string s1] := by
  have r1 := h.agg_inv
  obtain ⟨_, _, _, _, rfl, rfl, q2, r2⟩ := r1.cons_inv
  obtain ⟨rfl, rfl, _⟩ := q2.str_inv
  obtain ⟨_, _, _, _, rfl, rfl, q3, r3⟩ := r2.cons_inv
  obtain ⟨rfl, rfl, _⟩ := q3.str_inv
  obtain ⟨rfl, rfl⟩ := r3.nil_inv
  rfl

theorem cellr_Test {w : World} {s0 : ByteArray} {s1 : ByteArray} {cs : List Value} {F : List Nat} (h : Rep w (.agg [.str s0, .str s1]) cs F) : cs = [.string s0, .string s1] := by
  have r1 := h.agg_inv
  obtain ⟨_, _, _, _, rfl, rfl, q2, r2⟩ := r1.cons_inv
  obtain ⟨rfl, rfl, _⟩ := q2.str_inv
  obtain ⟨_, _, _, _, rfl, rfl, q3, r3⟩ := r2.cons_inv
  obtain ⟨rfl, rfl, _⟩ := q3.str_inv
  obtain ⟨rfl, rfl⟩ := r3.nil_inv
  rfl

theorem open_Step {w : World} {x : V} {cs : List Value} {F : List Nat} (ho : Ok x tStep) (h : Rep w x cs F) :
    ∃ (s0 : ByteArray) (xs1 : List V) (A1 : Option Addr) (n1 c1 : Nat) (F1 : List Nat), x = .agg [.str s0, .list xs1] ∧ cs = [.string s0, .slice A1 n1 c1] ∧ F = F1 ∧ s0.size ≤ 9223372036854775807 ∧ Oks xs1 tTest ∧ Rep w (.list xs1) [.slice A1 n1 c1] F1 ∧ (n1 = xs1.length ∧ n1 ≤ c1 ∧ c1 ≤ 9223372036854775807) := by
  obtain ⟨_, rfl, hz1⟩ := ho.agg_inv rfl
  obtain ⟨_, _, rfl, k2, hz2⟩ := hz1.cons_inv
  obtain ⟨s0, rfl⟩ := k2.str_inv rfl
  obtain ⟨_, _, rfl, k3, hz3⟩ := hz2.cons_inv
  obtain ⟨xs1, rfl, ok1⟩ := k3.list_inv rfl
  obtain rfl := hz3.nil_inv
  have r4 := h.agg_inv
  obtain ⟨_, _, _, _, rfl, rfl, q5, r5⟩ := r4.cons_inv
  obtain ⟨rfl, rfl, bd0⟩ := q5.str_inv
  obtain ⟨_, _, _, _, rfl, rfl, q6, r6⟩ := r5.cons_inv
  obtain ⟨A1, n1, c1, rfl, ln1⟩ := q6.list_inv
  obtain ⟨rfl, rfl⟩ := r6.nil_inv
  exact ⟨s0, xs1, A1, n1, c1, _, rfl, rfl, by simp, bd0, ok1, q6, ln1⟩
theorem wd_Step {x : V} (ho : Ok x tStep) : V.width x = 2 := by
  obtain ⟨_, rfl, hz1⟩ := ho.agg_inv rfl
  obtain ⟨_, _, rfl, k2, hz2⟩ := hz1.cons_inv
  obtain ⟨s0, rfl⟩ := k2.str_inv rfl
  obtain ⟨_, _, rfl, k3, hz3⟩ := hz2.cons_inv
  obtain ⟨xs1, rfl, ok1⟩ := k3.list_inv rfl
  obtain rfl := hz3.nil_inv
  simp only [V.width, V.widths]

theorem cells_Step {w : World} {s0 : ByteArray} {xs1 : List V} {cs : List Value} {F : List Nat} (h : Rep w (.agg [.str s0, .list xs1]) cs F) : ∃ (A1 : Option Addr) (n1 c1 : Nat) (F1 : List Nat), cs = [.string s0, .slice A1 n1 c1] := by
  have r1 := h.agg_inv
  obtain ⟨_, _, _, _, rfl, rfl, q2, r2⟩ := r1.cons_inv
  obtain ⟨rfl, rfl, _⟩ := q2.str_inv
  obtain ⟨_, _, _, _, rfl, rfl, q3, r3⟩ := r2.cons_inv
  obtain ⟨A1, n1, c1, rfl, _⟩ := q3.list_inv
  obtain ⟨rfl, rfl⟩ := r3.nil_inv
  exact ⟨A1, n1, c1, [], rfl⟩

theorem cellr_Step {w : World} {s0 : ByteArray} {xs1 : List V} {cs : List Value} {F : List Nat} (h : Rep w (.agg [.str s0, .list xs1]) cs F) : ∃ (A1 : Option Addr) (n1 c1 : Nat) (F1 : List Nat), cs = [.string s0, .slice A1 n1 c1] ∧ Rep w (.list xs1) [.slice A1 n1 c1] F1 ∧ (n1 = xs1.length ∧ n1 ≤ c1 ∧ c1 ≤ 9223372036854775807) := by
  have r1 := h.agg_inv
  obtain ⟨_, _, _, _, rfl, rfl, q2, r2⟩ := r1.cons_inv
  obtain ⟨rfl, rfl, _⟩ := q2.str_inv
  obtain ⟨_, _, _, _, rfl, rfl, q3, r3⟩ := r2.cons_inv
  obtain ⟨A1, n1, c1, rfl, l1⟩ := q3.list_inv
  obtain ⟨rfl, rfl⟩ := r3.nil_inv
  exact ⟨A1, n1, c1, _, rfl, q3, l1⟩

theorem open_Path {w : World} {x : V} {cs : List Value} {F : List Nat} (ho : Ok x tPath) (h : Rep w x cs F) :
    ∃ (b0 : Bool) (i1 : Int) (xs2 : List V) (A2 : Option Addr) (n2 c2 : Nat) (F2 : List Nat), x = .agg [.bool b0, .int i1, .list xs2] ∧ cs = [.bool b0, .int .i64 i1, .slice A2 n2 c2] ∧ F = F2 ∧ (-9223372036854775808 ≤ i1 ∧ i1 ≤ 9223372036854775807) ∧ Oks xs2 tStep ∧ Rep w (.list xs2) [.slice A2 n2 c2] F2 ∧ (n2 = xs2.length ∧ n2 ≤ c2 ∧ c2 ≤ 9223372036854775807) := by
  obtain ⟨_, rfl, hz1⟩ := ho.agg_inv rfl
  obtain ⟨_, _, rfl, k2, hz2⟩ := hz1.cons_inv
  obtain ⟨b0, rfl⟩ := k2.bool_inv rfl
  obtain ⟨_, _, rfl, k3, hz3⟩ := hz2.cons_inv
  obtain ⟨i1, rfl⟩ := k3.int_inv rfl
  obtain ⟨_, _, rfl, k4, hz4⟩ := hz3.cons_inv
  obtain ⟨xs2, rfl, ok2⟩ := k4.list_inv rfl
  obtain rfl := hz4.nil_inv
  have r5 := h.agg_inv
  obtain ⟨_, _, _, _, rfl, rfl, q6, r6⟩ := r5.cons_inv
  obtain ⟨rfl, rfl⟩ := q6.bool_inv
  obtain ⟨_, _, _, _, rfl, rfl, q7, r7⟩ := r6.cons_inv
  obtain ⟨rfl, rfl, bd1⟩ := q7.int_inv
  obtain ⟨_, _, _, _, rfl, rfl, q8, r8⟩ := r7.cons_inv
  obtain ⟨A2, n2, c2, rfl, ln2⟩ := q8.list_inv
  obtain ⟨rfl, rfl⟩ := r8.nil_inv
  exact ⟨b0, i1, xs2, A2, n2, c2, _, rfl, rfl, by simp, bd1, ok2, q8, ln2⟩
theorem wd_Path {x : V} (ho : Ok x tPath) : V.width x = 3 := by
  obtain ⟨_, rfl, hz1⟩ := ho.agg_inv rfl
  obtain ⟨_, _, rfl, k2, hz2⟩ := hz1.cons_inv
  obtain ⟨b0, rfl⟩ := k2.bool_inv rfl
  obtain ⟨_, _, rfl, k3, hz3⟩ := hz2.cons_inv
  obtain ⟨i1, rfl⟩ := k3.int_inv rfl
  obtain ⟨_, _, rfl, k4, hz4⟩ := hz3.cons_inv
  obtain ⟨xs2, rfl, ok2⟩ := k4.list_inv rfl
  obtain rfl := hz4.nil_inv
  simp only [V.width, V.widths]

theorem cells_Path {w : World} {b0 : Bool} {i1 : Int} {xs2 : List V} {cs : List Value} {F : List Nat} (h : Rep w (.agg [.bool b0, .int i1, .list xs2]) cs F) : ∃ (A2 : Option Addr) (n2 c2 : Nat) (F2 : List Nat), cs = [.bool b0, .int .i64 i1, .slice A2 n2 c2] := by
  have r1 := h.agg_inv
  obtain ⟨_, _, _, _, rfl, rfl, q2, r2⟩ := r1.cons_inv
  obtain ⟨rfl, rfl⟩ := q2.bool_inv
  obtain ⟨_, _, _, _, rfl, rfl, q3, r3⟩ := r2.cons_inv
  obtain ⟨rfl, rfl, _⟩ := q3.int_inv
  obtain ⟨_, _, _, _, rfl, rfl, q4, r4⟩ := r3.cons_inv
  obtain ⟨A2, n2, c2, rfl, _⟩ := q4.list_inv
  obtain ⟨rfl, rfl⟩ := r4.nil_inv
  exact ⟨A2, n2, c2, [], rfl⟩

theorem cellr_Path {w : World} {b0 : Bool} {i1 : Int} {xs2 : List V} {cs : List Value} {F : List Nat} (h : Rep w (.agg [.bool b0, .int i1, .list xs2]) cs F) : ∃ (A2 : Option Addr) (n2 c2 : Nat) (F2 : List Nat), cs = [.bool b0, .int .i64 i1, .slice A2 n2 c2] ∧ Rep w (.list xs2) [.slice A2 n2 c2] F2 ∧ (n2 = xs2.length ∧ n2 ≤ c2 ∧ c2 ≤ 9223372036854775807) := by
  have r1 := h.agg_inv
  obtain ⟨_, _, _, _, rfl, rfl, q2, r2⟩ := r1.cons_inv
  obtain ⟨rfl, rfl⟩ := q2.bool_inv
  obtain ⟨_, _, _, _, rfl, rfl, q3, r3⟩ := r2.cons_inv
  obtain ⟨rfl, rfl, _⟩ := q3.int_inv
  obtain ⟨_, _, _, _, rfl, rfl, q4, r4⟩ := r3.cons_inv
  obtain ⟨A2, n2, c2, rfl, l2⟩ := q4.list_inv
  obtain ⟨rfl, rfl⟩ := r4.nil_inv
  exact ⟨A2, n2, c2, _, rfl, q4, l2⟩

theorem open_Expr {w : World} {x : V} {cs : List Value} {F : List Nat} (ho : Ok x tExpr) (h : Rep w x cs F) :
    ∃ (i0 : Int) (i1 : Int) (s2 : ByteArray) (b3 : Bool) (i4 : Int) (xs5 : List V) (A5 : Option Addr) (n5 c5 : Nat) (F5 : List Nat) (xs6 : List V) (A6 : Option Addr) (n6 c6 : Nat) (F6 : List Nat), x = .agg [.int i0, .int i1, .str s2, .agg [.bool b3, .int i4, .list xs5], .list xs6] ∧ cs = [.int .i64 i0, .int .i64 i1, .string s2, .bool b3, .int .i64 i4, .slice A5 n5 c5, .slice A6 n6 c6] ∧ F = F5 ++ F6 ∧ (-9223372036854775808 ≤ i0 ∧ i0 ≤ 9223372036854775807) ∧ (-9223372036854775808 ≤ i1 ∧ i1 ≤ 9223372036854775807) ∧ s2.size ≤ 9223372036854775807 ∧ (-9223372036854775808 ≤ i4 ∧ i4 ≤ 9223372036854775807) ∧ Oks xs5 tStep ∧ Rep w (.list xs5) [.slice A5 n5 c5] F5 ∧ (n5 = xs5.length ∧ n5 ≤ c5 ∧ c5 ≤ 9223372036854775807) ∧ Oks xs6 tExpr ∧ Rep w (.list xs6) [.slice A6 n6 c6] F6 ∧ (n6 = xs6.length ∧ n6 ≤ c6 ∧ c6 ≤ 9223372036854775807) := by
  obtain ⟨_, rfl, hz1⟩ := ho.agg_inv rfl
  obtain ⟨_, _, rfl, k2, hz2⟩ := hz1.cons_inv
  obtain ⟨i0, rfl⟩ := k2.int_inv rfl
  obtain ⟨_, _, rfl, k3, hz3⟩ := hz2.cons_inv
  obtain ⟨i1, rfl⟩ := k3.int_inv rfl
  obtain ⟨_, _, rfl, k4, hz4⟩ := hz3.cons_inv
  obtain ⟨s2, rfl⟩ := k4.str_inv rfl
  obtain ⟨_, _, rfl, k5, hz5⟩ := hz4.cons_inv
  obtain ⟨_, rfl, hz6⟩ := k5.agg_inv rfl
  obtain ⟨_, _, rfl, k7, hz7⟩ := hz6.cons_inv
  obtain ⟨b3, rfl⟩ := k7.bool_inv rfl
  obtain ⟨_, _, rfl, k8, hz8⟩ := hz7.cons_inv
  obtain ⟨i4, rfl⟩ := k8.int_inv rfl
  obtain ⟨_, _, rfl, k9, hz9⟩ := hz8.cons_inv
  obtain ⟨xs5, rfl, ok5⟩ := k9.list_inv rfl
  obtain rfl := hz9.nil_inv
  obtain ⟨_, _, rfl, k10, hz10⟩ := hz5.cons_inv
  obtain ⟨xs6, rfl, ok6⟩ := k10.list_inv rfl
  obtain rfl := hz10.nil_inv
  have r11 := h.agg_inv
  obtain ⟨_, _, _, _, rfl, rfl, q12, r12⟩ := r11.cons_inv
  obtain ⟨rfl, rfl, bd0⟩ := q12.int_inv
  obtain ⟨_, _, _, _, rfl, rfl, q13, r13⟩ := r12.cons_inv
  obtain ⟨rfl, rfl, bd1⟩ := q13.int_inv
  obtain ⟨_, _, _, _, rfl, rfl, q14, r14⟩ := r13.cons_inv
  obtain ⟨rfl, rfl, bd2⟩ := q14.str_inv
  obtain ⟨_, _, _, _, rfl, rfl, q15, r15⟩ := r14.cons_inv
  have r16 := q15.agg_inv
  obtain ⟨_, _, _, _, rfl, rfl, q17, r17⟩ := r16.cons_inv
  obtain ⟨rfl, rfl⟩ := q17.bool_inv
  obtain ⟨_, _, _, _, rfl, rfl, q18, r18⟩ := r17.cons_inv
  obtain ⟨rfl, rfl, bd4⟩ := q18.int_inv
  obtain ⟨_, _, _, _, rfl, rfl, q19, r19⟩ := r18.cons_inv
  obtain ⟨A5, n5, c5, rfl, ln5⟩ := q19.list_inv
  obtain ⟨rfl, rfl⟩ := r19.nil_inv
  obtain ⟨_, _, _, _, rfl, rfl, q20, r20⟩ := r15.cons_inv
  obtain ⟨A6, n6, c6, rfl, ln6⟩ := q20.list_inv
  obtain ⟨rfl, rfl⟩ := r20.nil_inv
  exact ⟨i0, i1, s2, b3, i4, xs5, A5, n5, c5, _, xs6, A6, n6, c6, _, rfl, rfl, by simp, bd0, bd1, bd2, bd4, ok5, q19, ln5, ok6, q20, ln6⟩
theorem wd_Expr {x : V} (ho : Ok x tExpr) : V.width x = 7 := by
  obtain ⟨_, rfl, hz1⟩ := ho.agg_inv rfl
  obtain ⟨_, _, rfl, k2, hz2⟩ := hz1.cons_inv
  obtain ⟨i0, rfl⟩ := k2.int_inv rfl
  obtain ⟨_, _, rfl, k3, hz3⟩ := hz2.cons_inv
  obtain ⟨i1, rfl⟩ := k3.int_inv rfl
  obtain ⟨_, _, rfl, k4, hz4⟩ := hz3.cons_inv
  obtain ⟨s2, rfl⟩ := k4.str_inv rfl
  obtain ⟨_, _, rfl, k5, hz5⟩ := hz4.cons_inv
  obtain ⟨_, rfl, hz6⟩ := k5.agg_inv rfl
  obtain ⟨_, _, rfl, k7, hz7⟩ := hz6.cons_inv
  obtain ⟨b3, rfl⟩ := k7.bool_inv rfl
  obtain ⟨_, _, rfl, k8, hz8⟩ := hz7.cons_inv
  obtain ⟨i4, rfl⟩ := k8.int_inv rfl
  obtain ⟨_, _, rfl, k9, hz9⟩ := hz8.cons_inv
  obtain ⟨xs5, rfl, ok5⟩ := k9.list_inv rfl
  obtain rfl := hz9.nil_inv
  obtain ⟨_, _, rfl, k10, hz10⟩ := hz5.cons_inv
  obtain ⟨xs6, rfl, ok6⟩ := k10.list_inv rfl
  obtain rfl := hz10.nil_inv
  simp only [V.width, V.widths]

theorem cells_Expr {w : World} {i0 : Int} {i1 : Int} {s2 : ByteArray} {b3 : Bool} {i4 : Int} {xs5 : List V} {xs6 : List V} {cs : List Value} {F : List Nat} (h : Rep w (.agg [.int i0, .int i1, .str s2, .agg [.bool b3, .int i4, .list xs5], .list xs6]) cs F) : ∃ (A5 : Option Addr) (n5 c5 : Nat) (F5 : List Nat) (A6 : Option Addr) (n6 c6 : Nat) (F6 : List Nat), cs = [.int .i64 i0, .int .i64 i1, .string s2, .bool b3, .int .i64 i4, .slice A5 n5 c5, .slice A6 n6 c6] := by
  have r1 := h.agg_inv
  obtain ⟨_, _, _, _, rfl, rfl, q2, r2⟩ := r1.cons_inv
  obtain ⟨rfl, rfl, _⟩ := q2.int_inv
  obtain ⟨_, _, _, _, rfl, rfl, q3, r3⟩ := r2.cons_inv
  obtain ⟨rfl, rfl, _⟩ := q3.int_inv
  obtain ⟨_, _, _, _, rfl, rfl, q4, r4⟩ := r3.cons_inv
  obtain ⟨rfl, rfl, _⟩ := q4.str_inv
  obtain ⟨_, _, _, _, rfl, rfl, q5, r5⟩ := r4.cons_inv
  have r6 := q5.agg_inv
  obtain ⟨_, _, _, _, rfl, rfl, q7, r7⟩ := r6.cons_inv
  obtain ⟨rfl, rfl⟩ := q7.bool_inv
  obtain ⟨_, _, _, _, rfl, rfl, q8, r8⟩ := r7.cons_inv
  obtain ⟨rfl, rfl, _⟩ := q8.int_inv
  obtain ⟨_, _, _, _, rfl, rfl, q9, r9⟩ := r8.cons_inv
  obtain ⟨A5, n5, c5, rfl, _⟩ := q9.list_inv
  obtain ⟨rfl, rfl⟩ := r9.nil_inv
  obtain ⟨_, _, _, _, rfl, rfl, q10, r10⟩ := r5.cons_inv
  obtain ⟨A6, n6, c6, rfl, _⟩ := q10.list_inv
  obtain ⟨rfl, rfl⟩ := r10.nil_inv
  exact ⟨A5, n5, c5, [], A6, n6, c6, [], rfl⟩

theorem cellr_Expr {w : World} {i0 : Int} {i1 : Int} {s2 : ByteArray} {b3 : Bool} {i4 : Int} {xs5 : List V} {xs6 : List V} {cs : List Value} {F : List Nat} (h : Rep w (.agg [.int i0, .int i1, .str s2, .agg [.bool b3, .int i4, .list xs5], .list xs6]) cs F) : ∃ (A5 : Option Addr) (n5 c5 : Nat) (F5 : List Nat) (A6 : Option Addr) (n6 c6 : Nat) (F6 : List Nat), cs = [.int .i64 i0, .int .i64 i1, .string s2, .bool b3, .int .i64 i4, .slice A5 n5 c5, .slice A6 n6 c6] ∧ Rep w (.list xs5) [.slice A5 n5 c5] F5 ∧ (n5 = xs5.length ∧ n5 ≤ c5 ∧ c5 ≤ 9223372036854775807) ∧ Rep w (.list xs6) [.slice A6 n6 c6] F6 ∧ (n6 = xs6.length ∧ n6 ≤ c6 ∧ c6 ≤ 9223372036854775807) := by
  have r1 := h.agg_inv
  obtain ⟨_, _, _, _, rfl, rfl, q2, r2⟩ := r1.cons_inv
  obtain ⟨rfl, rfl, _⟩ := q2.int_inv
  obtain ⟨_, _, _, _, rfl, rfl, q3, r3⟩ := r2.cons_inv
  obtain ⟨rfl, rfl, _⟩ := q3.int_inv
  obtain ⟨_, _, _, _, rfl, rfl, q4, r4⟩ := r3.cons_inv
  obtain ⟨rfl, rfl, _⟩ := q4.str_inv
  obtain ⟨_, _, _, _, rfl, rfl, q5, r5⟩ := r4.cons_inv
  have r6 := q5.agg_inv
  obtain ⟨_, _, _, _, rfl, rfl, q7, r7⟩ := r6.cons_inv
  obtain ⟨rfl, rfl⟩ := q7.bool_inv
  obtain ⟨_, _, _, _, rfl, rfl, q8, r8⟩ := r7.cons_inv
  obtain ⟨rfl, rfl, _⟩ := q8.int_inv
  obtain ⟨_, _, _, _, rfl, rfl, q9, r9⟩ := r8.cons_inv
  obtain ⟨A5, n5, c5, rfl, l5⟩ := q9.list_inv
  obtain ⟨rfl, rfl⟩ := r9.nil_inv
  obtain ⟨_, _, _, _, rfl, rfl, q10, r10⟩ := r5.cons_inv
  obtain ⟨A6, n6, c6, rfl, l6⟩ := q10.list_inv
  obtain ⟨rfl, rfl⟩ := r10.nil_inv
  exact ⟨A5, n5, c5, _, A6, n6, c6, _, rfl, q9, l5, q10, l6⟩

theorem open_Schema {w : World} {x : V} {cs : List Value} {F : List Nat} (ho : Ok x tSchema) (h : Rep w x cs F) :
    ∃ (i0 : Int) (s1 : ByteArray) (i2 : Int) (xs3 : List V) (A3 : Option Addr) (n3 c3 : Nat) (F3 : List Nat) (xs4 : List V) (A4 : Option Addr) (n4 c4 : Nat) (F4 : List Nat) (s5 : ByteArray) (s6 : ByteArray) (xs7 : List V) (A7 : Option Addr) (n7 c7 : Nat) (F7 : List Nat) (xs8 : List V) (A8 : Option Addr) (n8 c8 : Nat) (F8 : List Nat) (s9 : ByteArray) (b10 : Bool) (b11 : Bool) (b12 : Bool) (b13 : Bool) (i14 : Int) (i15 : Int) (xs16 : List V) (A16 : Option Addr) (n16 c16 : Nat) (F16 : List Nat) (xs17 : List V) (A17 : Option Addr) (n17 c17 : Nat) (F17 : List Nat) (xs18 : List V) (A18 : Option Addr) (n18 c18 : Nat) (F18 : List Nat), x = .agg [.int i0, .str s1, .agg [.int i2, .list xs3, .list xs4, .str s5, .str s6], .list xs7, .list xs8, .str s9, .bool b10, .bool b11, .bool b12, .bool b13, .int i14, .int i15, .list xs16, .list xs17, .list xs18] ∧ cs = [.int .i64 i0, .string s1, .int .i64 i2, .slice A3 n3 c3, .slice A4 n4 c4, .string s5, .string s6, .slice A7 n7 c7, .slice A8 n8 c8, .string s9, .bool b10, .bool b11, .bool b12, .bool b13, .int .i64 i14, .int .i64 i15, .slice A16 n16 c16, .slice A17 n17 c17, .slice A18 n18 c18] ∧ F = F3 ++ F4 ++ F7 ++ F8 ++ F16 ++ F17 ++ F18 ∧ (-9223372036854775808 ≤ i0 ∧ i0 ≤ 9223372036854775807) ∧ s1.size ≤ 9223372036854775807 ∧ (-9223372036854775808 ≤ i2 ∧ i2 ≤ 9223372036854775807) ∧ Oks xs3 tRange ∧ Rep w (.list xs3) [.slice A3 n3 c3] F3 ∧ (n3 = xs3.length ∧ n3 ≤ c3 ∧ c3 ≤ 9223372036854775807) ∧ Oks xs4 tStr ∧ Rep w (.list xs4) [.slice A4 n4 c4] F4 ∧ (n4 = xs4.length ∧ n4 ≤ c4 ∧ c4 ≤ 9223372036854775807) ∧ s5.size ≤ 9223372036854775807 ∧ s6.size ≤ 9223372036854775807 ∧ Oks xs7 tStr ∧ Rep w (.list xs7) [.slice A7 n7 c7] F7 ∧ (n7 = xs7.length ∧ n7 ≤ c7 ∧ c7 ≤ 9223372036854775807) ∧ Oks xs8 tStr ∧ Rep w (.list xs8) [.slice A8 n8 c8] F8 ∧ (n8 = xs8.length ∧ n8 ≤ c8 ∧ c8 ≤ 9223372036854775807) ∧ s9.size ≤ 9223372036854775807 ∧ (-9223372036854775808 ≤ i14 ∧ i14 ≤ 9223372036854775807) ∧ (-9223372036854775808 ≤ i15 ∧ i15 ≤ 9223372036854775807) ∧ Oks xs16 tExpr ∧ Rep w (.list xs16) [.slice A16 n16 c16] F16 ∧ (n16 = xs16.length ∧ n16 ≤ c16 ∧ c16 ≤ 9223372036854775807) ∧ Oks xs17 tExpr ∧ Rep w (.list xs17) [.slice A17 n17 c17] F17 ∧ (n17 = xs17.length ∧ n17 ≤ c17 ∧ c17 ≤ 9223372036854775807) ∧ Oks xs18 tSchema ∧ Rep w (.list xs18) [.slice A18 n18 c18] F18 ∧ (n18 = xs18.length ∧ n18 ≤ c18 ∧ c18 ≤ 9223372036854775807) := by
  obtain ⟨_, rfl, hz1⟩ := ho.agg_inv rfl
  obtain ⟨_, _, rfl, k2, hz2⟩ := hz1.cons_inv
  obtain ⟨i0, rfl⟩ := k2.int_inv rfl
  obtain ⟨_, _, rfl, k3, hz3⟩ := hz2.cons_inv
  obtain ⟨s1, rfl⟩ := k3.str_inv rfl
  obtain ⟨_, _, rfl, k4, hz4⟩ := hz3.cons_inv
  obtain ⟨_, rfl, hz5⟩ := k4.agg_inv rfl
  obtain ⟨_, _, rfl, k6, hz6⟩ := hz5.cons_inv
  obtain ⟨i2, rfl⟩ := k6.int_inv rfl
  obtain ⟨_, _, rfl, k7, hz7⟩ := hz6.cons_inv
  obtain ⟨xs3, rfl, ok3⟩ := k7.list_inv rfl
  obtain ⟨_, _, rfl, k8, hz8⟩ := hz7.cons_inv
  obtain ⟨xs4, rfl, ok4⟩ := k8.list_inv rfl
  obtain ⟨_, _, rfl, k9, hz9⟩ := hz8.cons_inv
  obtain ⟨s5, rfl⟩ := k9.str_inv rfl
  obtain ⟨_, _, rfl, k10, hz10⟩ := hz9.cons_inv
  obtain ⟨s6, rfl⟩ := k10.str_inv rfl
  obtain rfl := hz10.nil_inv
  obtain ⟨_, _, rfl, k11, hz11⟩ := hz4.cons_inv
  obtain ⟨xs7, rfl, ok7⟩ := k11.list_inv rfl
  obtain ⟨_, _, rfl, k12, hz12⟩ := hz11.cons_inv
  obtain ⟨xs8, rfl, ok8⟩ := k12.list_inv rfl
  obtain ⟨_, _, rfl, k13, hz13⟩ := hz12.cons_inv
  obtain ⟨s9, rfl⟩ := k13.str_inv rfl
  obtain ⟨_, _, rfl, k14, hz14⟩ := hz13.cons_inv
  obtain ⟨b10, rfl⟩ := k14.bool_inv rfl
  obtain ⟨_, _, rfl, k15, hz15⟩ := hz14.cons_inv
  obtain ⟨b11, rfl⟩ := k15.bool_inv rfl
  obtain ⟨_, _, rfl, k16, hz16⟩ := hz15.cons_inv
  obtain ⟨b12, rfl⟩ := k16.bool_inv rfl
  obtain ⟨_, _, rfl, k17, hz17⟩ := hz16.cons_inv
  obtain ⟨b13, rfl⟩ := k17.bool_inv rfl
  obtain ⟨_, _, rfl, k18, hz18⟩ := hz17.cons_inv
  obtain ⟨i14, rfl⟩ := k18.int_inv rfl
  obtain ⟨_, _, rfl, k19, hz19⟩ := hz18.cons_inv
  obtain ⟨i15, rfl⟩ := k19.int_inv rfl
  obtain ⟨_, _, rfl, k20, hz20⟩ := hz19.cons_inv
  obtain ⟨xs16, rfl, ok16⟩ := k20.list_inv rfl
  obtain ⟨_, _, rfl, k21, hz21⟩ := hz20.cons_inv
  obtain ⟨xs17, rfl, ok17⟩ := k21.list_inv rfl
  obtain ⟨_, _, rfl, k22, hz22⟩ := hz21.cons_inv
  obtain ⟨xs18, rfl, ok18⟩ := k22.list_inv rfl
  obtain rfl := hz22.nil_inv
  have r23 := h.agg_inv
  obtain ⟨_, _, _, _, rfl, rfl, q24, r24⟩ := r23.cons_inv
  obtain ⟨rfl, rfl, bd0⟩ := q24.int_inv
  obtain ⟨_, _, _, _, rfl, rfl, q25, r25⟩ := r24.cons_inv
  obtain ⟨rfl, rfl, bd1⟩ := q25.str_inv
  obtain ⟨_, _, _, _, rfl, rfl, q26, r26⟩ := r25.cons_inv
  have r27 := q26.agg_inv
  obtain ⟨_, _, _, _, rfl, rfl, q28, r28⟩ := r27.cons_inv
  obtain ⟨rfl, rfl, bd2⟩ := q28.int_inv
  obtain ⟨_, _, _, _, rfl, rfl, q29, r29⟩ := r28.cons_inv
  obtain ⟨A3, n3, c3, rfl, ln3⟩ := q29.list_inv
  obtain ⟨_, _, _, _, rfl, rfl, q30, r30⟩ := r29.cons_inv
  obtain ⟨A4, n4, c4, rfl, ln4⟩ := q30.list_inv
  obtain ⟨_, _, _, _, rfl, rfl, q31, r31⟩ := r30.cons_inv
  obtain ⟨rfl, rfl, bd5⟩ := q31.str_inv
  obtain ⟨_, _, _, _, rfl, rfl, q32, r32⟩ := r31.cons_inv
  obtain ⟨rfl, rfl, bd6⟩ := q32.str_inv
  obtain ⟨rfl, rfl⟩ := r32.nil_inv
  obtain ⟨_, _, _, _, rfl, rfl, q33, r33⟩ := r26.cons_inv
  obtain ⟨A7, n7, c7, rfl, ln7⟩ := q33.list_inv
  obtain ⟨_, _, _, _, rfl, rfl, q34, r34⟩ := r33.cons_inv
  obtain ⟨A8, n8, c8, rfl, ln8⟩ := q34.list_inv
  obtain ⟨_, _, _, _, rfl, rfl, q35, r35⟩ := r34.cons_inv
  obtain ⟨rfl, rfl, bd9⟩ := q35.str_inv
  obtain ⟨_, _, _, _, rfl, rfl, q36, r36⟩ := r35.cons_inv
  obtain ⟨rfl, rfl⟩ := q36.bool_inv
  obtain ⟨_, _, _, _, rfl, rfl, q37, r37⟩ := r36.cons_inv
  obtain ⟨rfl, rfl⟩ := q37.bool_inv
  obtain ⟨_, _, _, _, rfl, rfl, q38, r38⟩ := r37.cons_inv
  obtain ⟨rfl, rfl⟩ := q38.bool_inv
  obtain ⟨_, _, _, _, rfl, rfl, q39, r39⟩ := r38.cons_inv
  obtain ⟨rfl, rfl⟩ := q39.bool_inv
  obtain ⟨_, _, _, _, rfl, rfl, q40, r40⟩ := r39.cons_inv
  obtain ⟨rfl, rfl, bd14⟩ := q40.int_inv
  obtain ⟨_, _, _, _, rfl, rfl, q41, r41⟩ := r40.cons_inv
  obtain ⟨rfl, rfl, bd15⟩ := q41.int_inv
  obtain ⟨_, _, _, _, rfl, rfl, q42, r42⟩ := r41.cons_inv
  obtain ⟨A16, n16, c16, rfl, ln16⟩ := q42.list_inv
  obtain ⟨_, _, _, _, rfl, rfl, q43, r43⟩ := r42.cons_inv
  obtain ⟨A17, n17, c17, rfl, ln17⟩ := q43.list_inv
  obtain ⟨_, _, _, _, rfl, rfl, q44, r44⟩ := r43.cons_inv
  obtain ⟨A18, n18, c18, rfl, ln18⟩ := q44.list_inv
  obtain ⟨rfl, rfl⟩ := r44.nil_inv
  exact ⟨i0, s1, i2, xs3, A3, n3, c3, _, xs4, A4, n4, c4, _, s5, s6, xs7, A7, n7, c7, _, xs8, A8, n8, c8, _, s9, b10, b11, b12, b13, i14, i15, xs16, A16, n16, c16, _, xs17, A17, n17, c17, _, xs18, A18, n18, c18, _, rfl, rfl, by simp, bd0, bd1, bd2, ok3, q29, ln3, ok4, q30, ln4, bd5, bd6, ok7, q33, ln7, ok8, q34, ln8, bd9, bd14, bd15, ok16, q42, ln16, ok17, q43, ln17, ok18, q44, ln18⟩
theorem wd_Schema {x : V} (ho : Ok x tSchema) : V.width x = 19 := by
  obtain ⟨_, rfl, hz1⟩ := ho.agg_inv rfl
  obtain ⟨_, _, rfl, k2, hz2⟩ := hz1.cons_inv
  obtain ⟨i0, rfl⟩ := k2.int_inv rfl
  obtain ⟨_, _, rfl, k3, hz3⟩ := hz2.cons_inv
  obtain ⟨s1, rfl⟩ := k3.str_inv rfl
  obtain ⟨_, _, rfl, k4, hz4⟩ := hz3.cons_inv
  obtain ⟨_, rfl, hz5⟩ := k4.agg_inv rfl
  obtain ⟨_, _, rfl, k6, hz6⟩ := hz5.cons_inv
  obtain ⟨i2, rfl⟩ := k6.int_inv rfl
  obtain ⟨_, _, rfl, k7, hz7⟩ := hz6.cons_inv
  obtain ⟨xs3, rfl, ok3⟩ := k7.list_inv rfl
  obtain ⟨_, _, rfl, k8, hz8⟩ := hz7.cons_inv
  obtain ⟨xs4, rfl, ok4⟩ := k8.list_inv rfl
  obtain ⟨_, _, rfl, k9, hz9⟩ := hz8.cons_inv
  obtain ⟨s5, rfl⟩ := k9.str_inv rfl
  obtain ⟨_, _, rfl, k10, hz10⟩ := hz9.cons_inv
  obtain ⟨s6, rfl⟩ := k10.str_inv rfl
  obtain rfl := hz10.nil_inv
  obtain ⟨_, _, rfl, k11, hz11⟩ := hz4.cons_inv
  obtain ⟨xs7, rfl, ok7⟩ := k11.list_inv rfl
  obtain ⟨_, _, rfl, k12, hz12⟩ := hz11.cons_inv
  obtain ⟨xs8, rfl, ok8⟩ := k12.list_inv rfl
  obtain ⟨_, _, rfl, k13, hz13⟩ := hz12.cons_inv
  obtain ⟨s9, rfl⟩ := k13.str_inv rfl
  obtain ⟨_, _, rfl, k14, hz14⟩ := hz13.cons_inv
  obtain ⟨b10, rfl⟩ := k14.bool_inv rfl
  obtain ⟨_, _, rfl, k15, hz15⟩ := hz14.cons_inv
  obtain ⟨b11, rfl⟩ := k15.bool_inv rfl
  obtain ⟨_, _, rfl, k16, hz16⟩ := hz15.cons_inv
  obtain ⟨b12, rfl⟩ := k16.bool_inv rfl
  obtain ⟨_, _, rfl, k17, hz17⟩ := hz16.cons_inv
  obtain ⟨b13, rfl⟩ := k17.bool_inv rfl
  obtain ⟨_, _, rfl, k18, hz18⟩ := hz17.cons_inv
  obtain ⟨i14, rfl⟩ := k18.int_inv rfl
  obtain ⟨_, _, rfl, k19, hz19⟩ := hz18.cons_inv
  obtain ⟨i15, rfl⟩ := k19.int_inv rfl
  obtain ⟨_, _, rfl, k20, hz20⟩ := hz19.cons_inv
  obtain ⟨xs16, rfl, ok16⟩ := k20.list_inv rfl
  obtain ⟨_, _, rfl, k21, hz21⟩ := hz20.cons_inv
  obtain ⟨xs17, rfl, ok17⟩ := k21.list_inv rfl
  obtain ⟨_, _, rfl, k22, hz22⟩ := hz21.cons_inv
  obtain ⟨xs18, rfl, ok18⟩ := k22.list_inv rfl
  obtain rfl := hz22.nil_inv
  simp only [V.width, V.widths]

theorem cells_Schema {w : World} {i0 : Int} {s1 : ByteArray} {i2 : Int} {xs3 : List V} {xs4 : List V} {s5 : ByteArray} {s6 : ByteArray} {xs7 : List V} {xs8 : List V} {s9 : ByteArray} {b10 : Bool} {b11 : Bool} {b12 : Bool} {b13 : Bool} {i14 : Int} {i15 : Int} {xs16 : List V} {xs17 : List V} {xs18 : List V} {cs : List Value} {F : List Nat} (h : Rep w (.agg [.int i0, .str s1, .agg [.int i2, .list xs3, .list xs4, .str s5, .str s6], .list xs7, .list xs8, .str s9, .bool b10, .bool b11, .bool b12, .bool b13, .int i14, .int i15, .list xs16, .list xs17, .list xs18]) cs F) : ∃ (A3 : Option Addr) (n3 c3 : Nat) (F3 : List Nat) (A4 : Option Addr) (n4 c4 : Nat) (F4 : List Nat) (A7 : Option Addr) (n7 c7 : Nat) (F7 : List Nat) (A8 : Option Addr) (n8 c8 : Nat) (F8 : List Nat) (A16 : Option Addr) (n16 c16 : Nat) (F16 : List Nat) (A17 : Option Addr) (n17 c17 : Nat) (F17 : List Nat) (A18 : Option Addr) (n18 c18 : Nat) (F18 : List Nat), cs = [.int .i64 i0, .string s1, .int .i64 i2, .slice A3 n3 c3, .slice A4 n4 c4, .string s5, .string s6, .slice A7 n7 c7, .slice A8 n8 c8, .string s9, .bool b10, .bool b11, .bool b12, .bool b13, .int .i64 i14, .int .i64 i15, .slice A16 n16 c16, .slice A17 n17 c17, .slice A18 n18 c18] := by
  have r1 := h.agg_inv
  obtain ⟨_, _, _, _, rfl, rfl, q2, r2⟩ := r1.cons_inv
  obtain ⟨rfl, rfl, _⟩ := q2.int_inv
  obtain ⟨_, _, _, _, rfl, rfl, q3, r3⟩ := r2.cons_inv
  obtain ⟨rfl, rfl, _⟩ := q3.str_inv
  obtain ⟨_, _, _, _, rfl, rfl, q4, r4⟩ := r3.cons_inv
  have r5 := q4.agg_inv
  obtain ⟨_, _, _, _, rfl, rfl, q6, r6⟩ := r5.cons_inv
  obtain ⟨rfl, rfl, _⟩ := q6.int_inv
  obtain ⟨_, _, _, _, rfl, rfl, q7, r7⟩ := r6.cons_inv
  obtain ⟨A3, n3, c3, rfl, _⟩ := q7.list_inv
  obtain ⟨_, _, _, _, rfl, rfl, q8, r8⟩ := r7.cons_inv
  obtain ⟨A4, n4, c4, rfl, _⟩ := q8.list_inv
  obtain ⟨_, _, _, _, rfl, rfl, q9, r9⟩ := r8.cons_inv
  obtain ⟨rfl, rfl, _⟩ := q9.str_inv
  obtain ⟨_, _, _, _, rfl, rfl, q10, r10⟩ := r9.cons_inv
  obtain ⟨rfl, rfl, _⟩ := q10.str_inv
  obtain ⟨rfl, rfl⟩ := r10.nil_inv
  obtain ⟨_, _, _, _, rfl, rfl, q11, r11⟩ := r4.cons_inv
  obtain ⟨A7, n7, c7, rfl, _⟩ := q11.list_inv
  obtain ⟨_, _, _, _, rfl, rfl, q12, r12⟩ := r11.cons_inv
  obtain ⟨A8, n8, c8, rfl, _⟩ := q12.list_inv
  obtain ⟨_, _, _, _, rfl, rfl, q13, r13⟩ := r12.cons_inv
  obtain ⟨rfl, rfl, _⟩ := q13.str_inv
  obtain ⟨_, _, _, _, rfl, rfl, q14, r14⟩ := r13.cons_inv
  obtain ⟨rfl, rfl⟩ := q14.bool_inv
  obtain ⟨_, _, _, _, rfl, rfl, q15, r15⟩ := r14.cons_inv
  obtain ⟨rfl, rfl⟩ := q15.bool_inv
  obtain ⟨_, _, _, _, rfl, rfl, q16, r16⟩ := r15.cons_inv
  obtain ⟨rfl, rfl⟩ := q16.bool_inv
  obtain ⟨_, _, _, _, rfl, rfl, q17, r17⟩ := r16.cons_inv
  obtain ⟨rfl, rfl⟩ := q17.bool_inv
  obtain ⟨_, _, _, _, rfl, rfl, q18, r18⟩ := r17.cons_inv
  obtain ⟨rfl, rfl, _⟩ := q18.int_inv
  obtain ⟨_, _, _, _, rfl, rfl, q19, r19⟩ := r18.cons_inv
  obtain ⟨rfl, rfl, _⟩ := q19.int_inv
  obtain ⟨_, _, _, _, rfl, rfl, q20, r20⟩ := r19.cons_inv
  obtain ⟨A16, n16, c16, rfl, _⟩ := q20.list_inv
  obtain ⟨_, _, _, _, rfl, rfl, q21, r21⟩ := r20.cons_inv
  obtain ⟨A17, n17, c17, rfl, _⟩ := q21.list_inv
  obtain ⟨_, _, _, _, rfl, rfl, q22, r22⟩ := r21.cons_inv
  obtain ⟨A18, n18, c18, rfl, _⟩ := q22.list_inv
  obtain ⟨rfl, rfl⟩ := r22.nil_inv
  exact ⟨A3, n3, c3, [], A4, n4, c4, [], A7, n7, c7, [], A8, n8, c8, [], A16, n16, c16, [], A17, n17, c17, [], A18, n18, c18, [], rfl⟩

theorem cellr_Schema {w : World} {i0 : Int} {s1 : ByteArray} {i2 : Int} {xs3 : List V} {xs4 : List V} {s5 : ByteArray} {s6 : ByteArray} {xs7 : List V} {xs8 : List V} {s9 : ByteArray} {b10 : Bool} {b11 : Bool} {b12 : Bool} {b13 : Bool} {i14 : Int} {i15 : Int} {xs16 : List V} {xs17 : List V} {xs18 : List V} {cs : List Value} {F : List Nat} (h : Rep w (.agg [.int i0, .str s1, .agg [.int i2, .list xs3, .list xs4, .str s5, .str s6], .list xs7, .list xs8, .str s9, .bool b10, .bool b11, .bool b12, .bool b13, .int i14, .int i15, .list xs16, .list xs17, .list xs18]) cs F) : ∃ (A3 : Option Addr) (n3 c3 : Nat) (F3 : List Nat) (A4 : Option Addr) (n4 c4 : Nat) (F4 : List Nat) (A7 : Option Addr) (n7 c7 : Nat) (F7 : List Nat) (A8 : Option Addr) (n8 c8 : Nat) (F8 : List Nat) (A16 : Option Addr) (n16 c16 : Nat) (F16 : List Nat) (A17 : Option Addr) (n17 c17 : Nat) (F17 : List Nat) (A18 : Option Addr) (n18 c18 : Nat) (F18 : List Nat), cs = [.int .i64 i0, .string s1, .int .i64 i2, .slice A3 n3 c3, .slice A4 n4 c4, .string s5, .string s6, .slice A7 n7 c7, .slice A8 n8 c8, .string s9, .bool b10, .bool b11, .bool b12, .bool b13, .int .i64 i14, .int .i64 i15, .slice A16 n16 c16, .slice A17 n17 c17, .slice A18 n18 c18] ∧ Rep w (.list xs3) [.slice A3 n3 c3] F3 ∧ (n3 = xs3.length ∧ n3 ≤ c3 ∧ c3 ≤ 9223372036854775807) ∧ Rep w (.list xs4) [.slice A4 n4 c4] F4 ∧ (n4 = xs4.length ∧ n4 ≤ c4 ∧ c4 ≤ 9223372036854775807) ∧ Rep w (.list xs7) [.slice A7 n7 c7] F7 ∧ (n7 = xs7.length ∧ n7 ≤ c7 ∧ c7 ≤ 9223372036854775807) ∧ Rep w (.list xs8) [.slice A8 n8 c8] F8 ∧ (n8 = xs8.length ∧ n8 ≤ c8 ∧ c8 ≤ 9223372036854775807) ∧ Rep w (.list xs16) [.slice A16 n16 c16] F16 ∧ (n16 = xs16.length ∧ n16 ≤ c16 ∧ c16 ≤ 9223372036854775807) ∧ Rep w (.list xs17) [.slice A17 n17 c17] F17 ∧ (n17 = xs17.length ∧ n17 ≤ c17 ∧ c17 ≤ 9223372036854775807) ∧ Rep w (.list xs18) [.slice A18 n18 c18] F18 ∧ (n18 = xs18.length ∧ n18 ≤ c18 ∧ c18 ≤ 9223372036854775807) := by
  have r1 := h.agg_inv
  obtain ⟨_, _, _, _, rfl, rfl, q2, r2⟩ := r1.cons_inv
  obtain ⟨rfl, rfl, _⟩ := q2.int_inv
  obtain ⟨_, _, _, _, rfl, rfl, q3, r3⟩ := r2.cons_inv
  obtain ⟨rfl, rfl, _⟩ := q3.str_inv
  obtain ⟨_, _, _, _, rfl, rfl, q4, r4⟩ := r3.cons_inv
  have r5 := q4.agg_inv
  obtain ⟨_, _, _, _, rfl, rfl, q6, r6⟩ := r5.cons_inv
  obtain ⟨rfl, rfl, _⟩ := q6.int_inv
  obtain ⟨_, _, _, _, rfl, rfl, q7, r7⟩ := r6.cons_inv
  obtain ⟨A3, n3, c3, rfl, l3⟩ := q7.list_inv
  obtain ⟨_, _, _, _, rfl, rfl, q8, r8⟩ := r7.cons_inv
  obtain ⟨A4, n4, c4, rfl, l4⟩ := q8.list_inv
  obtain ⟨_, _, _, _, rfl, rfl, q9, r9⟩ := r8.cons_inv
  obtain ⟨rfl, rfl, _⟩ := q9.str_inv
  obtain ⟨_, _, _, _, rfl, rfl, q10, r10⟩ := r9.cons_inv
  obtain ⟨rfl, rfl, _⟩ := q10.str_inv
  obtain ⟨rfl, rfl⟩ := r10.nil_inv
  obtain ⟨_, _, _, _, rfl, rfl, q11, r11⟩ := r4.cons_inv
  obtain ⟨A7, n7, c7, rfl, l7⟩ := q11.list_inv
  obtain ⟨_, _, _, _, rfl, rfl, q12, r12⟩ := r11.cons_inv
  obtain ⟨A8, n8, c8, rfl, l8⟩ := q12.list_inv
  obtain ⟨_, _, _, _, rfl, rfl, q13, r13⟩ := r12.cons_inv
  obtain ⟨rfl, rfl, _⟩ := q13.str_inv
  obtain ⟨_, _, _, _, rfl, rfl, q14, r14⟩ := r13.cons_inv
  obtain ⟨rfl, rfl⟩ := q14.bool_inv
  obtain ⟨_, _, _, _, rfl, rfl, q15, r15⟩ := r14.cons_inv
  obtain ⟨rfl, rfl⟩ := q15.bool_inv
  obtain ⟨_, _, _, _, rfl, rfl, q16, r16⟩ := r15.cons_inv
  obtain ⟨rfl, rfl⟩ := q16.bool_inv
  obtain ⟨_, _, _, _, rfl, rfl, q17, r17⟩ := r16.cons_inv
  obtain ⟨rfl, rfl⟩ := q17.bool_inv
  obtain ⟨_, _, _, _, rfl, rfl, q18, r18⟩ := r17.cons_inv
  obtain ⟨rfl, rfl, _⟩ := q18.int_inv
  obtain ⟨_, _, _, _, rfl, rfl, q19, r19⟩ := r18.cons_inv
  obtain ⟨rfl, rfl, _⟩ := q19.int_inv
  obtain ⟨_, _, _, _, rfl, rfl, q20, r20⟩ := r19.cons_inv
  obtain ⟨A16, n16, c16, rfl, l16⟩ := q20.list_inv
  obtain ⟨_, _, _, _, rfl, rfl, q21, r21⟩ := r20.cons_inv
  obtain ⟨A17, n17, c17, rfl, l17⟩ := q21.list_inv
  obtain ⟨_, _, _, _, rfl, rfl, q22, r22⟩ := r21.cons_inv
  obtain ⟨A18, n18, c18, rfl, l18⟩ := q22.list_inv
  obtain ⟨rfl, rfl⟩ := r22.nil_inv
  exact ⟨A3, n3, c3, _, A4, n4, c4, _, A7, n7, c7, _, A8, n8, c8, _, A16, n16, c16, _, A17, n17, c17, _, A18, n18, c18, _, rfl, q7, l3, q8, l4, q11, l7, q12, l8, q20, l16, q21, l17, q22, l18⟩

theorem open_Version {w : World} {x : V} {cs : List Value} {F : List Nat} (ho : Ok x tVersion) (h : Rep w x cs F) :
    ∃ (xs0 : List V) (A0 : Option Addr) (n0 c0 : Nat) (F0 : List Nat) (i1 : Int) (i2 : Int), x = .agg [.list xs0, .int i1, .int i2] ∧ cs = [.slice A0 n0 c0, .int .i64 i1, .int .i64 i2] ∧ F = F0 ∧ Oks xs0 tNode ∧ Rep w (.list xs0) [.slice A0 n0 c0] F0 ∧ (n0 = xs0.length ∧ n0 ≤ c0 ∧ c0 ≤ 9223372036854775807) ∧ (-9223372036854775808 ≤ i1 ∧ i1 ≤ 9223372036854775807) ∧ (-9223372036854775808 ≤ i2 ∧ i2 ≤ 9223372036854775807) := by
  obtain ⟨_, rfl, hz1⟩ := ho.agg_inv rfl
  obtain ⟨_, _, rfl, k2, hz2⟩ := hz1.cons_inv
  obtain ⟨xs0, rfl, ok0⟩ := k2.list_inv rfl
  obtain ⟨_, _, rfl, k3, hz3⟩ := hz2.cons_inv
  obtain ⟨i1, rfl⟩ := k3.int_inv rfl
  obtain ⟨_, _, rfl, k4, hz4⟩ := hz3.cons_inv
  obtain ⟨i2, rfl⟩ := k4.int_inv rfl
  obtain rfl := hz4.nil_inv
  have r5 := h.agg_inv
  obtain ⟨_, _, _, _, rfl, rfl, q6, r6⟩ := r5.cons_inv
  obtain ⟨A0, n0, c0, rfl, ln0⟩ := q6.list_inv
  obtain ⟨_, _, _, _, rfl, rfl, q7, r7⟩ := r6.cons_inv
  obtain ⟨rfl, rfl, bd1⟩ := q7.int_inv
  obtain ⟨_, _, _, _, rfl, rfl, q8, r8⟩ := r7.cons_inv
  obtain ⟨rfl, rfl, bd2⟩ := q8.int_inv
  obtain ⟨rfl, rfl⟩ := r8.nil_inv
  exact ⟨xs0, A0, n0, c0, _, i1, i2, rfl, rfl, by simp, ok0, q6, ln0, bd1, bd2⟩
theorem wd_Version {x : V} (ho : Ok x tVersion) : V.width x = 3 := by
  obtain ⟨_, rfl, hz1⟩ := ho.agg_inv rfl
  obtain ⟨_, _, rfl, k2, hz2⟩ := hz1.cons_inv
  obtain ⟨xs0, rfl, ok0⟩ := k2.list_inv rfl
  obtain ⟨_, _, rfl, k3, hz3⟩ := hz2.cons_inv
  obtain ⟨i1, rfl⟩ := k3.int_inv rfl
  obtain ⟨_, _, rfl, k4, hz4⟩ := hz3.cons_inv
  obtain ⟨i2, rfl⟩ := k4.int_inv rfl
  obtain rfl := hz4.nil_inv
  simp only [V.width, V.widths]

theorem cells_Version {w : World} {xs0 : List V} {i1 : Int} {i2 : Int} {cs : List Value} {F : List Nat} (h : Rep w (.agg [.list xs0, .int i1, .int i2]) cs F) : ∃ (A0 : Option Addr) (n0 c0 : Nat) (F0 : List Nat), cs = [.slice A0 n0 c0, .int .i64 i1, .int .i64 i2] := by
  have r1 := h.agg_inv
  obtain ⟨_, _, _, _, rfl, rfl, q2, r2⟩ := r1.cons_inv
  obtain ⟨A0, n0, c0, rfl, _⟩ := q2.list_inv
  obtain ⟨_, _, _, _, rfl, rfl, q3, r3⟩ := r2.cons_inv
  obtain ⟨rfl, rfl, _⟩ := q3.int_inv
  obtain ⟨_, _, _, _, rfl, rfl, q4, r4⟩ := r3.cons_inv
  obtain ⟨rfl, rfl, _⟩ := q4.int_inv
  obtain ⟨rfl, rfl⟩ := r4.nil_inv
  exact ⟨A0, n0, c0, [], rfl⟩

theorem cellr_Version {w : World} {xs0 : List V} {i1 : Int} {i2 : Int} {cs : List Value} {F : List Nat} (h : Rep w (.agg [.list xs0, .int i1, .int i2]) cs F) : ∃ (A0 : Option Addr) (n0 c0 : Nat) (F0 : List Nat), cs = [.slice A0 n0 c0, .int .i64 i1, .int .i64 i2] ∧ Rep w (.list xs0) [.slice A0 n0 c0] F0 ∧ (n0 = xs0.length ∧ n0 ≤ c0 ∧ c0 ≤ 9223372036854775807) := by
  have r1 := h.agg_inv
  obtain ⟨_, _, _, _, rfl, rfl, q2, r2⟩ := r1.cons_inv
  obtain ⟨A0, n0, c0, rfl, l0⟩ := q2.list_inv
  obtain ⟨_, _, _, _, rfl, rfl, q3, r3⟩ := r2.cons_inv
  obtain ⟨rfl, rfl, _⟩ := q3.int_inv
  obtain ⟨_, _, _, _, rfl, rfl, q4, r4⟩ := r3.cons_inv
  obtain ⟨rfl, rfl, _⟩ := q4.int_inv
  obtain ⟨rfl, rfl⟩ := r4.nil_inv
  exact ⟨A0, n0, c0, _, rfl, q2, l0⟩

theorem open_Pending {w : World} {x : V} {cs : List Value} {F : List Nat} (ho : Ok x tPending) (h : Rep w x cs F) :
    ∃ (b0 : Bool) (i1 : Int) (i2 : Int) (s3 : ByteArray) (xs4 : List V) (A4 : Option Addr) (n4 c4 : Nat) (F4 : List Nat), x = .agg [.bool b0, .int i1, .int i2, .str s3, .list xs4] ∧ cs = [.bool b0, .int .i64 i1, .int .i64 i2, .string s3, .slice A4 n4 c4] ∧ F = F4 ∧ (-9223372036854775808 ≤ i1 ∧ i1 ≤ 9223372036854775807) ∧ (-9223372036854775808 ≤ i2 ∧ i2 ≤ 9223372036854775807) ∧ s3.size ≤ 9223372036854775807 ∧ Oks xs4 tNode ∧ Rep w (.list xs4) [.slice A4 n4 c4] F4 ∧ (n4 = xs4.length ∧ n4 ≤ c4 ∧ c4 ≤ 9223372036854775807) := by
  obtain ⟨_, rfl, hz1⟩ := ho.agg_inv rfl
  obtain ⟨_, _, rfl, k2, hz2⟩ := hz1.cons_inv
  obtain ⟨b0, rfl⟩ := k2.bool_inv rfl
  obtain ⟨_, _, rfl, k3, hz3⟩ := hz2.cons_inv
  obtain ⟨i1, rfl⟩ := k3.int_inv rfl
  obtain ⟨_, _, rfl, k4, hz4⟩ := hz3.cons_inv
  obtain ⟨i2, rfl⟩ := k4.int_inv rfl
  obtain ⟨_, _, rfl, k5, hz5⟩ := hz4.cons_inv
  obtain ⟨s3, rfl⟩ := k5.str_inv rfl
  obtain ⟨_, _, rfl, k6, hz6⟩ := hz5.cons_inv
  obtain ⟨xs4, rfl, ok4⟩ := k6.list_inv rfl
  obtain rfl := hz6.nil_inv
  have r7 := h.agg_inv
  obtain ⟨_, _, _, _, rfl, rfl, q8, r8⟩ := r7.cons_inv
  obtain ⟨rfl, rfl⟩ := q8.bool_inv
  obtain ⟨_, _, _, _, rfl, rfl, q9, r9⟩ := r8.cons_inv
  obtain ⟨rfl, rfl, bd1⟩ := q9.int_inv
  obtain ⟨_, _, _, _, rfl, rfl, q10, r10⟩ := r9.cons_inv
  obtain ⟨rfl, rfl, bd2⟩ := q10.int_inv
  obtain ⟨_, _, _, _, rfl, rfl, q11, r11⟩ := r10.cons_inv
  obtain ⟨rfl, rfl, bd3⟩ := q11.str_inv
  obtain ⟨_, _, _, _, rfl, rfl, q12, r12⟩ := r11.cons_inv
  obtain ⟨A4, n4, c4, rfl, ln4⟩ := q12.list_inv
  obtain ⟨rfl, rfl⟩ := r12.nil_inv
  exact ⟨b0, i1, i2, s3, xs4, A4, n4, c4, _, rfl, rfl, by simp, bd1, bd2, bd3, ok4, q12, ln4⟩
theorem wd_Pending {x : V} (ho : Ok x tPending) : V.width x = 5 := by
  obtain ⟨_, rfl, hz1⟩ := ho.agg_inv rfl
  obtain ⟨_, _, rfl, k2, hz2⟩ := hz1.cons_inv
  obtain ⟨b0, rfl⟩ := k2.bool_inv rfl
  obtain ⟨_, _, rfl, k3, hz3⟩ := hz2.cons_inv
  obtain ⟨i1, rfl⟩ := k3.int_inv rfl
  obtain ⟨_, _, rfl, k4, hz4⟩ := hz3.cons_inv
  obtain ⟨i2, rfl⟩ := k4.int_inv rfl
  obtain ⟨_, _, rfl, k5, hz5⟩ := hz4.cons_inv
  obtain ⟨s3, rfl⟩ := k5.str_inv rfl
  obtain ⟨_, _, rfl, k6, hz6⟩ := hz5.cons_inv
  obtain ⟨xs4, rfl, ok4⟩ := k6.list_inv rfl
  obtain rfl := hz6.nil_inv
  simp only [V.width, V.widths]

theorem cells_Pending {w : World} {b0 : Bool} {i1 : Int} {i2 : Int} {s3 : ByteArray} {xs4 : List V} {cs : List Value} {F : List Nat} (h : Rep w (.agg [.bool b0, .int i1, .int i2, .str s3, .list xs4]) cs F) : ∃ (A4 : Option Addr) (n4 c4 : Nat) (F4 : List Nat), cs = [.bool b0, .int .i64 i1, .int .i64 i2, .string s3, .slice A4 n4 c4] := by
  have r1 := h.agg_inv
  obtain ⟨_, _, _, _, rfl, rfl, q2, r2⟩ := r1.cons_inv
  obtain ⟨rfl, rfl⟩ := q2.bool_inv
  obtain ⟨_, _, _, _, rfl, rfl, q3, r3⟩ := r2.cons_inv
  obtain ⟨rfl, rfl, _⟩ := q3.int_inv
  obtain ⟨_, _, _, _, rfl, rfl, q4, r4⟩ := r3.cons_inv
  obtain ⟨rfl, rfl, _⟩ := q4.int_inv
  obtain ⟨_, _, _, _, rfl, rfl, q5, r5⟩ := r4.cons_inv
  obtain ⟨rfl, rfl, _⟩ := q5.str_inv
  obtain ⟨_, _, _, _, rfl, rfl, q6, r6⟩ := r5.cons_inv
  obtain ⟨A4, n4, c4, rfl, _⟩ := q6.list_inv
  obtain ⟨rfl, rfl⟩ := r6.nil_inv
  exact ⟨A4, n4, c4, [], rfl⟩

theorem cellr_Pending {w : World} {b0 : Bool} {i1 : Int} {i2 : Int} {s3 : ByteArray} {xs4 : List V} {cs : List Value} {F : List Nat} (h : Rep w (.agg [.bool b0, .int i1, .int i2, .str s3, .list xs4]) cs F) : ∃ (A4 : Option Addr) (n4 c4 : Nat) (F4 : List Nat), cs = [.bool b0, .int .i64 i1, .int .i64 i2, .string s3, .slice A4 n4 c4] ∧ Rep w (.list xs4) [.slice A4 n4 c4] F4 ∧ (n4 = xs4.length ∧ n4 ≤ c4 ∧ c4 ≤ 9223372036854775807) := by
  have r1 := h.agg_inv
  obtain ⟨_, _, _, _, rfl, rfl, q2, r2⟩ := r1.cons_inv
  obtain ⟨rfl, rfl⟩ := q2.bool_inv
  obtain ⟨_, _, _, _, rfl, rfl, q3, r3⟩ := r2.cons_inv
  obtain ⟨rfl, rfl, _⟩ := q3.int_inv
  obtain ⟨_, _, _, _, rfl, rfl, q4, r4⟩ := r3.cons_inv
  obtain ⟨rfl, rfl, _⟩ := q4.int_inv
  obtain ⟨_, _, _, _, rfl, rfl, q5, r5⟩ := r4.cons_inv
  obtain ⟨rfl, rfl, _⟩ := q5.str_inv
  obtain ⟨_, _, _, _, rfl, rfl, q6, r6⟩ := r5.cons_inv
  obtain ⟨A4, n4, c4, rfl, l4⟩ := q6.list_inv
  obtain ⟨rfl, rfl⟩ := r6.nil_inv
  exact ⟨A4, n4, c4, _, rfl, q6, l4⟩

theorem open_Store {w : World} {x : V} {cs : List Value} {F : List Nat} (ho : Ok x tStore) (h : Rep w x cs F) :
    ∃ (xs0 : List V) (A0 : Option Addr) (n0 c0 : Nat) (F0 : List Nat) (xs1 : List V) (A1 : Option Addr) (n1 c1 : Nat) (F1 : List Nat) (xs2 : List V) (A2 : Option Addr) (n2 c2 : Nat) (F2 : List Nat) (i3 : Int) (xs4 : List V) (A4 : Option Addr) (n4 c4 : Nat) (F4 : List Nat) (b5 : Bool) (i6 : Int) (i7 : Int) (s8 : ByteArray) (xs9 : List V) (A9 : Option Addr) (n9 c9 : Nat) (F9 : List Nat), x = .agg [.list xs0, .list xs1, .list xs2, .int i3, .list xs4, .agg [.bool b5, .int i6, .int i7, .str s8, .list xs9]] ∧ cs = [.slice A0 n0 c0, .slice A1 n1 c1, .slice A2 n2 c2, .int .i64 i3, .slice A4 n4 c4, .bool b5, .int .i64 i6, .int .i64 i7, .string s8, .slice A9 n9 c9] ∧ F = F0 ++ F1 ++ F2 ++ F4 ++ F9 ∧ Oks xs0 tSchema ∧ Rep w (.list xs0) [.slice A0 n0 c0] F0 ∧ (n0 = xs0.length ∧ n0 ≤ c0 ∧ c0 ≤ 9223372036854775807) ∧ Oks xs1 tNode ∧ Rep w (.list xs1) [.slice A1 n1 c1] F1 ∧ (n1 = xs1.length ∧ n1 ≤ c1 ∧ c1 ≤ 9223372036854775807) ∧ Oks xs2 tNode ∧ Rep w (.list xs2) [.slice A2 n2 c2] F2 ∧ (n2 = xs2.length ∧ n2 ≤ c2 ∧ c2 ≤ 9223372036854775807) ∧ (-9223372036854775808 ≤ i3 ∧ i3 ≤ 9223372036854775807) ∧ Oks xs4 tVersion ∧ Rep w (.list xs4) [.slice A4 n4 c4] F4 ∧ (n4 = xs4.length ∧ n4 ≤ c4 ∧ c4 ≤ 9223372036854775807) ∧ (-9223372036854775808 ≤ i6 ∧ i6 ≤ 9223372036854775807) ∧ (-9223372036854775808 ≤ i7 ∧ i7 ≤ 9223372036854775807) ∧ s8.size ≤ 9223372036854775807 ∧ Oks xs9 tNode ∧ Rep w (.list xs9) [.slice A9 n9 c9] F9 ∧ (n9 = xs9.length ∧ n9 ≤ c9 ∧ c9 ≤ 9223372036854775807) := by
  obtain ⟨_, rfl, hz1⟩ := ho.agg_inv rfl
  obtain ⟨_, _, rfl, k2, hz2⟩ := hz1.cons_inv
  obtain ⟨xs0, rfl, ok0⟩ := k2.list_inv rfl
  obtain ⟨_, _, rfl, k3, hz3⟩ := hz2.cons_inv
  obtain ⟨xs1, rfl, ok1⟩ := k3.list_inv rfl
  obtain ⟨_, _, rfl, k4, hz4⟩ := hz3.cons_inv
  obtain ⟨xs2, rfl, ok2⟩ := k4.list_inv rfl
  obtain ⟨_, _, rfl, k5, hz5⟩ := hz4.cons_inv
  obtain ⟨i3, rfl⟩ := k5.int_inv rfl
  obtain ⟨_, _, rfl, k6, hz6⟩ := hz5.cons_inv
  obtain ⟨xs4, rfl, ok4⟩ := k6.list_inv rfl
  obtain ⟨_, _, rfl, k7, hz7⟩ := hz6.cons_inv
  obtain ⟨_, rfl, hz8⟩ := k7.agg_inv rfl
  obtain ⟨_, _, rfl, k9, hz9⟩ := hz8.cons_inv
  obtain ⟨b5, rfl⟩ := k9.bool_inv rfl
  obtain ⟨_, _, rfl, k10, hz10⟩ := hz9.cons_inv
  obtain ⟨i6, rfl⟩ := k10.int_inv rfl
  obtain ⟨_, _, rfl, k11, hz11⟩ := hz10.cons_inv
  obtain ⟨i7, rfl⟩ := k11.int_inv rfl
  obtain ⟨_, _, rfl, k12, hz12⟩ := hz11.cons_inv
  obtain ⟨s8, rfl⟩ := k12.str_inv rfl
  obtain ⟨_, _, rfl, k13, hz13⟩ := hz12.cons_inv
  obtain ⟨xs9, rfl, ok9⟩ := k13.list_inv rfl
  obtain rfl := hz13.nil_inv
  obtain rfl := hz7.nil_inv
  have r14 := h.agg_inv
  obtain ⟨_, _, _, _, rfl, rfl, q15, r15⟩ := r14.cons_inv
  obtain ⟨A0, n0, c0, rfl, ln0⟩ := q15.list_inv
  obtain ⟨_, _, _, _, rfl, rfl, q16, r16⟩ := r15.cons_inv
  obtain ⟨A1, n1, c1, rfl, ln1⟩ := q16.list_inv
  obtain ⟨_, _, _, _, rfl, rfl, q17, r17⟩ := r16.cons_inv
  obtain ⟨A2, n2, c2, rfl, ln2⟩ := q17.list_inv
  obtain ⟨_, _, _, _, rfl, rfl, q18, r18⟩ := r17.cons_inv
  obtain ⟨rfl, rfl, bd3⟩ := q18.int_inv
  obtain ⟨_, _, _, _, rfl, rfl, q19, r19⟩ := r18.cons_inv
  obtain ⟨A4, n4, c4, rfl, ln4⟩ := q19.list_inv
  obtain ⟨_, _, _, _, rfl, rfl, q20, r20⟩ := r19.cons_inv
  have r21 := q20.agg_inv
  obtain ⟨_, _, _, _, rfl, rfl, q22, r22⟩ := r21.cons_inv
  obtain ⟨rfl, rfl⟩ := q22.bool_inv
  obtain ⟨_, _, _, _, rfl, rfl, q23, r23⟩ := r22.cons_inv
  obtain ⟨rfl, rfl, bd6⟩ := q23.int_inv
  obtain ⟨_, _, _, _, rfl, rfl, q24, r24⟩ := r23.cons_inv
  obtain ⟨rfl, rfl, bd7⟩ := q24.int_inv
  obtain ⟨_, _, _, _, rfl, rfl, q25, r25⟩ := r24.cons_inv
  obtain ⟨rfl, rfl, bd8⟩ := q25.str_inv
  obtain ⟨_, _, _, _, rfl, rfl, q26, r26⟩ := r25.cons_inv
  obtain ⟨A9, n9, c9, rfl, ln9⟩ := q26.list_inv
  obtain ⟨rfl, rfl⟩ := r26.nil_inv
  obtain ⟨rfl, rfl⟩ := r20.nil_inv
  exact ⟨xs0, A0, n0, c0, _, xs1, A1, n1, c1, _, xs2, A2, n2, c2, _, i3, xs4, A4, n4, c4, _, b5, i6, i7, s8, xs9, A9, n9, c9, _, rfl, rfl, by simp, ok0, q15, ln0, ok1, q16, ln1, ok2, q17, ln2, bd3, ok4, q19, ln4, bd6, bd7, bd8, ok9, q26, ln9⟩
theorem wd_Store {x : V} (ho : Ok x tStore) : V.width x = 10 := by
  obtain ⟨_, rfl, hz1⟩ := ho.agg_inv rfl
  obtain ⟨_, _, rfl, k2, hz2⟩ := hz1.cons_inv
  obtain ⟨xs0, rfl, ok0⟩ := k2.list_inv rfl
  obtain ⟨_, _, rfl, k3, hz3⟩ := hz2.cons_inv
  obtain ⟨xs1, rfl, ok1⟩ := k3.list_inv rfl
  obtain ⟨_, _, rfl, k4, hz4⟩ := hz3.cons_inv
  obtain ⟨xs2, rfl, ok2⟩ := k4.list_inv rfl
  obtain ⟨_, _, rfl, k5, hz5⟩ := hz4.cons_inv
  obtain ⟨i3, rfl⟩ := k5.int_inv rfl
  obtain ⟨_, _, rfl, k6, hz6⟩ := hz5.cons_inv
  obtain ⟨xs4, rfl, ok4⟩ := k6.list_inv rfl
  obtain ⟨_, _, rfl, k7, hz7⟩ := hz6.cons_inv
  obtain ⟨_, rfl, hz8⟩ := k7.agg_inv rfl
  obtain ⟨_, _, rfl, k9, hz9⟩ := hz8.cons_inv
  obtain ⟨b5, rfl⟩ := k9.bool_inv rfl
  obtain ⟨_, _, rfl, k10, hz10⟩ := hz9.cons_inv
  obtain ⟨i6, rfl⟩ := k10.int_inv rfl
  obtain ⟨_, _, rfl, k11, hz11⟩ := hz10.cons_inv
  obtain ⟨i7, rfl⟩ := k11.int_inv rfl
  obtain ⟨_, _, rfl, k12, hz12⟩ := hz11.cons_inv
  obtain ⟨s8, rfl⟩ := k12.str_inv rfl
  obtain ⟨_, _, rfl, k13, hz13⟩ := hz12.cons_inv
  obtain ⟨xs9, rfl, ok9⟩ := k13.list_inv rfl
  obtain rfl := hz13.nil_inv
  obtain rfl := hz7.nil_inv
  simp only [V.width, V.widths]

theorem cells_Store {w : World} {xs0 : List V} {xs1 : List V} {xs2 : List V} {i3 : Int} {xs4 : List V} {b5 : Bool} {i6 : Int} {i7 : Int} {s8 : ByteArray} {xs9 : List V} {cs : List Value} {F : List Nat} (h : Rep w (.agg [.list xs0, .list xs1, .list xs2, .int i3, .list xs4, .agg [.bool b5, .int i6, .int i7, .str s8, .list xs9]]) cs F) : ∃ (A0 : Option Addr) (n0 c0 : Nat) (F0 : List Nat) (A1 : Option Addr) (n1 c1 : Nat) (F1 : List Nat) (A2 : Option Addr) (n2 c2 : Nat) (F2 : List Nat) (A4 : Option Addr) (n4 c4 : Nat) (F4 : List Nat) (A9 : Option Addr) (n9 c9 : Nat) (F9 : List Nat), cs = [.slice A0 n0 c0, .slice A1 n1 c1, .slice A2 n2 c2, .int .i64 i3, .slice A4 n4 c4, .bool b5, .int .i64 i6, .int .i64 i7, .string s8, .slice A9 n9 c9] := by
  have r1 := h.agg_inv
  obtain ⟨_, _, _, _, rfl, rfl, q2, r2⟩ := r1.cons_inv
  obtain ⟨A0, n0, c0, rfl, _⟩ := q2.list_inv
  obtain ⟨_, _, _, _, rfl, rfl, q3, r3⟩ := r2.cons_inv
  obtain ⟨A1, n1, c1, rfl, _⟩ := q3.list_inv
  obtain ⟨_, _, _, _, rfl, rfl, q4, r4⟩ := r3.cons_inv
  obtain ⟨A2, n2, c2, rfl, _⟩ := q4.list_inv
  obtain ⟨_, _, _, _, rfl, rfl, q5, r5⟩ := r4.cons_inv
  obtain ⟨rfl, rfl, _⟩ := q5.int_inv
  obtain ⟨_, _, _, _, rfl, rfl, q6, r6⟩ := r5.cons_inv
  obtain ⟨A4, n4, c4, rfl, _⟩ := q6.list_inv
  obtain ⟨_, _, _, _, rfl, rfl, q7, r7⟩ := r6.cons_inv
  have r8 := q7.agg_inv
  obtain ⟨_, _, _, _, rfl, rfl, q9, r9⟩ := r8.cons_inv
  obtain ⟨rfl, rfl⟩ := q9.bool_inv
  obtain ⟨_, _, _, _, rfl, rfl, q10, r10⟩ := r9.cons_inv
  obtain ⟨rfl, rfl, _⟩ := q10.int_inv
  obtain ⟨_, _, _, _, rfl, rfl, q11, r11⟩ := r10.cons_inv
  obtain ⟨rfl, rfl, _⟩ := q11.int_inv
  obtain ⟨_, _, _, _, rfl, rfl, q12, r12⟩ := r11.cons_inv
  obtain ⟨rfl, rfl, _⟩ := q12.str_inv
  obtain ⟨_, _, _, _, rfl, rfl, q13, r13⟩ := r12.cons_inv
  obtain ⟨A9, n9, c9, rfl, _⟩ := q13.list_inv
  obtain ⟨rfl, rfl⟩ := r13.nil_inv
  obtain ⟨rfl, rfl⟩ := r7.nil_inv
  exact ⟨A0, n0, c0, [], A1, n1, c1, [], A2, n2, c2, [], A4, n4, c4, [], A9, n9, c9, [], rfl⟩

theorem cellr_Store {w : World} {xs0 : List V} {xs1 : List V} {xs2 : List V} {i3 : Int} {xs4 : List V} {b5 : Bool} {i6 : Int} {i7 : Int} {s8 : ByteArray} {xs9 : List V} {cs : List Value} {F : List Nat} (h : Rep w (.agg [.list xs0, .list xs1, .list xs2, .int i3, .list xs4, .agg [.bool b5, .int i6, .int i7, .str s8, .list xs9]]) cs F) : ∃ (A0 : Option Addr) (n0 c0 : Nat) (F0 : List Nat) (A1 : Option Addr) (n1 c1 : Nat) (F1 : List Nat) (A2 : Option Addr) (n2 c2 : Nat) (F2 : List Nat) (A4 : Option Addr) (n4 c4 : Nat) (F4 : List Nat) (A9 : Option Addr) (n9 c9 : Nat) (F9 : List Nat), cs = [.slice A0 n0 c0, .slice A1 n1 c1, .slice A2 n2 c2, .int .i64 i3, .slice A4 n4 c4, .bool b5, .int .i64 i6, .int .i64 i7, .string s8, .slice A9 n9 c9] ∧ Rep w (.list xs0) [.slice A0 n0 c0] F0 ∧ (n0 = xs0.length ∧ n0 ≤ c0 ∧ c0 ≤ 9223372036854775807) ∧ Rep w (.list xs1) [.slice A1 n1 c1] F1 ∧ (n1 = xs1.length ∧ n1 ≤ c1 ∧ c1 ≤ 9223372036854775807) ∧ Rep w (.list xs2) [.slice A2 n2 c2] F2 ∧ (n2 = xs2.length ∧ n2 ≤ c2 ∧ c2 ≤ 9223372036854775807) ∧ Rep w (.list xs4) [.slice A4 n4 c4] F4 ∧ (n4 = xs4.length ∧ n4 ≤ c4 ∧ c4 ≤ 9223372036854775807) ∧ Rep w (.list xs9) [.slice A9 n9 c9] F9 ∧ (n9 = xs9.length ∧ n9 ≤ c9 ∧ c9 ≤ 9223372036854775807) := by
  have r1 := h.agg_inv
  obtain ⟨_, _, _, _, rfl, rfl, q2, r2⟩ := r1.cons_inv
  obtain ⟨A0, n0, c0, rfl, l0⟩ := q2.list_inv
  obtain ⟨_, _, _, _, rfl, rfl, q3, r3⟩ := r2.cons_inv
  obtain ⟨A1, n1, c1, rfl, l1⟩ := q3.list_inv
  obtain ⟨_, _, _, _, rfl, rfl, q4, r4⟩ := r3.cons_inv
  obtain ⟨A2, n2, c2, rfl, l2⟩ := q4.list_inv
  obtain ⟨_, _, _, _, rfl, rfl, q5, r5⟩ := r4.cons_inv
  obtain ⟨rfl, rfl, _⟩ := q5.int_inv
  obtain ⟨_, _, _, _, rfl, rfl, q6, r6⟩ := r5.cons_inv
  obtain ⟨A4, n4, c4, rfl, l4⟩ := q6.list_inv
  obtain ⟨_, _, _, _, rfl, rfl, q7, r7⟩ := r6.cons_inv
  have r8 := q7.agg_inv
  obtain ⟨_, _, _, _, rfl, rfl, q9, r9⟩ := r8.cons_inv
  obtain ⟨rfl, rfl⟩ := q9.bool_inv
  obtain ⟨_, _, _, _, rfl, rfl, q10, r10⟩ := r9.cons_inv
  obtain ⟨rfl, rfl, _⟩ := q10.int_inv
  obtain ⟨_, _, _, _, rfl, rfl, q11, r11⟩ := r10.cons_inv
  obtain ⟨rfl, rfl, _⟩ := q11.int_inv
  obtain ⟨_, _, _, _, rfl, rfl, q12, r12⟩ := r11.cons_inv
  obtain ⟨rfl, rfl, _⟩ := q12.str_inv
  obtain ⟨_, _, _, _, rfl, rfl, q13, r13⟩ := r12.cons_inv
  obtain ⟨A9, n9, c9, rfl, l9⟩ := q13.list_inv
  obtain ⟨rfl, rfl⟩ := r13.nil_inv
  obtain ⟨rfl, rfl⟩ := r7.nil_inv
  exact ⟨A0, n0, c0, _, A1, n1, c1, _, A2, n2, c2, _, A4, n4, c4, _, A9, n9, c9, _, rfl, q2, l0, q3, l1, q4, l2, q6, l4, q13, l9⟩


end Go.Proofs.Ytilohpakglpdcaa
