/-
  Data of a type, by its cells. Printed by a program of our own.
-/
import Derived.Test.YtmaigpiappmpcaaKS
namespace Go.Proofs.Ytmaigpiappmpcaa
open Go.RowKit
set_option maxRecDepth 100000
set_option maxHeartbeats 4000000
set_option linter.unusedSimpArgs false
set_option linter.unusedVariables false

theorem inv_str {B : Nat} {e : List D} (h : OkC B (lay 0) e) : ∃ x0, e = [.str x0] ∧ (x0.size ≤ maxLen) := by
  obtain ⟨_, _, rfl, h0, g0⟩ := h.cons_inv
  obtain ⟨x0, rfl, b0⟩ := h0.str_inv
  rw [g0.nil_inv]
  exact ⟨x0, rfl, b0⟩
theorem inv_Range {B : Nat} {e : List D} (h : OkC B (lay 6) e) : ∃ x0 x1, e = [.int .i64 x0, .int .i64 x1] ∧ (-9223372036854775808 ≤ x0 ∧ x0 ≤ 9223372036854775807) ∧ (-9223372036854775808 ≤ x1 ∧ x1 ≤ 9223372036854775807) := by
  obtain ⟨_, _, rfl, h0, g0⟩ := h.cons_inv
  obtain ⟨x0, rfl, b0⟩ := h0.int_inv
  obtain ⟨_, _, rfl, h1, g1⟩ := g0.cons_inv
  obtain ⟨x1, rfl, b1⟩ := h1.int_inv
  rw [g1.nil_inv]
  exact ⟨x0, x1, rfl, ⟨b0.1, b0.2⟩, ⟨b1.1, b1.2⟩⟩
theorem inv_Type {B : Nat} {e : List D} (h : OkC B (lay 7) e) : ∃ x0 x1 x2 x3 x4, e = [.int .i64 x0, .list 2 true x1, .list 1 true x2, .str x3, .str x4] ∧ (-9223372036854775808 ≤ x0 ∧ x0 ≤ 9223372036854775807) ∧ (x1.length ≤ B ∧ OkE B 6 x1) ∧ (x2.length ≤ B ∧ OkE B 0 x2) ∧ (x3.size ≤ maxLen) ∧ (x4.size ≤ maxLen) := by
  obtain ⟨_, _, rfl, h0, g0⟩ := h.cons_inv
  obtain ⟨x0, rfl, b0⟩ := h0.int_inv
  obtain ⟨_, _, rfl, h1, g1⟩ := g0.cons_inv
  obtain ⟨x1, rfl, b1, c1⟩ := h1.list_inv
  obtain ⟨_, _, rfl, h2, g2⟩ := g1.cons_inv
  obtain ⟨x2, rfl, b2, c2⟩ := h2.list_inv
  obtain ⟨_, _, rfl, h3, g3⟩ := g2.cons_inv
  obtain ⟨x3, rfl, b3⟩ := h3.str_inv
  obtain ⟨_, _, rfl, h4, g4⟩ := g3.cons_inv
  obtain ⟨x4, rfl, b4⟩ := h4.str_inv
  rw [g4.nil_inv]
  exact ⟨x0, x1, x2, x3, x4, rfl, ⟨b0.1, b0.2⟩, ⟨b1, c1⟩, ⟨b2, c2⟩, b3, b4⟩
theorem inv_Test {B : Nat} {e : List D} (h : OkC B (lay 8) e) : ∃ x0 x1, e = [.str x0, .str x1] ∧ (x0.size ≤ maxLen) ∧ (x1.size ≤ maxLen) := by
  obtain ⟨_, _, rfl, h0, g0⟩ := h.cons_inv
  obtain ⟨x0, rfl, b0⟩ := h0.str_inv
  obtain ⟨_, _, rfl, h1, g1⟩ := g0.cons_inv
  obtain ⟨x1, rfl, b1⟩ := h1.str_inv
  rw [g1.nil_inv]
  exact ⟨x0, x1, rfl, b0, b1⟩
theorem inv_Step {B : Nat} {e : List D} (h : OkC B (lay 9) e) : ∃ x0 x1, e = [.str x0, .list 2 true x1] ∧ (x0.size ≤ maxLen) ∧ (x1.length ≤ B ∧ OkE B 8 x1) := by
  obtain ⟨_, _, rfl, h0, g0⟩ := h.cons_inv
  obtain ⟨x0, rfl, b0⟩ := h0.str_inv
  obtain ⟨_, _, rfl, h1, g1⟩ := g0.cons_inv
  obtain ⟨x1, rfl, b1, c1⟩ := h1.list_inv
  rw [g1.nil_inv]
  exact ⟨x0, x1, rfl, b0, ⟨b1, c1⟩⟩
theorem inv_Path {B : Nat} {e : List D} (h : OkC B (lay 10) e) : ∃ x0 x1 x2, e = [.bool x0, .int .i64 x1, .list 2 false x2] ∧ (True) ∧ (-9223372036854775808 ≤ x1 ∧ x1 ≤ 9223372036854775807) ∧ (x2.length ≤ B ∧ OkE B 9 x2) := by
  obtain ⟨_, _, rfl, h0, g0⟩ := h.cons_inv
  obtain ⟨x0, rfl⟩ := h0.bool_inv
  obtain ⟨_, _, rfl, h1, g1⟩ := g0.cons_inv
  obtain ⟨x1, rfl, b1⟩ := h1.int_inv
  obtain ⟨_, _, rfl, h2, g2⟩ := g1.cons_inv
  obtain ⟨x2, rfl, b2, c2⟩ := h2.list_inv
  rw [g2.nil_inv]
  exact ⟨x0, x1, x2, rfl, trivial, ⟨b1.1, b1.2⟩, ⟨b2, c2⟩⟩
theorem inv_Expr {B : Nat} {e : List D} (h : OkC B (lay 11) e) : ∃ x0 x1 x2 x3 x4 x5 x6, e = [.int .i64 x0, .int .i64 x1, .str x2, .bool x3, .int .i64 x4, .list 2 false x5, .list 7 false x6] ∧ (-9223372036854775808 ≤ x0 ∧ x0 ≤ 9223372036854775807) ∧ (-9223372036854775808 ≤ x1 ∧ x1 ≤ 9223372036854775807) ∧ (x2.size ≤ maxLen) ∧ (True) ∧ (-9223372036854775808 ≤ x4 ∧ x4 ≤ 9223372036854775807) ∧ (x5.length ≤ B ∧ OkE B 9 x5) ∧ (x6.length ≤ B ∧ OkE B 11 x6) := by
  obtain ⟨_, _, rfl, h0, g0⟩ := h.cons_inv
  obtain ⟨x0, rfl, b0⟩ := h0.int_inv
  obtain ⟨_, _, rfl, h1, g1⟩ := g0.cons_inv
  obtain ⟨x1, rfl, b1⟩ := h1.int_inv
  obtain ⟨_, _, rfl, h2, g2⟩ := g1.cons_inv
  obtain ⟨x2, rfl, b2⟩ := h2.str_inv
  obtain ⟨_, _, rfl, h3, g3⟩ := g2.cons_inv
  obtain ⟨x3, rfl⟩ := h3.bool_inv
  obtain ⟨_, _, rfl, h4, g4⟩ := g3.cons_inv
  obtain ⟨x4, rfl, b4⟩ := h4.int_inv
  obtain ⟨_, _, rfl, h5, g5⟩ := g4.cons_inv
  obtain ⟨x5, rfl, b5, c5⟩ := h5.list_inv
  obtain ⟨_, _, rfl, h6, g6⟩ := g5.cons_inv
  obtain ⟨x6, rfl, b6, c6⟩ := h6.list_inv
  rw [g6.nil_inv]
  exact ⟨x0, x1, x2, x3, x4, x5, x6, rfl, ⟨b0.1, b0.2⟩, ⟨b1.1, b1.2⟩, b2, trivial, ⟨b4.1, b4.2⟩, ⟨b5, c5⟩, ⟨b6, c6⟩⟩
theorem inv_Schema {B : Nat} {e : List D} (h : OkC B (lay 12) e) : ∃ x0 x1 x2 x3 x4 x5 x6 x7 x8 x9 x10 x11 x12 x13 x14 x15 x16 x17 x18, e = [.int .i64 x0, .str x1, .int .i64 x2, .list 2 true x3, .list 1 true x4, .str x5, .str x6, .list 1 true x7, .list 1 true x8, .str x9, .bool x10, .bool x11, .bool x12, .bool x13, .int .i64 x14, .int .i64 x15, .list 7 false x16, .list 7 false x17, .list 19 false x18] ∧ (-9223372036854775808 ≤ x0 ∧ x0 ≤ 9223372036854775807) ∧ (x1.size ≤ maxLen) ∧ (-9223372036854775808 ≤ x2 ∧ x2 ≤ 9223372036854775807) ∧ (x3.length ≤ B ∧ OkE B 6 x3) ∧ (x4.length ≤ B ∧ OkE B 0 x4) ∧ (x5.size ≤ maxLen) ∧ (x6.size ≤ maxLen) ∧ (x7.length ≤ B ∧ OkE B 0 x7) ∧ (x8.length ≤ B ∧ OkE B 0 x8) ∧ (x9.size ≤ maxLen) ∧ (True) ∧ (True) ∧ (True) ∧ (True) ∧ (-9223372036854775808 ≤ x14 ∧ x14 ≤ 9223372036854775807) ∧ (-9223372036854775808 ≤ x15 ∧ x15 ≤ 9223372036854775807) ∧ (x16.length ≤ B ∧ OkE B 11 x16) ∧ (x17.length ≤ B ∧ OkE B 11 x17) ∧ (x18.length ≤ B ∧ OkE B 12 x18) := by
  obtain ⟨_, _, rfl, h0, g0⟩ := h.cons_inv
  obtain ⟨x0, rfl, b0⟩ := h0.int_inv
  obtain ⟨_, _, rfl, h1, g1⟩ := g0.cons_inv
  obtain ⟨x1, rfl, b1⟩ := h1.str_inv
  obtain ⟨_, _, rfl, h2, g2⟩ := g1.cons_inv
  obtain ⟨x2, rfl, b2⟩ := h2.int_inv
  obtain ⟨_, _, rfl, h3, g3⟩ := g2.cons_inv
  obtain ⟨x3, rfl, b3, c3⟩ := h3.list_inv
  obtain ⟨_, _, rfl, h4, g4⟩ := g3.cons_inv
  obtain ⟨x4, rfl, b4, c4⟩ := h4.list_inv
  obtain ⟨_, _, rfl, h5, g5⟩ := g4.cons_inv
  obtain ⟨x5, rfl, b5⟩ := h5.str_inv
  obtain ⟨_, _, rfl, h6, g6⟩ := g5.cons_inv
  obtain ⟨x6, rfl, b6⟩ := h6.str_inv
  obtain ⟨_, _, rfl, h7, g7⟩ := g6.cons_inv
  obtain ⟨x7, rfl, b7, c7⟩ := h7.list_inv
  obtain ⟨_, _, rfl, h8, g8⟩ := g7.cons_inv
  obtain ⟨x8, rfl, b8, c8⟩ := h8.list_inv
  obtain ⟨_, _, rfl, h9, g9⟩ := g8.cons_inv
  obtain ⟨x9, rfl, b9⟩ := h9.str_inv
  obtain ⟨_, _, rfl, h10, g10⟩ := g9.cons_inv
  obtain ⟨x10, rfl⟩ := h10.bool_inv
  obtain ⟨_, _, rfl, h11, g11⟩ := g10.cons_inv
  obtain ⟨x11, rfl⟩ := h11.bool_inv
  obtain ⟨_, _, rfl, h12, g12⟩ := g11.cons_inv
  obtain ⟨x12, rfl⟩ := h12.bool_inv
  obtain ⟨_, _, rfl, h13, g13⟩ := g12.cons_inv
  obtain ⟨x13, rfl⟩ := h13.bool_inv
  obtain ⟨_, _, rfl, h14, g14⟩ := g13.cons_inv
  obtain ⟨x14, rfl, b14⟩ := h14.int_inv
  obtain ⟨_, _, rfl, h15, g15⟩ := g14.cons_inv
  obtain ⟨x15, rfl, b15⟩ := h15.int_inv
  obtain ⟨_, _, rfl, h16, g16⟩ := g15.cons_inv
  obtain ⟨x16, rfl, b16, c16⟩ := h16.list_inv
  obtain ⟨_, _, rfl, h17, g17⟩ := g16.cons_inv
  obtain ⟨x17, rfl, b17, c17⟩ := h17.list_inv
  obtain ⟨_, _, rfl, h18, g18⟩ := g17.cons_inv
  obtain ⟨x18, rfl, b18, c18⟩ := h18.list_inv
  rw [g18.nil_inv]
  exact ⟨x0, x1, x2, x3, x4, x5, x6, x7, x8, x9, x10, x11, x12, x13, x14, x15, x16, x17, x18, rfl, ⟨b0.1, b0.2⟩, b1, ⟨b2.1, b2.2⟩, ⟨b3, c3⟩, ⟨b4, c4⟩, b5, b6, ⟨b7, c7⟩, ⟨b8, c8⟩, b9, trivial, trivial, trivial, trivial, ⟨b14.1, b14.2⟩, ⟨b15.1, b15.2⟩, ⟨b16, c16⟩, ⟨b17, c17⟩, ⟨b18, c18⟩⟩
theorem inv_Node {B : Nat} {e : List D} (h : OkC B (lay 2) e) : ∃ x0 x1 x2, e = [.str x0, .str x1, .list 3 false x2] ∧ (x0.size ≤ maxLen) ∧ (x1.size ≤ maxLen) ∧ (x2.length ≤ B ∧ OkE B 2 x2) := by
  obtain ⟨_, _, rfl, h0, g0⟩ := h.cons_inv
  obtain ⟨x0, rfl, b0⟩ := h0.str_inv
  obtain ⟨_, _, rfl, h1, g1⟩ := g0.cons_inv
  obtain ⟨x1, rfl, b1⟩ := h1.str_inv
  obtain ⟨_, _, rfl, h2, g2⟩ := g1.cons_inv
  obtain ⟨x2, rfl, b2, c2⟩ := h2.list_inv
  rw [g2.nil_inv]
  exact ⟨x0, x1, x2, rfl, b0, b1, ⟨b2, c2⟩⟩
theorem inv_Edit {B : Nat} {e : List D} (h : OkC B (lay 3) e) : ∃ x0 x1 x2 x3, e = [.int .i64 x0, .str x1, .str x2, .list 4 false x3] ∧ (-9223372036854775808 ≤ x0 ∧ x0 ≤ 9223372036854775807) ∧ (x1.size ≤ maxLen) ∧ (x2.size ≤ maxLen) ∧ (x3.length ≤ B ∧ OkE B 3 x3) := by
  obtain ⟨_, _, rfl, h0, g0⟩ := h.cons_inv
  obtain ⟨x0, rfl, b0⟩ := h0.int_inv
  obtain ⟨_, _, rfl, h1, g1⟩ := g0.cons_inv
  obtain ⟨x1, rfl, b1⟩ := h1.str_inv
  obtain ⟨_, _, rfl, h2, g2⟩ := g1.cons_inv
  obtain ⟨x2, rfl, b2⟩ := h2.str_inv
  obtain ⟨_, _, rfl, h3, g3⟩ := g2.cons_inv
  obtain ⟨x3, rfl, b3, c3⟩ := h3.list_inv
  rw [g3.nil_inv]
  exact ⟨x0, x1, x2, x3, rfl, ⟨b0.1, b0.2⟩, b1, b2, ⟨b3, c3⟩⟩
theorem inv_Change {B : Nat} {e : List D} (h : OkC B (lay 4) e) : ∃ x0 x1 x2, e = [.int .i64 x0, .int .i64 x1, .list 4 false x2] ∧ (-9223372036854775808 ≤ x0 ∧ x0 ≤ 9223372036854775807) ∧ (-9223372036854775808 ≤ x1 ∧ x1 ≤ 9223372036854775807) ∧ (x2.length ≤ B ∧ OkE B 3 x2) := by
  obtain ⟨_, _, rfl, h0, g0⟩ := h.cons_inv
  obtain ⟨x0, rfl, b0⟩ := h0.int_inv
  obtain ⟨_, _, rfl, h1, g1⟩ := g0.cons_inv
  obtain ⟨x1, rfl, b1⟩ := h1.int_inv
  obtain ⟨_, _, rfl, h2, g2⟩ := g1.cons_inv
  obtain ⟨x2, rfl, b2, c2⟩ := h2.list_inv
  rw [g2.nil_inv]
  exact ⟨x0, x1, x2, rfl, ⟨b0.1, b0.2⟩, ⟨b1.1, b1.2⟩, ⟨b2, c2⟩⟩
theorem inv_Journal {B : Nat} {e : List D} (h : OkC B (lay 5) e) : ∃ x0 x1, e = [.list 3 false x0, .list 3 false x1] ∧ (x0.length ≤ B ∧ OkE B 2 x0) ∧ (x1.length ≤ B ∧ OkE B 4 x1) := by
  obtain ⟨_, _, rfl, h0, g0⟩ := h.cons_inv
  obtain ⟨x0, rfl, b0, c0⟩ := h0.list_inv
  obtain ⟨_, _, rfl, h1, g1⟩ := g0.cons_inv
  obtain ⟨x1, rfl, b1, c1⟩ := h1.list_inv
  rw [g1.nil_inv]
  exact ⟨x0, x1, rfl, ⟨b0, c0⟩, ⟨b1, c1⟩⟩
theorem inv_Rule {B : Nat} {e : List D} (h : OkC B (lay 1) e) : ∃ x0 x1 x2 x3, e = [.str x0, .list 1 true x1, .int .i64 x2, .bool x3] ∧ (x0.size ≤ maxLen) ∧ (x1.length ≤ B ∧ OkE B 0 x1) ∧ (-9223372036854775808 ≤ x2 ∧ x2 ≤ 9223372036854775807) ∧ (True) := by
  obtain ⟨_, _, rfl, h0, g0⟩ := h.cons_inv
  obtain ⟨x0, rfl, b0⟩ := h0.str_inv
  obtain ⟨_, _, rfl, h1, g1⟩ := g0.cons_inv
  obtain ⟨x1, rfl, b1, c1⟩ := h1.list_inv
  obtain ⟨_, _, rfl, h2, g2⟩ := g1.cons_inv
  obtain ⟨x2, rfl, b2⟩ := h2.int_inv
  obtain ⟨_, _, rfl, h3, g3⟩ := g2.cons_inv
  obtain ⟨x3, rfl⟩ := h3.bool_inv
  rw [g3.nil_inv]
  exact ⟨x0, x1, x2, x3, rfl, b0, ⟨b1, c1⟩, ⟨b2.1, b2.2⟩, trivial⟩
theorem inv_Version {B : Nat} {e : List D} (h : OkC B (lay 13) e) : ∃ x0 x1 x2, e = [.list 3 false x0, .int .i64 x1, .int .i64 x2] ∧ (x0.length ≤ B ∧ OkE B 2 x0) ∧ (-9223372036854775808 ≤ x1 ∧ x1 ≤ 9223372036854775807) ∧ (-9223372036854775808 ≤ x2 ∧ x2 ≤ 9223372036854775807) := by
  obtain ⟨_, _, rfl, h0, g0⟩ := h.cons_inv
  obtain ⟨x0, rfl, b0, c0⟩ := h0.list_inv
  obtain ⟨_, _, rfl, h1, g1⟩ := g0.cons_inv
  obtain ⟨x1, rfl, b1⟩ := h1.int_inv
  obtain ⟨_, _, rfl, h2, g2⟩ := g1.cons_inv
  obtain ⟨x2, rfl, b2⟩ := h2.int_inv
  rw [g2.nil_inv]
  exact ⟨x0, x1, x2, rfl, ⟨b0, c0⟩, ⟨b1.1, b1.2⟩, ⟨b2.1, b2.2⟩⟩
theorem inv_Pending {B : Nat} {e : List D} (h : OkC B (lay 14) e) : ∃ x0 x1 x2 x3 x4, e = [.bool x0, .int .i64 x1, .int .i64 x2, .str x3, .list 3 false x4] ∧ (True) ∧ (-9223372036854775808 ≤ x1 ∧ x1 ≤ 9223372036854775807) ∧ (-9223372036854775808 ≤ x2 ∧ x2 ≤ 9223372036854775807) ∧ (x3.size ≤ maxLen) ∧ (x4.length ≤ B ∧ OkE B 2 x4) := by
  obtain ⟨_, _, rfl, h0, g0⟩ := h.cons_inv
  obtain ⟨x0, rfl⟩ := h0.bool_inv
  obtain ⟨_, _, rfl, h1, g1⟩ := g0.cons_inv
  obtain ⟨x1, rfl, b1⟩ := h1.int_inv
  obtain ⟨_, _, rfl, h2, g2⟩ := g1.cons_inv
  obtain ⟨x2, rfl, b2⟩ := h2.int_inv
  obtain ⟨_, _, rfl, h3, g3⟩ := g2.cons_inv
  obtain ⟨x3, rfl, b3⟩ := h3.str_inv
  obtain ⟨_, _, rfl, h4, g4⟩ := g3.cons_inv
  obtain ⟨x4, rfl, b4, c4⟩ := h4.list_inv
  rw [g4.nil_inv]
  exact ⟨x0, x1, x2, x3, x4, rfl, trivial, ⟨b1.1, b1.2⟩, ⟨b2.1, b2.2⟩, b3, ⟨b4, c4⟩⟩
theorem inv_Store {B : Nat} {e : List D} (h : OkC B (lay 15) e) : ∃ x0 x1 x2 x3 x4 x5 x6 x7 x8 x9, e = [.list 19 false x0, .list 3 false x1, .list 3 false x2, .int .i64 x3, .list 3 false x4, .bool x5, .int .i64 x6, .int .i64 x7, .str x8, .list 3 false x9] ∧ (x0.length ≤ B ∧ OkE B 12 x0) ∧ (x1.length ≤ B ∧ OkE B 2 x1) ∧ (x2.length ≤ B ∧ OkE B 2 x2) ∧ (-9223372036854775808 ≤ x3 ∧ x3 ≤ 9223372036854775807) ∧ (x4.length ≤ B ∧ OkE B 13 x4) ∧ (True) ∧ (-9223372036854775808 ≤ x6 ∧ x6 ≤ 9223372036854775807) ∧ (-9223372036854775808 ≤ x7 ∧ x7 ≤ 9223372036854775807) ∧ (x8.size ≤ maxLen) ∧ (x9.length ≤ B ∧ OkE B 2 x9) := by
  obtain ⟨_, _, rfl, h0, g0⟩ := h.cons_inv
  obtain ⟨x0, rfl, b0, c0⟩ := h0.list_inv
  obtain ⟨_, _, rfl, h1, g1⟩ := g0.cons_inv
  obtain ⟨x1, rfl, b1, c1⟩ := h1.list_inv
  obtain ⟨_, _, rfl, h2, g2⟩ := g1.cons_inv
  obtain ⟨x2, rfl, b2, c2⟩ := h2.list_inv
  obtain ⟨_, _, rfl, h3, g3⟩ := g2.cons_inv
  obtain ⟨x3, rfl, b3⟩ := h3.int_inv
  obtain ⟨_, _, rfl, h4, g4⟩ := g3.cons_inv
  obtain ⟨x4, rfl, b4, c4⟩ := h4.list_inv
  obtain ⟨_, _, rfl, h5, g5⟩ := g4.cons_inv
  obtain ⟨x5, rfl⟩ := h5.bool_inv
  obtain ⟨_, _, rfl, h6, g6⟩ := g5.cons_inv
  obtain ⟨x6, rfl, b6⟩ := h6.int_inv
  obtain ⟨_, _, rfl, h7, g7⟩ := g6.cons_inv
  obtain ⟨x7, rfl, b7⟩ := h7.int_inv
  obtain ⟨_, _, rfl, h8, g8⟩ := g7.cons_inv
  obtain ⟨x8, rfl, b8⟩ := h8.str_inv
  obtain ⟨_, _, rfl, h9, g9⟩ := g8.cons_inv
  obtain ⟨x9, rfl, b9, c9⟩ := h9.list_inv
  rw [g9.nil_inv]
  exact ⟨x0, x1, x2, x3, x4, x5, x6, x7, x8, x9, rfl, ⟨b0, c0⟩, ⟨b1, c1⟩, ⟨b2, c2⟩, ⟨b3.1, b3.2⟩, ⟨b4, c4⟩, trivial, ⟨b6.1, b6.2⟩, ⟨b7.1, b7.2⟩, b8, ⟨b9, c9⟩⟩

end Go.Proofs.Ytmaigpiappmpcaa
