/-
  Plain data V, and what it is that cells of memory hold it: Rep w v cs F (v: the datum, cs: its cells, F: the blocks in which its slices lie). No program is named here.
-/
import Derived.WalkKit
import Derived.WalkSpells
import Derived.WalkLawsBesides
import Derived.Deep.LoopGhost
import Derived.OrdersHeld
namespace Go.Proofs.Ytmaigpiappmpcaa
set_option linter.unusedVariables false
set_option linter.unusedSimpArgs false
open Go.RowKit

inductive V where
  | int (n : Int)
  | bool (b : Bool)
  | str (s : ByteArray)
  | list (xs : List V)
  | agg (fs : List V)

mutual
def V.width : V → Nat
  | .int _ => 1
  | .bool _ => 1
  | .str _ => 1
  | .list _ => 1
  | .agg fs => V.widths fs
def V.widths : List V → Nat
  | [] => 0
  | f :: fs => V.width f + V.widths fs
end

mutual
def V.bulk : V → Nat
  | .int _ => 0
  | .bool _ => 0
  | .str s => s.size
  | .list xs => xs.length + V.bulks xs
  | .agg fs => V.bulks fs
def V.bulks : List V → Nat
  | [] => 0
  | f :: fs => V.bulk f + V.bulks fs
end

mutual
def V.cnt : V → Nat
  | .int _ => 1
  | .bool _ => 1
  | .str _ => 1
  | .list xs => V.cnts xs + 1
  | .agg fs => V.cnts fs + 1
def V.cnts : List V → Nat
  | [] => 0
  | f :: fs => V.cnt f + V.cnts fs + 1
end

/-- the cells cs lie in block b from o on -/
def Lies (w : World) (b o : Nat) (cs : List Value) : Prop := ∀ j u, cs[j]? = some u → w.cell? ⟨b, o + j, none⟩ = some u

mutual
def Rep (w : World) : V → List Value → List Nat → Prop
  | .int n, cs, F => cs = [.int .i64 n] ∧ F = [] ∧ -9223372036854775808 ≤ n ∧ n ≤ 9223372036854775807
  | .bool b, cs, F => cs = [.bool b] ∧ F = []
  | .str s, cs, F => cs = [.string s] ∧ F = [] ∧ s.size ≤ 9223372036854775807
  | .agg fs, cs, F => RepFs w fs cs F
  | .list xs, cs, F => ∃ A n c, cs = [.slice A n c] ∧ n = xs.length ∧ n ≤ c ∧ c ≤ 9223372036854775807 ∧
      ((n = 0 ∧ F = []) ∨ ∃ b o G, A = some ⟨b, o, none⟩ ∧ b < w.heap.size ∧ F = b :: G ∧ RepEs w xs b o G)
def RepFs (w : World) : List V → List Value → List Nat → Prop
  | [], cs, F => cs = [] ∧ F = []
  | f :: fs, cs, F => ∃ c1 c2 F1 F2, cs = c1 ++ c2 ∧ F = F1 ++ F2 ∧ Rep w f c1 F1 ∧ RepFs w fs c2 F2
def RepEs (w : World) : List V → Nat → Nat → List Nat → Prop
  | [], _, _, F => F = []
  | x :: xs, b, o, F => ∃ cs F1 F2, F = F1 ++ F2 ∧ Rep w x cs F1 ∧ Lies w b o cs ∧ RepEs w xs b (o + V.width x) F2
end

theorem add_mk (b o n : Nat) : (⟨b, o, none⟩ : Addr).add n = ⟨b, o + n, none⟩ := by
  unfold Addr.add; split
  · rename_i h; subst h; rfl
  · rfl

theorem Lies.keep {w w' : World} {b o : Nat} {cs : List Value} (h : Lies w b o cs) (hk : w'.heap[b]? = w.heap[b]?) : Lies w' b o cs := by
  intro j u hu
  rw [World.cell?_of_block (w := w) hk]
  exact h j u hu

theorem Lies.sub {w : World} {b o : Nat} {cs : List Value} (h : Lies w b o cs) (j k : Nat) : Lies w b (o + j) ((cs.drop j).take k) := by
  intro i u hu
  rw [List.getElem?_take] at hu
  split at hu
  · rw [List.getElem?_drop] at hu
    rw [Nat.add_assoc]
    exact h _ u hu
  · cases hu

theorem lt_of_get {w : World} {b : Nat} {o : Obj} (h : w.heap[b]? = some o) : b < w.heap.size := by
  rcases Nat.lt_or_ge b w.heap.size with hl | hl
  · exact hl
  · simp [Array.getElem?_eq_none hl] at h

theorem lt_keep {w w' : World} {b : Nat} (hb : b < w.heap.size) (hk : w'.heap[b]? = w.heap[b]?) : b < w'.heap.size := by
  rw [Array.getElem?_eq_getElem hb] at hk
  exact lt_of_get hk

mutual
theorem Rep.keep {w w' : World} : ∀ (v : V) {cs : List Value} {F : List Nat}, Rep w v cs F → (∀ g ∈ F, w'.heap[g]? = w.heap[g]?) → Rep w' v cs F
  | .int _, _, _, h, _ => by simpa only [Rep] using h
  | .bool _, _, _, h, _ => by simpa only [Rep] using h
  | .str _, _, _, h, _ => by simpa only [Rep] using h
  | .agg fs, _, _, h, hk => by
    simp only [Rep] at h ⊢
    exact RepFs.keep fs h hk
  | .list xs, _, _, h, hk => by
    simp only [Rep] at h ⊢
    obtain ⟨A, n, c, h1, h2, h3, h4, h5⟩ := h
    refine ⟨A, n, c, h1, h2, h3, h4, ?_⟩
    rcases h5 with h5 | ⟨b, o, G, h5, hb, h6, h7⟩
    · exact .inl h5
    · subst h6
      exact .inr ⟨b, o, G, h5, lt_keep hb (hk _ (by simp)), rfl, RepEs.keep xs h7 (hk _ (by simp)) (fun g hg => hk g (by simp [hg]))⟩
theorem RepFs.keep {w w' : World} : ∀ (fs : List V) {cs : List Value} {F : List Nat}, RepFs w fs cs F → (∀ g ∈ F, w'.heap[g]? = w.heap[g]?) → RepFs w' fs cs F
  | [], _, _, h, _ => by simpa only [RepFs] using h
  | f :: fs, _, _, h, hk => by
    simp only [RepFs] at h ⊢
    obtain ⟨c1, c2, F1, F2, h1, h2, h3, h4⟩ := h
    subst h2
    exact ⟨c1, c2, F1, F2, h1, rfl, Rep.keep f h3 (fun g hg => hk g (by simp [hg])), RepFs.keep fs h4 (fun g hg => hk g (by simp [hg]))⟩
theorem RepEs.keep {w w' : World} : ∀ (xs : List V) {b o : Nat} {F : List Nat}, RepEs w xs b o F → w'.heap[b]? = w.heap[b]? → (∀ g ∈ F, w'.heap[g]? = w.heap[g]?) → RepEs w' xs b o F
  | [], _, _, _, h, _, _ => by simpa only [RepEs] using h
  | x :: xs, _, _, _, h, ha, hk => by
    simp only [RepEs] at h ⊢
    obtain ⟨cs, F1, F2, h1, h2, h3, h4⟩ := h
    subst h1
    exact ⟨cs, F1, F2, rfl, Rep.keep x h2 (fun g hg => hk g (by simp [hg])), h3.keep ha, RepEs.keep xs h4 ha (fun g hg => hk g (by simp [hg]))⟩
end

mutual
theorem Rep.length {w : World} : ∀ (v : V) {cs : List Value} {F : List Nat}, Rep w v cs F → cs.length = V.width v
  | .int _, _, _, h => by simp only [Rep] at h; simp [h.1, V.width]
  | .bool _, _, _, h => by simp only [Rep] at h; simp [h.1, V.width]
  | .str _, _, _, h => by simp only [Rep] at h; simp [h.1, V.width]
  | .agg fs, _, _, h => by simp only [Rep] at h; simp only [V.width]; exact RepFs.length fs h
  | .list xs, _, _, h => by
    simp only [Rep] at h
    obtain ⟨A, n, c, h1, _⟩ := h
    simp [h1, V.width]
theorem RepFs.length {w : World} : ∀ (fs : List V) {cs : List Value} {F : List Nat}, RepFs w fs cs F → cs.length = V.widths fs
  | [], _, _, h => by simp only [RepFs] at h; simp [h.1, V.widths]
  | f :: fs, _, _, h => by
    simp only [RepFs] at h
    obtain ⟨c1, c2, F1, F2, h1, h2, h3, h4⟩ := h
    simp [h1, V.widths, Rep.length f h3, RepFs.length fs h4]
end

mutual
/-- every block of a footprint is there -/
theorem Rep.lt {w : World} : ∀ (v : V) {cs : List Value} {F : List Nat}, Rep w v cs F → ∀ g ∈ F, g < w.heap.size
  | .int _, _, _, h => by simp only [Rep] at h; simp [h.2.1]
  | .bool _, _, _, h => by simp only [Rep] at h; simp [h.2]
  | .str _, _, _, h => by simp only [Rep] at h; simp [h.2.1]
  | .agg fs, _, _, h => by simp only [Rep] at h; exact RepFs.lt fs h
  | .list xs, _, _, h => by
    simp only [Rep] at h
    obtain ⟨A, n, c, h1, _, _, _, h5⟩ := h
    rcases h5 with h5 | ⟨b, o, G, h5, hb, h6, h7⟩
    · simp [h5.2]
    · intro g hg
      rw [h6, List.mem_cons] at hg
      rcases hg with hg | hg
      · omega
      · exact RepEs.lt xs h7 g hg
theorem RepFs.lt {w : World} : ∀ (fs : List V) {cs : List Value} {F : List Nat}, RepFs w fs cs F → ∀ g ∈ F, g < w.heap.size
  | [], _, _, h => by simp only [RepFs] at h; simp [h.2]
  | f :: fs, _, _, h => by
    simp only [RepFs] at h
    obtain ⟨c1, c2, F1, F2, h1, h2, h3, h4⟩ := h
    intro g hg
    rw [h2, List.mem_append] at hg
    rcases hg with hg | hg
    · exact Rep.lt f h3 g hg
    · exact RepFs.lt fs h4 g hg
theorem RepEs.lt {w : World} : ∀ (xs : List V) {b o : Nat} {F : List Nat}, RepEs w xs b o F → ∀ g ∈ F, g < w.heap.size
  | [], _, _, _, h => by simp only [RepEs] at h; simp [h]
  | x :: xs, _, _, _, h => by
    simp only [RepEs] at h
    obtain ⟨cs, F1, F2, h1, h2, h3, h4⟩ := h
    intro g hg
    rw [h1, List.mem_append] at hg
    rcases hg with hg | hg
    · exact Rep.lt x h2 g hg
    · exact RepEs.lt xs h4 g hg
end

/-- below block number B the world is as it was, and nothing from B on is frozen -/
structure Bel (B : Nat) (w w' : World) : Prop extends Below B w w' where
  thaw : ∀ g, B ≤ g → ∀ o, w'.frozen? ⟨g, o, none⟩ = false
theorem frozen_out {w : World} {g : Nat} (h : w.heap.size ≤ g) (o : Nat) : w.frozen? ⟨g, o, none⟩ = false := by
  simp [World.frozen?, Array.getElem?_eq_none h]
theorem bel_refl (w : World) : Bel w.heap.size w w := ⟨Below.refl _ _, fun _ hg o => frozen_out hg o⟩
theorem Bel.drew {B : Nat} {a w : World} (h : Bel B a w) : Bel B a w.drew := ⟨h.toBelow.drew, h.thaw⟩
theorem bel_next {B : Nat} {a w w' : World} (h : Bel B a w) (hk : Bel w.heap.size w w') (hB : B ≤ w.heap.size) : Bel B a w' := by
  refine ⟨h.toBelow.trans (hk.toBelow.mono hB), fun g hg o => ?_⟩
  rcases Nat.lt_or_ge g w.heap.size with hl | hl
  · rw [World.frozen?_of_block (w := w) (hk.block g hl)]
    exact h.thaw g hg o
  · exact hk.thaw g hl o
theorem bel_alloc (w : World) (cs : Array Value) (t : TypeId) : Bel w.heap.size w (w.alloc (.cells cs t)) := by
  refine ⟨(Below.refl _ _).alloc (Nat.le_refl _) _, fun g hg o => ?_⟩
  by_cases e : g = w.heap.size
  · subst e
    unfold World.frozen?
    simp only [heap_alloc_new]
    simp
  · exact frozen_out (by simp; omega) o
theorem Rep.below {w w' : World} {v : V} {cs : List Value} {F : List Nat} (h : Rep w v cs F) (hb : Bel w.heap.size w w') : Rep w' v cs F :=
  h.keep v fun g hg => hb.block g (Rep.lt v h g hg)
theorem Rep.belowB {w w' : World} {B : Nat} {v : V} {cs : List Value} {F : List Nat} (h : Rep w v cs F) (hF : ∀ g ∈ F, g < B) (hb : Below B w w') : Rep w' v cs F :=
  h.keep v fun g hg => hb.block g (hF g hg)

/-- an element of a list whose elements are k cells wide -/
theorem RepEs.at_ {w : World} {k : Nat} : ∀ (xs : List V) {b o : Nat} {F : List Nat}, RepEs w xs b o F → (∀ x ∈ xs, V.width x = k) →
    ∀ (i : Nat) (x : V), xs[i]? = some x → ∃ cs G, Rep w x cs G ∧ (∀ g ∈ G, g ∈ F) ∧ Lies w b (o + i * k) cs ∧ cs.length = k
  | [], _, _, _, _, _, i, x, hi => by simp at hi
  | y :: ys, b, o, F, h, hw, i, x, hi => by
    simp only [RepEs] at h
    obtain ⟨cs, F1, F2, h1, h2, h3, h4⟩ := h
    cases i with
    | zero =>
      simp at hi
      subst hi
      exact ⟨cs, F1, h2, fun g hg => by rw [h1]; simp [hg], by simpa using h3, by rw [Rep.length y h2]; exact hw y (by simp)⟩
    | succ i =>
      simp at hi
      obtain ⟨cs', G, a1, a2, a3, a4⟩ := RepEs.at_ ys h4 (fun z hz => hw z (by simp [hz])) i x hi
      refine ⟨cs', G, a1, fun g hg => by rw [h1]; simp [a2 g hg], ?_, a4⟩
      rw [hw y (by simp)] at a3
      rw [Nat.succ_mul, show o + (i * k + k) = o + k + i * k from by omega]
      exact a3

theorem Rep.elem {w : World} {k : Nat} {xs : List V} {A : Option Addr} {n c : Nat} {F : List Nat} (h : Rep w (.list xs) [.slice A n c] F) (hw : ∀ x ∈ xs, V.width x = k) {i : Nat} (hi : i < n) :
    ∃ b o x cs G, A = some ⟨b, o, none⟩ ∧ b ∈ F ∧ b < w.heap.size ∧ xs[i]? = some x ∧ Rep w x cs G ∧ (∀ g ∈ G, g ∈ F) ∧ Lies w b (o + i * k) cs ∧ cs.length = k := by
  simp only [Rep] at h
  obtain ⟨A', n', c', h1, h2, h3, h4, h5⟩ := h
  simp only [List.cons.injEq, Value.slice.injEq, and_true] at h1
  obtain ⟨rfl, rfl, rfl⟩ := h1
  rcases h5 with h5 | ⟨b, o, G, h5, hb, h6, h7⟩
  · omega
  · have hx : xs[i]? = some (xs[i]'(by omega)) := List.getElem?_eq_getElem (by omega)
    obtain ⟨cs, G', a1, a2, a3, a4⟩ := RepEs.at_ xs h7 hw i _ hx
    exact ⟨b, o, _, cs, G', h5, by rw [h6]; simp, hb, hx, a1, fun g hg => by rw [h6]; simp [a2 g hg], a3, a4⟩

theorem Rep.elemx {w : World} {k : Nat} {xs : List V} {A : Option Addr} {n c : Nat} {F : List Nat} (h : Rep w (.list xs) [.slice A n c] F) (hw : ∀ x ∈ xs, V.width x = k) {i : Nat} {x : V} (hx : xs[i]? = some x) :
    ∃ b o cs G, A = some ⟨b, o, none⟩ ∧ b ∈ F ∧ b < w.heap.size ∧ Rep w x cs G ∧ (∀ g ∈ G, g ∈ F) ∧ Lies w b (o + i * k) cs ∧ cs.length = k := by
  have hi : i < n := by
    have h1 := (List.getElem?_eq_some_iff.1 hx).1
    simp only [Rep] at h
    obtain ⟨A', n', c', e, h2, _⟩ := h
    simp only [List.cons.injEq, Value.slice.injEq, and_true] at e
    omega
  obtain ⟨b, o, x', cs, G, h1, h2, h3, h4, h5, h6, h7, h8⟩ := h.elem hw hi
  rw [hx] at h4
  cases h4
  exact ⟨b, o, cs, G, h1, h2, h3, h5, h6, h7, h8⟩

theorem Rep.len {w : World} {xs : List V} {A : Option Addr} {n c : Nat} {F : List Nat} (h : Rep w (.list xs) [.slice A n c] F) : n = xs.length ∧ n ≤ c ∧ c ≤ 9223372036854775807 := by
  simp only [Rep] at h
  obtain ⟨A', n', c', h1, h2, h3, h4, _⟩ := h
  simp only [List.cons.injEq, Value.slice.injEq, and_true] at h1
  obtain ⟨rfl, rfl, rfl⟩ := h1
  exact ⟨h2, h3, h4⟩

theorem RepEs.take {w : World} : ∀ (xs : List V) {b o : Nat} {F : List Nat} (k : Nat), RepEs w xs b o F → ∃ G, RepEs w (xs.take k) b o G ∧ ∀ g ∈ G, g ∈ F
  | [], _, _, F, k, h => ⟨F, by simpa using h, fun _ h => h⟩
  | x :: xs, b, o, F, 0, h => ⟨[], by simp [RepEs], fun _ h => by simp at h⟩
  | x :: xs, b, o, F, k + 1, h => by
    simp only [RepEs] at h
    obtain ⟨cs, F1, F2, rfl, h2, h3, h4⟩ := h
    obtain ⟨G, h5, h6⟩ := RepEs.take xs k h4
    refine ⟨F1 ++ G, ?_, fun g hg => ?_⟩
    · simp only [List.take_succ_cons, RepEs]
      exact ⟨cs, F1, G, rfl, h2, h3, h5⟩
    · rcases List.mem_append.1 hg with hg | hg
      · simp [hg]
      · simp [h6 g hg]
theorem Rep.take {w : World} {xs : List V} {A : Option Addr} {n c : Nat} {F : List Nat} (h : Rep w (.list xs) [.slice A n c] F) (k : Nat) (hk : k ≤ n) : ∃ G, Rep w (.list (xs.take k)) [.slice A k c] G ∧ ∀ g ∈ G, g ∈ F := by
  simp only [Rep] at h
  obtain ⟨A', n', c', h1, h2, h3, h4, h5⟩ := h
  simp only [List.cons.injEq, Value.slice.injEq, and_true] at h1
  obtain ⟨rfl, rfl, rfl⟩ := h1
  by_cases h0 : k = 0
  · subst h0
    refine ⟨[], ?_, fun _ h => by simp at h⟩
    simp only [Rep]
    exact ⟨A, 0, c, rfl, by simp, by omega, h4, .inl (by simp)⟩
  · rcases h5 with h5 | ⟨b, o, G, h5, hb, h6, h7⟩
    · omega
    · obtain ⟨G', h8, h9⟩ := RepEs.take xs k h7
      refine ⟨b :: G', ?_, fun g hg => ?_⟩
      · simp only [Rep]
        exact ⟨A, k, c, rfl, by rw [List.length_take]; omega, by omega, h4, .inr ⟨b, o, G', h5, hb, rfl, h8⟩⟩
      · rw [h6]
        rcases List.mem_cons.1 hg with rfl | hg
        · simp
        · simp [h9 g hg]

/-- a block that is known whole -/
def Blk (w : World) (g : Nat) (t : TypeId) (cs : List Value) : Prop := w.heap[g]? = some (.cells cs.toArray t (0, 0))
/-- block g is written whole -/
def setB (w : World) (g : Nat) (o : Obj) : World := { w with heap := w.heap.setIfInBounds g o }

section
variable {w w' : World} {g : Nat} {t : TypeId} {cs : List Value}
theorem Blk.lt (h : Blk w g t cs) : g < w.heap.size := lt_of_get h
theorem Blk.cell (h : Blk w g t cs) (i : Nat) : w.cell? ⟨g, i, none⟩ = cs[i]? := by
  unfold Blk at h
  simp [World.cell?, h]
theorem Blk.lies (h : Blk w g t cs) : Lies w g 0 cs := by
  intro j u hu
  rw [Nat.zero_add, h.cell, hu]
theorem Blk.frozen (h : Blk w g t cs) (i : Nat) : w.frozen? ⟨g, i, none⟩ = false := by
  unfold Blk at h
  simp [World.frozen?, h]
theorem Blk.new (w : World) (t : TypeId) (cs : List Value) : Blk (w.alloc (.cells cs.toArray t)) w.heap.size t cs := by
  unfold Blk
  exact heap_alloc_new w _
theorem Blk.keep (h : Blk w g t cs) (hk : w'.heap[g]? = w.heap[g]?) : Blk w' g t cs := hk.trans h
theorem Blk.alloc (h : Blk w g t cs) (o : Obj) : Blk (w.alloc o) g t cs := h.keep (Below.heap_alloc w o g h.lt)
theorem Blk.below (h : Blk w g t cs) (hb : Bel w.heap.size w w') : Blk w' g t cs := h.keep (hb.block g h.lt)
theorem heap_setB (w : World) (g : Nat) (o : Obj) (k : Nat) (h : k ≠ g) : (setB w g o).heap[k]? = w.heap[k]? := by
  simp [setB, Array.getElem?_setIfInBounds_ne (Ne.symm h)]
theorem size_setB (w : World) (g : Nat) (o : Obj) : (setB w g o).heap.size = w.heap.size := by simp [setB]
theorem Blk.setSame (h : Blk w g t cs) (t' : TypeId) (cs' : List Value) : Blk (setB w g (.cells cs'.toArray t' (0, 0))) g t' cs' := by
  unfold Blk setB
  simp [h.lt]
theorem Blk.setOther {k : Nat} (h : Blk w g t cs) (hk : g ≠ k) (o : Obj) : Blk (setB w k o) g t cs := h.keep (heap_setB w k o g hk)
theorem setCell_blk (h : Blk w g t cs) (i : Nat) (v : Value) : w.setCell ⟨g, i, none⟩ v = setB w g (.cells (cs.set i v).toArray t (0, 0)) := by
  unfold World.setCell setB
  congr 1
  apply Array.ext
  · simp
  · intro k h1 h2
    simp only [Array.size_modify] at h1
    simp only [Array.getElem_modify]
    split
    · rename_i e
      subst e
      have hg : w.heap[g]'h1 = .cells cs.toArray t (0, 0) := by
        have := h
        unfold Blk at this
        rw [Array.getElem?_eq_getElem h1] at this
        exact Option.some.inj this
      rw [hg]
      simp
    · rename_i e
      rw [Array.getElem_setIfInBounds_ne _ e]
end
theorem below_setB {B : Nat} {a w : World} (h : Below B a w) {g : Nat} (hg : B ≤ g) (o : Obj) : Below B a (setB w g o) :=
  h.trans ⟨rfl, rfl, rfl, by rw [size_setB]; exact Nat.le_refl _, fun k hk => heap_setB w g o k (by omega)⟩
theorem Rep.alloc {w : World} {v : V} {cs : List Value} {F : List Nat} (h : Rep w v cs F) (o : Obj) : Rep (w.alloc o) v cs F :=
  h.keep v fun g hg => Below.heap_alloc w o g (Rep.lt v h g hg)
theorem Rep.setB {w : World} {v : V} {cs : List Value} {F : List Nat} (h : Rep w v cs F) {k : Nat} (hk : k ∉ F) (o : Obj) : Rep (setB w k o) v cs F :=
  h.keep v fun g hg => heap_setB w k o g (fun e => hk (e ▸ hg))
theorem Rep.drew {w : World} {v : V} {cs : List Value} {F : List Nat} (h : Rep w v cs F) : Rep w.drew v cs F := h.keep v fun _ _ => rfl
theorem Blk.drew {w : World} {g : Nat} {t : TypeId} {cs : List Value} (h : Blk w g t cs) : Blk w.drew g t cs := h
theorem size_alloc (w : World) (o : Obj) : (w.alloc o).heap.size = w.heap.size + 1 := by simp

end Go.Proofs.Ytmaigpiappmpcaa
