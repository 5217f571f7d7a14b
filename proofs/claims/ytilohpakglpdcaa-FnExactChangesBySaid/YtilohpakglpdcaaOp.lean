/-
  One operation, whatever follows; typed data; what a call leaves. No program is named here.
-/
import Derived.Test.YtilohpakglpdcaaStep
namespace Go.Proofs.Ytilohpakglpdcaa
open Go.RowKit

/-! ### what calls leave -/
/-- the call hands back v and leaves what was there as it was -/
def Rets (w : World) (v : Value) (e : Ending) (w' : World) : Prop := e = .returned v ∧ Below w.heap.size w w'
/-- the call hands back a number -/
def RetI (w : World) (p : Int → Prop) (e : Ending) (w' : World) : Prop := ∃ r, e = .returned (.int .i64 r) ∧ p r ∧ Below w.heap.size w w'
/-- the call hands back whether p -/
def RetB (w : World) (p : Prop) (e : Ending) (w' : World) : Prop := ∃ r, e = .returned (.bool r) ∧ (r = true ↔ p) ∧ Below w.heap.size w w'
theorem iff_t {p : Prop} (h : p) : (true = true ↔ p) := ⟨fun _ => h, fun _ => rfl⟩
theorem iff_f {p : Prop} (h : ¬ p) : (false = true ↔ p) := ⟨fun e => Bool.noConfusion e, fun hp => absurd hp h⟩
theorem not_of_f {p : Prop} (h : false = true ↔ p) : ¬ p := fun hp => Bool.noConfusion (h.2 hp)
/-- the blocks F are all different and lie from lo to hi -/
structure Seg (F : List Nat) (lo hi : Nat) : Prop where
  nd : F.Nodup
  bd : ∀ g ∈ F, lo ≤ g ∧ g < hi
  le : lo ≤ hi
theorem seg_nil {lo hi : Nat} (h : lo ≤ hi) : Seg [] lo hi := ⟨List.nodup_nil, fun _ h => by simp at h, h⟩
theorem seg_app {F1 F2 : List Nat} {a b c d : Nat} (h1 : Seg F1 a b) (h2 : Seg F2 c d) (h : b ≤ c) : Seg (F1 ++ F2) a d := by
  refine ⟨List.nodup_append.2 ⟨h1.nd, h2.nd, fun x hx y hy e => ?_⟩, fun g hg => ?_, ?_⟩
  · have := h1.bd x hx; have := h2.bd y hy; omega
  · have l1 := h1.le; have l2 := h2.le
    rcases List.mem_append.1 hg with hg | hg
    · have := h1.bd g hg; omega
    · have := h2.bd g hg; omega
  · have l1 := h1.le; have l2 := h2.le; omega
theorem seg_rev {F1 F2 : List Nat} {a b c d : Nat} (h1 : Seg F1 c d) (h2 : Seg F2 a b) (h : b ≤ c) : Seg (F1 ++ F2) a d := by
  refine ⟨List.nodup_append.2 ⟨h1.nd, h2.nd, fun x hx y hy e => ?_⟩, fun g hg => ?_, ?_⟩
  · have := h1.bd x hx; have := h2.bd y hy; omega
  · have l1 := h1.le; have l2 := h2.le
    rcases List.mem_append.1 hg with hg | hg
    · have := h1.bd g hg; omega
    · have := h2.bd g hg; omega
  · have l1 := h1.le; have l2 := h2.le; omega
theorem seg_skip {F : List Nat} {a b : Nat} (h : Seg F a b) : Seg ([] ++ F) a b := h
theorem Seg.mono {F : List Nat} {a b a' b' : Nat} (h : Seg F a b) (h1 : a' ≤ a) (h2 : b ≤ b') : Seg F a' b' :=
  ⟨h.nd, fun g hg => by have := h.bd g hg; omega, by have := h.le; omega⟩
theorem seg_cons {F : List Nat} {g a b : Nat} (h : Seg F a b) (hg : g < a) : Seg (g :: F) g b := by
  refine ⟨List.nodup_cons.2 ⟨fun hm => ?_, h.nd⟩, fun x hx => ?_, ?_⟩
  · have := h.bd g hm; omega
  · have := h.le
    rcases List.mem_cons.1 hx with rfl | hx
    · omega
    · have := h.bd x hx; omega
  · have := h.le; omega
/-- the call hands back a datum of one cell, in memory of its own -/
def Ret1 (w : World) (v : V) (e : Ending) (w' : World) : Prop :=
  ∃ c F, e = .returned c ∧ Rep w' v [c] F ∧ Seg F w.heap.size w'.heap.size ∧ Below w.heap.size w w'
/-- .. a struct -/
def RetS (w : World) (v : V) (e : Ending) (w' : World) : Prop :=
  ∃ cs F, e = .returned (.agg cs.toArray) ∧ Rep w' v cs F ∧ Seg F w.heap.size w'.heap.size ∧ Below w.heap.size w w'

theorem RepFs.below {w w' : World} {fs : List V} {cs : List Value} {F : List Nat} (h : RepFs w fs cs F) (hb : Below w.heap.size w w') : RepFs w' fs cs F :=
  h.keep fs fun g hg => hb.block g (RepFs.lt fs h g hg)
theorem RepFs.off {w w' : World} {k : Nat} {fs : List V} {cs : List Value} {F : List Nat} (h : RepFs w fs cs F) (ho : Off k w w') (hne : k ∉ F) : RepFs w' fs cs F :=
  h.keep fs fun g hg => ho.block g (fun e => hne (e ▸ hg))
theorem RepFs.drew {w : World} {fs : List V} {cs : List Value} {F : List Nat} (h : RepFs w fs cs F) : RepFs w.drew fs cs F := h.keep fs fun _ _ => rfl
theorem RepFs.snoc {w : World} : ∀ (fs : List V) {cs ds : List Value} {F G : List Nat} {x : V}, RepFs w fs cs F → Rep w x ds G → RepFs w (fs ++ [x]) (cs ++ ds) (F ++ G)
  | [], cs, ds, F, G, x, h, hx => by
    simp only [RepFs] at h
    obtain ⟨rfl, rfl⟩ := h
    simp only [List.nil_append, RepFs]
    exact ⟨ds, [], G, [], by simp, by simp, hx, rfl, rfl⟩
  | f :: fs, cs, ds, F, G, x, h, hx => by
    simp only [RepFs] at h
    obtain ⟨c1, c2, F1, F2, rfl, rfl, h3, h4⟩ := h
    simp only [List.cons_append, RepFs]
    exact ⟨c1, c2 ++ ds, F1, F2 ++ G, by simp, by simp, h3, RepFs.snoc fs h4 hx⟩
theorem RepFs.toEs {w : World} : ∀ (fs : List V) {cs : List Value} {F : List Nat} {b o : Nat}, RepFs w fs cs F → Lies w b o cs → RepEs w fs b o F
  | [], cs, F, b, o, h, _ => by simp only [RepFs] at h; simp only [RepEs]; exact h.2
  | f :: fs, cs, F, b, o, h, hl => by
    simp only [RepFs] at h
    obtain ⟨c1, c2, F1, F2, rfl, rfl, h3, h4⟩ := h
    have hw := Rep.length f h3
    simp only [RepEs]
    refine ⟨c1, F1, F2, rfl, h3, fun j u hu => ?_, RepFs.toEs fs h4 fun j u hu => ?_⟩
    · have hj : j < c1.length := (List.getElem?_eq_some_iff.1 hu).1
      exact hl j u (by rw [List.getElem?_append_left hj]; exact hu)
    · have := hl (c1.length + j) u (by rw [List.getElem?_append_right (by omega)]; simpa using hu)
      rw [← hw, Nat.add_assoc]
      exact this
/-- a row of one's own that holds just the elements -/
theorem row_rep {w : World} {xs : List V} {cs : List Value} {F : List Nat} {g n c : Nat} {t : TypeId} (hb : Blk w g t cs) (h : RepFs w xs cs F) (hn : n = xs.length) (hc : n ≤ c) (hm : c ≤ 9223372036854775807) :
    Rep w (.list xs) [.slice (some ⟨g, 0, none⟩) n c] (if n = 0 then [] else g :: F) := by
  simp only [Rep]
  refine ⟨_, _, _, rfl, hn, hc, hm, ?_⟩
  by_cases h0 : n = 0
  · simp [h0]
  · rw [if_neg h0]
    exact .inr ⟨g, 0, F, rfl, hb.lt, rfl, RepFs.toEs xs h hb.lies⟩
theorem row_seg {F : List Nat} {g n lo hi : Nat} (h : Seg F (g + 1) hi) (hg : lo ≤ g) : Seg (if n = 0 then [] else g :: F) lo hi := by
  have := h.le
  by_cases h0 : n = 0
  · rw [if_pos h0]; exact seg_nil (by omega)
  · rw [if_neg h0]; exact (seg_cons h (by omega)).mono hg (Nat.le_refl _)
theorem take_splice {cs vs : List Value} {i k : Nat} (h : i * k + k ≤ cs.length) (hv : vs.length = k) : (splice cs (0 + i * k) vs).take ((i + 1) * k) = cs.take (i * k) ++ vs := by
  unfold splice
  rw [Nat.zero_add, Nat.succ_mul]
  have h1 : (cs.take (i * k) ++ vs).length = i * k + k := by simp [hv]; omega
  rw [← h1, List.take_left']
  rfl
theorem len_splice {cs vs : List Value} {i : Nat} (h : i + vs.length ≤ cs.length) : (splice cs i vs).length = cs.length := by
  unfold splice
  simp
  omega
theorem set_splice {cs : List Value} {i : Nat} {v : Value} (h : i < cs.length) : cs.set i v = splice cs i [v] := by
  unfold splice
  apply List.ext_getElem?
  intro k
  simp only [List.getElem?_append, List.length_append, List.length_take, List.length_cons, List.length_nil, List.getElem?_take, List.getElem?_set, List.getElem?_drop, List.getElem?_cons]
  grind
theorem rnone {w : World} : Rep w (.list []) [.slice none 0 0] [] := by
  simp only [Rep]
  refine ⟨none, 0, 0, rfl, rfl, Nat.le_refl _, by omega, ?_⟩
  simp

/-! ### the types of the data -/
inductive TD where
  | int | bool | str
  | list (t : Nat)
  | agg (ts : List Nat)
abbrev tInt : Nat := 0
abbrev tBool : Nat := 1
abbrev tStr : Nat := 2
abbrev tStrS : Nat := 3
abbrev tRule : Nat := 4
abbrev tRuleS : Nat := 5
abbrev tNode : Nat := 6
abbrev tNodeS : Nat := 7
abbrev tEdit : Nat := 8
abbrev tEditS : Nat := 9
abbrev tChange : Nat := 10
abbrev tChangeS : Nat := 11
abbrev tJournal : Nat := 12
abbrev tRange : Nat := 13
abbrev tRangeS : Nat := 14
abbrev tType : Nat := 15
abbrev tTest : Nat := 16
abbrev tTestS : Nat := 17
abbrev tStep : Nat := 18
abbrev tStepS : Nat := 19
abbrev tPath : Nat := 20
abbrev tExpr : Nat := 21
abbrev tExprS : Nat := 22
abbrev tSchema : Nat := 23
abbrev tSchemaS : Nat := 24
abbrev tVersion : Nat := 25
abbrev tVersionS : Nat := 26
abbrev tPending : Nat := 27
abbrev tStore : Nat := 28
def ty : Nat → TD
  | 0 => .int
  | 1 => .bool
  | 2 => .str
  | 3 => .list 2
  | 4 => .agg [2, 3, 0, 1]
  | 5 => .list 4
  | 6 => .agg [2, 2, 7]
  | 7 => .list 6
  | 8 => .agg [0, 2, 2, 9]
  | 9 => .list 8
  | 10 => .agg [0, 0, 9]
  | 11 => .list 10
  | 12 => .agg [7, 11]
  | 13 => .agg [0, 0]
  | 14 => .list 13
  | 15 => .agg [0, 14, 3, 2, 2]
  | 16 => .agg [2, 2]
  | 17 => .list 16
  | 18 => .agg [2, 17]
  | 19 => .list 18
  | 20 => .agg [1, 0, 19]
  | 21 => .agg [0, 0, 2, 20, 22]
  | 22 => .list 21
  | 23 => .agg [0, 2, 15, 3, 3, 2, 1, 1, 1, 1, 0, 0, 22, 22, 24]
  | 24 => .list 23
  | 25 => .agg [7, 0, 0]
  | 26 => .list 25
  | 27 => .agg [1, 0, 0, 2, 7]
  | 28 => .agg [24, 7, 7, 0, 26, 27]
  | _ => .int

mutual
def Ok : V → Nat → Prop
  | .int _, t => ty t = .int
  | .bool _, t => ty t = .bool
  | .str _, t => ty t = .str
  | .list xs, t => ∃ e, ty t = .list e ∧ Oks xs e
  | .agg fs, t => ∃ ts, ty t = .agg ts ∧ Okz fs ts
def Oks : List V → Nat → Prop
  | [], _ => True
  | x :: xs, e => Ok x e ∧ Oks xs e
def Okz : List V → List Nat → Prop
  | [], ts => ts = []
  | f :: fs, ts => ∃ t ts', ts = t :: ts' ∧ Ok f t ∧ Okz fs ts'
end

theorem Oks.get {e : Nat} : ∀ {xs : List V}, Oks xs e → ∀ {i : Nat} {x : V}, xs[i]? = some x → Ok x e
  | [], _, _, _, h => by simp at h
  | y :: ys, h, 0, x, hi => by simp at hi; subst hi; exact h.1
  | y :: ys, h, i + 1, x, hi => by simp at hi; exact Oks.get h.2 hi
theorem Oks.take {e : Nat} : ∀ {xs : List V}, Oks xs e → ∀ (k : Nat), Oks (xs.take k) e
  | [], _, k => by simp [Oks]
  | y :: ys, h, 0 => by simp [Oks]
  | y :: ys, h, k + 1 => ⟨h.1, Oks.take h.2 k⟩
theorem Oks.mem {e : Nat} : ∀ {xs : List V}, Oks xs e → ∀ x ∈ xs, Ok x e
  | [], _, _, h => by simp at h
  | y :: ys, h, x, hx => by
    rcases List.mem_cons.1 hx with rfl | hx
    · exact h.1
    · exact Oks.mem h.2 x hx
theorem Ok.list_inv {v : V} {t e : Nat} (h : Ok v t) (ht : ty t = .list e) : ∃ xs, v = .list xs ∧ Oks xs e := by
  cases v with
  | list xs => simp only [Ok] at h; obtain ⟨e', h1, h2⟩ := h; rw [ht] at h1; cases h1; exact ⟨xs, rfl, h2⟩
  | agg fs => simp only [Ok] at h; obtain ⟨e', h1, h2⟩ := h; rw [ht] at h1; cases h1
  | int n => simp only [Ok] at h; rw [ht] at h; cases h
  | bool n => simp only [Ok] at h; rw [ht] at h; cases h
  | str n => simp only [Ok] at h; rw [ht] at h; cases h
theorem Ok.agg_inv {v : V} {t : Nat} {ts : List Nat} (h : Ok v t) (ht : ty t = .agg ts) : ∃ fs, v = .agg fs ∧ Okz fs ts := by
  cases v with
  | list xs => simp only [Ok] at h; obtain ⟨e', h1, h2⟩ := h; rw [ht] at h1; cases h1
  | agg fs => simp only [Ok] at h; obtain ⟨e', h1, h2⟩ := h; rw [ht] at h1; cases h1; exact ⟨fs, rfl, h2⟩
  | int n => simp only [Ok] at h; rw [ht] at h; cases h
  | bool n => simp only [Ok] at h; rw [ht] at h; cases h
  | str n => simp only [Ok] at h; rw [ht] at h; cases h
theorem Ok.int_inv {v : V} {t : Nat} (h : Ok v t) (ht : ty t = .int) : ∃ n, v = .int n := by
  cases v with
  | list xs => simp only [Ok] at h; obtain ⟨e', h1, h2⟩ := h; rw [ht] at h1; cases h1
  | agg fs => simp only [Ok] at h; obtain ⟨e', h1, h2⟩ := h; rw [ht] at h1; cases h1
  | int n => exact ⟨n, rfl⟩
  | bool n => simp only [Ok] at h; rw [ht] at h; cases h
  | str n => simp only [Ok] at h; rw [ht] at h; cases h
theorem Ok.bool_inv {v : V} {t : Nat} (h : Ok v t) (ht : ty t = .bool) : ∃ n, v = .bool n := by
  cases v with
  | list xs => simp only [Ok] at h; obtain ⟨e', h1, h2⟩ := h; rw [ht] at h1; cases h1
  | agg fs => simp only [Ok] at h; obtain ⟨e', h1, h2⟩ := h; rw [ht] at h1; cases h1
  | bool n => exact ⟨n, rfl⟩
  | int n => simp only [Ok] at h; rw [ht] at h; cases h
  | str n => simp only [Ok] at h; rw [ht] at h; cases h
theorem Ok.str_inv {v : V} {t : Nat} (h : Ok v t) (ht : ty t = .str) : ∃ n, v = .str n := by
  cases v with
  | list xs => simp only [Ok] at h; obtain ⟨e', h1, h2⟩ := h; rw [ht] at h1; cases h1
  | agg fs => simp only [Ok] at h; obtain ⟨e', h1, h2⟩ := h; rw [ht] at h1; cases h1
  | str n => exact ⟨n, rfl⟩
  | int n => simp only [Ok] at h; rw [ht] at h; cases h
  | bool n => simp only [Ok] at h; rw [ht] at h; cases h
theorem Okz.cons_inv {fs : List V} {t : Nat} {ts : List Nat} (h : Okz fs (t :: ts)) : ∃ x xs, fs = x :: xs ∧ Ok x t ∧ Okz xs ts := by
  cases fs with
  | nil => simp only [Okz] at h; cases h
  | cons x xs => simp only [Okz] at h; obtain ⟨t', ts', h1, h2, h3⟩ := h; cases h1; exact ⟨x, xs, rfl, h2, h3⟩
theorem Okz.nil_inv {fs : List V} (h : Okz fs []) : fs = [] := by
  cases fs with
  | nil => rfl
  | cons x xs => simp only [Okz] at h; obtain ⟨t', ts', h1, _⟩ := h; cases h1
theorem okz_nil : Okz [] [] := by simp [Okz]
theorem okz_cons {x : V} {xs : List V} {t : Nat} {ts : List Nat} (h : Ok x t) (h' : Okz xs ts) : Okz (x :: xs) (t :: ts) := by
  simp only [Okz]; exact ⟨t, ts, rfl, h, h'⟩
theorem ok_agg {fs : List V} {t : Nat} {ts : List Nat} (ht : ty t = .agg ts) (h : Okz fs ts) : Ok (.agg fs) t := by simp only [Ok]; exact ⟨ts, ht, h⟩
theorem ok_list {xs : List V} {t e : Nat} (ht : ty t = .list e) (h : Oks xs e) : Ok (.list xs) t := by simp only [Ok]; exact ⟨e, ht, h⟩
theorem ok_int {n : Int} {t : Nat} (ht : ty t = .int) : Ok (.int n) t := by simp only [Ok]; exact ht
theorem ok_bool {n : Bool} {t : Nat} (ht : ty t = .bool) : Ok (.bool n) t := by simp only [Ok]; exact ht
theorem ok_str {n : ByteArray} {t : Nat} (ht : ty t = .str) : Ok (.str n) t := by simp only [Ok]; exact ht

/-! ### a struct's cells, field by field -/
section
variable {w : World} {cs : List Value} {F : List Nat}
theorem Rep.int_inv {n : Int} (h : Rep w (.int n) cs F) : cs = [.int .i64 n] ∧ F = [] ∧ -9223372036854775808 ≤ n ∧ n ≤ 9223372036854775807 := by simpa only [Rep] using h
theorem Rep.bool_inv {n : Bool} (h : Rep w (.bool n) cs F) : cs = [.bool n] ∧ F = [] := by simpa only [Rep] using h
theorem Rep.str_inv {n : ByteArray} (h : Rep w (.str n) cs F) : cs = [.string n] ∧ F = [] ∧ n.size ≤ 9223372036854775807 := by simpa only [Rep] using h
theorem Rep.agg_inv {fs : List V} (h : Rep w (.agg fs) cs F) : RepFs w fs cs F := by simpa only [Rep] using h
theorem Rep.list_inv {xs : List V} (h : Rep w (.list xs) cs F) : ∃ A n c, cs = [.slice A n c] ∧ n = xs.length ∧ n ≤ c ∧ c ≤ 9223372036854775807 := by
  simp only [Rep] at h
  obtain ⟨A, n, c, h1, h2, h3, h4, _⟩ := h
  exact ⟨A, n, c, h1, h2, h3, h4⟩
theorem RepFs.cons_inv {x : V} {xs : List V} (h : RepFs w (x :: xs) cs F) : ∃ c1 c2 F1 F2, cs = c1 ++ c2 ∧ F = F1 ++ F2 ∧ Rep w x c1 F1 ∧ RepFs w xs c2 F2 := by simpa only [RepFs] using h
theorem RepFs.nil_inv (h : RepFs w [] cs F) : cs = [] ∧ F = [] := by simpa only [RepFs] using h
theorem rint {n : Int} (h : -9223372036854775808 ≤ n ∧ n ≤ 9223372036854775807) : Rep w (.int n) [.int .i64 n] [] := by simp only [Rep]; exact ⟨trivial, trivial, h⟩
theorem rbool {n : Bool} : Rep w (.bool n) [.bool n] [] := by simp only [Rep]; exact ⟨trivial, trivial⟩
theorem rstr {n : ByteArray} (h : n.size ≤ 9223372036854775807) : Rep w (.str n) [.string n] [] := by simp only [Rep]; exact ⟨trivial, trivial, h⟩
theorem rnil : RepFs w [] [] [] := by simp only [RepFs]; exact ⟨trivial, trivial⟩
theorem rcons {x : V} {xs : List V} {c1 c2 : List Value} {F1 F2 : List Nat} (h : Rep w x c1 F1) (h' : RepFs w xs c2 F2) : RepFs w (x :: xs) (c1 ++ c2) (F1 ++ F2) := by
  simp only [RepFs]; exact ⟨c1, c2, F1, F2, rfl, rfl, h, h'⟩
theorem ragg {fs : List V} {cs : List Value} {F : List Nat} (h : RepFs w fs cs F) : Rep w (.agg fs) cs F := by simpa only [Rep] using h
end

end Go.Proofs.Ytilohpakglpdcaa
