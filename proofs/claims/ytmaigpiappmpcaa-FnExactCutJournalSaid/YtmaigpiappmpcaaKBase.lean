/-
  Plain data D (cells), and what it is that a cell of memory holds it: Rp w d v F (F: the blocks that are read, each with how far). No program is named here.
-/
import Derived.Test.YtmaigpiappmpcaaStep
namespace Go.Proofs.Ytmaigpiappmpcaa
set_option linter.unusedVariables false
set_option linter.unusedSimpArgs false
open Go.RowKit

/-- a datum of one cell; a list's flag: its elements hold no lists -/
inductive D where
  | int (k : IntKind) (n : Int)
  | bool (b : Bool)
  | str (s : ByteArray)
  | list (k : Nat) (fl : Bool) (es : List (List D))
instance : Inhabited D := ⟨.bool false⟩

def D.plain : D → Bool
  | .list _ _ _ => false
  | _ => true
def flat (es : List (List D)) : Prop := ∀ e ∈ es, ∀ x ∈ e, D.plain x = true
theorem flat_nil : flat [] := fun _ h => by simp at h

abbrev Fp := List (Nat × Nat)

mutual
def Rp (w : World) : D → Value → Fp → Prop
  | .int k n, v, F => v = .int k n ∧ F = [] ∧ k.wrap n = n
  | .bool b, v, F => v = .bool b ∧ F = []
  | .str s, v, F => v = .string s ∧ F = [] ∧ s.size ≤ maxLen
  | .list k fl es, v, F => ∃ A n c, v = .slice A n c ∧ n = es.length ∧ n ≤ c ∧ c ≤ maxLen ∧ (fl = true → flat es) ∧ 0 < k ∧ (∀ e ∈ es, e.length = k) ∧
      ((n = 0 ∧ F = []) ∨ (0 < n ∧ ∃ b o xs G, A = some ⟨b, o, none⟩ ∧ F = (b, o + n * k) :: G ∧ RpE w es xs G ∧ Lies w b o xs))
def RpC (w : World) : List D → List Value → Fp → Prop
  | [], vs, F => vs = [] ∧ F = []
  | d :: ds, vs, F => ∃ v vs' F1 F2, vs = v :: vs' ∧ F = F1 ++ F2 ∧ Rp w d v F1 ∧ RpC w ds vs' F2
def RpE (w : World) : List (List D) → List Value → Fp → Prop
  | [], vs, F => vs = [] ∧ F = []
  | e :: es, vs, F => ∃ v1 v2 F1 F2, vs = v1 ++ v2 ∧ F = F1 ++ F2 ∧ RpC w e v1 F1 ∧ RpE w es v2 F2
end

/-- the cells that F reads are the same -/
def Keeps (F : Fp) (w w' : World) : Prop := ∀ be ∈ F, ∀ j, j < be.2 → w'.cell? ⟨be.1, j, none⟩ = w.cell? ⟨be.1, j, none⟩
theorem Keeps.left {F G : Fp} {w w' : World} (h : Keeps (F ++ G) w w') : Keeps F w w' := fun be hb => h be (by simp [hb])
theorem Keeps.right {F G : Fp} {w w' : World} (h : Keeps (F ++ G) w w') : Keeps G w w' := fun be hb => h be (by simp [hb])

theorem RpC.length {w : World} : ∀ (ds : List D) {vs : List Value} {F : Fp}, RpC w ds vs F → vs.length = ds.length
  | [], _, _, h => by simp only [RpC] at h; simp [h.1]
  | d :: ds, _, _, h => by
    simp only [RpC] at h
    obtain ⟨v, vs', F1, F2, rfl, _, _, h4⟩ := h
    simp [RpC.length ds h4]
theorem RpE.length {w : World} {k : Nat} : ∀ (es : List (List D)) {vs : List Value} {F : Fp}, RpE w es vs F → (∀ e ∈ es, e.length = k) → vs.length = es.length * k
  | [], _, _, h, _ => by simp only [RpE] at h; simp [h.1]
  | e :: es, _, _, h, hk => by
    simp only [RpE] at h
    obtain ⟨v1, v2, F1, F2, rfl, _, h3, h4⟩ := h
    simp only [List.length_append, List.length_cons, RpC.length e h3, RpE.length es h4 (fun x hx => hk x (by simp [hx])), hk e (by simp), Nat.succ_mul]
    omega

theorem Lies.keepC {w w' : World} {b o n : Nat} {xs : List Value} (h : Lies w b o xs) (hn : o + xs.length ≤ n) (hk : ∀ j, j < n → w'.cell? ⟨b, j, none⟩ = w.cell? ⟨b, j, none⟩) : Lies w' b o xs := by
  intro j u hu
  have hj := (List.getElem?_eq_some_iff.1 hu).1
  rw [hk (o + j) (by omega)]
  exact h j u hu

mutual
theorem Rp.keep {w w' : World} : ∀ (d : D) {v : Value} {F : Fp}, Rp w d v F → Keeps F w w' → Rp w' d v F
  | .int _ _, _, _, h, _ => by simpa only [Rp] using h
  | .bool _, _, _, h, _ => by simpa only [Rp] using h
  | .str _, _, _, h, _ => by simpa only [Rp] using h
  | .list k fl es, _, _, h, hk => by
    simp only [Rp] at h ⊢
    obtain ⟨A, n, c, h1, h2, h3, h4, hf, h6, h7, h5⟩ := h
    refine ⟨A, n, c, h1, h2, h3, h4, hf, h6, h7, ?_⟩
    rcases h5 with h5 | ⟨h0, b, o, xs, G, h5, h8, h9, h10⟩
    · exact .inl h5
    · subst h8
      have hl := RpE.length es h9 h7
      refine .inr ⟨h0, b, o, xs, G, h5, rfl, RpE.keep es h9 (fun be hb => hk be (by simp [hb])), ?_⟩
      exact h10.keepC (n := o + n * k) (by rw [hl, h2]; exact Nat.le_refl _) (hk (b, o + n * k) (by simp))
theorem RpC.keep {w w' : World} : ∀ (ds : List D) {vs : List Value} {F : Fp}, RpC w ds vs F → Keeps F w w' → RpC w' ds vs F
  | [], _, _, h, _ => by simpa only [RpC] using h
  | d :: ds, _, _, h, hk => by
    simp only [RpC] at h ⊢
    obtain ⟨v, vs', F1, F2, h1, rfl, h3, h4⟩ := h
    exact ⟨v, vs', F1, F2, h1, rfl, Rp.keep d h3 hk.left, RpC.keep ds h4 hk.right⟩
theorem RpE.keep {w w' : World} : ∀ (es : List (List D)) {vs : List Value} {F : Fp}, RpE w es vs F → Keeps F w w' → RpE w' es vs F
  | [], _, _, h, _ => by simpa only [RpE] using h
  | e :: es, _, _, h, hk => by
    simp only [RpE] at h ⊢
    obtain ⟨v1, v2, F1, F2, h1, rfl, h3, h4⟩ := h
    exact ⟨v1, v2, F1, F2, h1, rfl, RpC.keep e h3 hk.left, RpE.keep es h4 hk.right⟩
end

theorem lt_of_cell {w : World} {b o : Nat} {v : Value} (h : w.cell? ⟨b, o, none⟩ = some v) : b < w.heap.size := by
  unfold World.cell? at h
  rcases Nat.lt_or_ge b w.heap.size with hl | hl
  · exact hl
  · simp [Array.getElem?_eq_none hl] at h

mutual
/-- what is read is there -/
theorem Rp.lt {w : World} : ∀ (d : D) {v : Value} {F : Fp}, Rp w d v F → ∀ be ∈ F, be.1 < w.heap.size
  | .int _ _, _, _, h => by simp only [Rp] at h; simp [h.2.1]
  | .bool _, _, _, h => by simp only [Rp] at h; simp [h.2]
  | .str _, _, _, h => by simp only [Rp] at h; simp [h.2.1]
  | .list k fl es, _, _, h => by
    simp only [Rp] at h
    obtain ⟨A, n, c, h1, h2, h3, h4, hf, h6, h7, h5⟩ := h
    rcases h5 with h5 | ⟨h0, b, o, xs, G, h5, h8, h9, h10⟩
    · simp [h5.2]
    · subst h8
      have hl := RpE.length es h9 h7
      have hp : 0 < xs.length := by rw [hl, ← h2]; exact Nat.mul_pos h0 h6
      have hb := lt_of_cell (h10 0 xs[0] (by simp [hp]))
      intro be hbe
      rcases List.mem_cons.1 hbe with rfl | hbe
      · exact hb
      · exact RpE.lt es h9 be hbe
theorem RpC.lt {w : World} : ∀ (ds : List D) {vs : List Value} {F : Fp}, RpC w ds vs F → ∀ be ∈ F, be.1 < w.heap.size
  | [], _, _, h => by simp only [RpC] at h; simp [h.2]
  | d :: ds, _, _, h => by
    simp only [RpC] at h
    obtain ⟨v, vs', F1, F2, h1, rfl, h3, h4⟩ := h
    intro be hbe
    rcases List.mem_append.1 hbe with hbe | hbe
    · exact Rp.lt d h3 be hbe
    · exact RpC.lt ds h4 be hbe
theorem RpE.lt {w : World} : ∀ (es : List (List D)) {vs : List Value} {F : Fp}, RpE w es vs F → ∀ be ∈ F, be.1 < w.heap.size
  | [], _, _, h => by simp only [RpE] at h; simp [h.2]
  | e :: es, _, _, h => by
    simp only [RpE] at h
    obtain ⟨v1, v2, F1, F2, h1, rfl, h3, h4⟩ := h
    intro be hbe
    rcases List.mem_append.1 hbe with hbe | hbe
    · exact RpC.lt e h3 be hbe
    · exact RpE.lt es h4 be hbe
end

/-! ### cells side by side -/
theorem RpC.append {w : World} : ∀ (ds : List D) {es : List D} {vs us : List Value} {F G : Fp}, RpC w ds vs F → RpC w es us G → RpC w (ds ++ es) (vs ++ us) (F ++ G)
  | [], _, _, _, _, _, h, h' => by
    simp only [RpC] at h
    obtain ⟨rfl, rfl⟩ := h
    simpa using h'
  | d :: ds, _, _, _, _, _, h, h' => by
    simp only [RpC] at h
    obtain ⟨v, vs', F1, F2, rfl, rfl, h3, h4⟩ := h
    simp only [List.cons_append, RpC]
    exact ⟨v, _, F1, _, rfl, by simp, h3, RpC.append ds h4 h'⟩
theorem RpE.append {w : World} : ∀ (ds : List (List D)) {es : List (List D)} {vs us : List Value} {F G : Fp}, RpE w ds vs F → RpE w es us G → RpE w (ds ++ es) (vs ++ us) (F ++ G)
  | [], _, _, _, _, _, h, h' => by
    simp only [RpE] at h
    obtain ⟨rfl, rfl⟩ := h
    simpa using h'
  | d :: ds, _, _, _, _, _, h, h' => by
    simp only [RpE] at h
    obtain ⟨v1, v2, F1, F2, rfl, rfl, h3, h4⟩ := h
    simp only [List.cons_append, RpE]
    exact ⟨v1, _, F1, _, by simp, by simp, h3, RpE.append ds h4 h'⟩
theorem RpC.append_inv {w : World} : ∀ (ds : List D) {es : List D} {vs : List Value} {F : Fp}, RpC w (ds ++ es) vs F → ∃ v1 v2 F1 F2, vs = v1 ++ v2 ∧ F = F1 ++ F2 ∧ RpC w ds v1 F1 ∧ RpC w es v2 F2
  | [], es, vs, F, h => ⟨[], vs, [], F, rfl, rfl, by simp [RpC], by simpa using h⟩
  | d :: ds, _, _, _, h => by
    simp only [List.cons_append, RpC] at h
    obtain ⟨v, vs', F1, F2, rfl, rfl, h3, h4⟩ := h
    obtain ⟨u1, u2, G1, G2, rfl, rfl, h5, h6⟩ := RpC.append_inv ds h4
    exact ⟨v :: u1, u2, F1 ++ G1, G2, by simp, by simp, by simp only [RpC]; exact ⟨v, u1, F1, G1, rfl, rfl, h3, h5⟩, h6⟩
theorem RpE.append_inv {w : World} : ∀ (ds : List (List D)) {es : List (List D)} {vs : List Value} {F : Fp}, RpE w (ds ++ es) vs F → ∃ v1 v2 F1 F2, vs = v1 ++ v2 ∧ F = F1 ++ F2 ∧ RpE w ds v1 F1 ∧ RpE w es v2 F2
  | [], es, vs, F, h => ⟨[], vs, [], F, rfl, rfl, by simp [RpE], by simpa using h⟩
  | d :: ds, _, _, _, h => by
    simp only [List.cons_append, RpE] at h
    obtain ⟨v1, v2, F1, F2, rfl, rfl, h3, h4⟩ := h
    obtain ⟨u1, u2, G1, G2, rfl, rfl, h5, h6⟩ := RpE.append_inv ds h4
    exact ⟨v1 ++ u1, u2, F1 ++ G1, G2, by simp, by simp, by simp only [RpE]; exact ⟨v1, u1, F1, G1, rfl, rfl, h3, h5⟩, h6⟩
theorem RpE.single {w : World} {e : List D} {vs : List Value} {F : Fp} (h : RpC w e vs F) : RpE w [e] vs F := by
  simp only [RpE]
  exact ⟨vs, [], F, [], by simp, by simp, h, rfl, rfl⟩
theorem RpE.single_inv {w : World} {e : List D} {vs : List Value} {F : Fp} (h : RpE w [e] vs F) : RpC w e vs F := by
  simp only [RpE] at h
  obtain ⟨v1, v2, F1, F2, rfl, rfl, h3, rfl, rfl⟩ := h
  simpa using h3
/-- element i -/
theorem RpE.at_ {w : World} {k : Nat} {es : List (List D)} {vs : List Value} {F : Fp} (h : RpE w es vs F) (hk : ∀ e ∈ es, e.length = k) {i : Nat} {e : List D} (hi : es[i]? = some e) :
    ∃ G, RpC w e ((vs.drop (i * k)).take k) G ∧ ∀ be ∈ G, be ∈ F := by
  have hlt := (List.getElem?_eq_some_iff.1 hi).1
  have e1 : es = es.take i ++ (e :: es.drop (i + 1)) := by
    rw [← List.getElem?_eq_some_iff.1 hi |>.2, List.getElem_cons_drop, List.take_append_drop]
  rw [e1] at h
  obtain ⟨v1, v2, F1, F2, rfl, rfl, h3, h4⟩ := RpE.append_inv _ h
  simp only [RpE] at h4
  obtain ⟨u1, u2, G1, G2, rfl, rfl, h5, h6⟩ := h4
  have hl1 : v1.length = i * k := by
    rw [RpE.length _ h3 (fun x hx => hk x (List.mem_of_mem_take hx)), List.length_take, Nat.min_eq_left (by omega)]
  have hl2 : u1.length = k := by rw [RpC.length _ h5]; exact hk e (List.mem_of_getElem? hi)
  refine ⟨G1, ?_, fun be hb => by simp [hb]⟩
  rw [← hl1, List.drop_left, ← hl2, List.take_left]
  exact h5
theorem RpC.at_ {w : World} : ∀ {ds : List D} {vs : List Value} {F : Fp}, RpC w ds vs F → ∀ {i : Nat} {d : D}, ds[i]? = some d → ∃ v G, vs[i]? = some v ∧ Rp w d v G ∧ ∀ be ∈ G, be ∈ F
  | [], _, _, _, i, d, hi => by simp at hi
  | x :: ds, _, _, h, i, d, hi => by
    simp only [RpC] at h
    obtain ⟨v, vs', F1, F2, rfl, rfl, h3, h4⟩ := h
    cases i with
    | zero => simp at hi; subst hi; exact ⟨v, F1, rfl, h3, fun be hb => by simp [hb]⟩
    | succ i =>
      simp at hi
      obtain ⟨u, G, h5, h6, h7⟩ := RpC.at_ h4 hi
      exact ⟨u, G, by simpa using h5, h6, fun be hb => by simp [h7 be hb]⟩
theorem RpC.drop {w : World} : ∀ (ds : List D) {vs : List Value} {F : Fp} (n : Nat), RpC w ds vs F → ∃ G, RpC w (ds.drop n) (vs.drop n) G ∧ ∀ be ∈ G, be ∈ F
  | ds, _, F, 0, h => ⟨F, by simpa using h, fun _ h => h⟩
  | [], _, F, n + 1, h => ⟨F, by simp only [RpC] at h; simp [RpC, h.1, h.2], fun _ h => h⟩
  | d :: ds, _, _, n + 1, h => by
    simp only [RpC] at h
    obtain ⟨v, vs', F1, F2, rfl, rfl, h3, h4⟩ := h
    obtain ⟨G, h5, h6⟩ := RpC.drop ds n h4
    exact ⟨G, by simpa using h5, fun be hb => by simp [h6 be hb]⟩
theorem RpC.take {w : World} : ∀ (ds : List D) {vs : List Value} {F : Fp} (n : Nat), RpC w ds vs F → ∃ G, RpC w (ds.take n) (vs.take n) G ∧ ∀ be ∈ G, be ∈ F
  | ds, _, F, 0, h => ⟨[], by simp [RpC], fun _ h => by simp at h⟩
  | [], _, F, n + 1, h => ⟨F, by simp only [RpC] at h; simp [RpC, h.1, h.2], fun _ h => h⟩
  | d :: ds, _, _, n + 1, h => by
    simp only [RpC] at h
    obtain ⟨v, vs', F1, F2, rfl, rfl, h3, h4⟩ := h
    obtain ⟨G, h5, h6⟩ := RpC.take ds n h4
    refine ⟨F1 ++ G, ?_, fun be hb => ?_⟩
    · simp only [List.take_succ_cons, RpC]
      exact ⟨v, _, F1, G, rfl, rfl, h3, h5⟩
    · rcases List.mem_append.1 hb with hb | hb
      · simp [hb]
      · simp [h6 be hb]
/-- what holds no lists reads nothing -/
theorem RpC.plain {w : World} : ∀ {ds : List D} {vs : List Value} {F : Fp}, RpC w ds vs F → (∀ x ∈ ds, D.plain x = true) → F = []
  | [], _, _, h, _ => by simp only [RpC] at h; exact h.2
  | d :: ds, _, _, h, hp => by
    simp only [RpC] at h
    obtain ⟨v, vs', F1, F2, rfl, rfl, h3, h4⟩ := h
    have e2 := RpC.plain h4 (fun x hx => hp x (by simp [hx]))
    have e1 := hp d (by simp)
    cases d with
    | list k fl es => simp [D.plain] at e1
    | int k n => simp only [Rp] at h3; simp [h3.2.1, e2]
    | bool b => simp only [Rp] at h3; simp [h3.2, e2]
    | str s => simp only [Rp] at h3; simp [h3.2.1, e2]
theorem RpE.plain {w : World} : ∀ {es : List (List D)} {vs : List Value} {F : Fp}, RpE w es vs F → flat es → F = []
  | [], _, _, h, _ => by simp only [RpE] at h; exact h.2
  | e :: es, _, _, h, hp => by
    simp only [RpE] at h
    obtain ⟨v1, v2, F1, F2, rfl, rfl, h3, h4⟩ := h
    rw [RpC.plain h3 (hp e (by simp)), RpE.plain h4 (fun x hx => hp x (by simp [hx]))]
    rfl
/-- no cell is a struct or a tuple -/
theorem Rp.isOne {w : World} {d : D} {v : Value} {F : Fp} (h : Rp w d v F) : one v = true := by
  cases d with
  | int k n => simp only [Rp] at h; rw [h.1]; rfl
  | bool b => simp only [Rp] at h; rw [h.1]; rfl
  | str s => simp only [Rp] at h; rw [h.1]; rfl
  | list k fl es => simp only [Rp] at h; obtain ⟨A, n, c, h1, _⟩ := h; rw [h1]; rfl
theorem RpC.isOne {w : World} : ∀ {ds : List D} {vs : List Value} {F : Fp}, RpC w ds vs F → ∀ v ∈ vs, one v = true
  | [], _, _, h => by simp only [RpC] at h; simp [h.1]
  | d :: ds, _, _, h => by
    simp only [RpC] at h
    obtain ⟨v, vs', F1, F2, rfl, rfl, h3, h4⟩ := h
    intro u hu
    rcases List.mem_cons.1 hu with rfl | hu
    · exact h3.isOne
    · exact RpC.isOne h4 u hu
theorem RpE.isOne {w : World} : ∀ {es : List (List D)} {vs : List Value} {F : Fp}, RpE w es vs F → ∀ v ∈ vs, one v = true
  | [], _, _, h => by simp only [RpE] at h; simp [h.1]
  | e :: es, _, _, h => by
    simp only [RpE] at h
    obtain ⟨v1, v2, F1, F2, rfl, rfl, h3, h4⟩ := h
    intro u hu
    rcases List.mem_append.1 hu with hu | hu
    · exact h3.isOne u hu
    · exact RpE.isOne h4 u hu
end Go.Proofs.Ytmaigpiappmpcaa
