/-
  Values between functions; what is handed over and what comes back. No program is named here.
-/
import Derived.Test.YtmaigpiappmpcaaKApp
namespace Go.Proofs.Ytmaigpiappmpcaa
set_option linter.unusedVariables false
set_option linter.unusedSimpArgs false
open Go.RowKit

def RVR (h : Nat → Nat) (w : World) : RV → Value → List Nat → Prop
  | .d x, v, F => F = [] ∧ ∃ G, Rp w x v G ∧ Settled h G
  | .row r, v, F => RowR h w r v F ∧ F.Nodup
def RVRs (h : Nat → Nat) (w : World) : List RV → List Value → List Nat → Prop
  | [], vs, F => vs = [] ∧ F = []
  | r :: rs, vs, F => ∃ v vs' F1 F2, vs = v :: vs' ∧ F = F1 ++ F2 ∧ RVR h w r v F1 ∧ RVRs h w rs vs' F2
def AR (h : Nat → Nat) (w : World) : A → Value → List Nat → Prop
  | .val ag cs, v, F => ∃ vs, RVRs h w cs vs F ∧ (ag = true → v = .agg vs.toArray) ∧ (ag = false → vs = [v])
  | .box cs, v, F => ∃ g T vs F', v = .pointer (some ⟨g, 0, none⟩) ∧ Blk w g T vs ∧ h g = 0 ∧ F = g :: F' ∧ RVRs h w cs vs F'
def ARs (h : Nat → Nat) (w : World) : List A → List Value → List Nat → Prop
  | [], vs, F => vs = [] ∧ F = []
  | a :: as, vs, F => ∃ v vs' F1 F2, vs = v :: vs' ∧ F = F1 ++ F2 ∧ AR h w a v F1 ∧ ARs h w as vs' F2

structure Chg (h : Nat → Nat) (F : List Nat) (w w' : World) (h' : Nat → Nat) : Prop where
  os : w'.os = w.os
  tape : w'.tape = w.tape
  output : w'.output = w.output
  size : w.heap.size ≤ w'.heap.size
  block : ∀ g, g < w.heap.size → g ∉ F → w'.heap[g]? = w.heap[g]?
  cell : ∀ g j, g < w.heap.size → j < h g → w'.cell? ⟨g, j, none⟩ = w.cell? ⟨g, j, none⟩
  mono : ∀ g, g < w.heap.size → h g ≤ h' g
  hold : ∀ g, g < w.heap.size → g ∉ F → h' g = h g
  hnew : ∀ g, w'.heap.size ≤ g → h' g = 0
  thaw : ∀ g, w.heap.size ≤ g → Thaw w' g
  kthaw : ∀ g, Thaw w g → Thaw w' g

/-- the values of the arguments that may come back changed -/
def outVals : List A → List Value → List Value
  | .box _ :: as, v :: vs => v :: outVals as vs
  | .val _ _ :: as, _ :: vs => outVals as vs
  | _, _ => []
def RetV (us : List Value) (v : Value) : Prop := us = [v] ∨ (us.length ≠ 1 ∧ v = .tuple us.toArray)
def CallOk (P : Program) (g : FuncId) (as rs outs : List A) : Prop :=
  ∀ (w : World) (h : Nat → Nat) (vs : List Value) (F : List Nat), ARs h w as vs F → F.Nodup → (∀ g ∈ F, g < w.heap.size) → (∀ g, w.heap.size ≤ g → h g = 0) →
    Calls P g vs.toArray w fun e w' => ∃ v us F1 F2 h', e = .returned v ∧ RetV us v ∧ ARs h' w' rs us F1 ∧ ARs h' w' outs (outVals as vs) F2 ∧ (F1 ++ F2).Nodup ∧ (∀ g ∈ F1 ++ F2, (w.heap.size ≤ g ∨ g ∈ F) ∧ g < w'.heap.size) ∧ Chg h F w w' h'

/-- cells one by one, each with what it reads -/
def RpL (w : World) : List D → List Value → List Fp → Prop
  | [], vs, Fs => vs = [] ∧ Fs = []
  | d :: ds, vs, Fs => ∃ v vs' F Fs', vs = v :: vs' ∧ Fs = F :: Fs' ∧ Rp w d v F ∧ RpL w ds vs' Fs'
/-- what a function that marks leaves behind -/
def MarkOk (P : Program) (F0 : FuncId) (ag : Bool) (ds : List D) (q : Int) (ds' : List D) (q' : Int) : Prop :=
  ∀ (w : World) (h : Nat → Nat) (v : Value) (vs : List Value) (Fs : List Fp), RpL w ds vs Fs → (ag = true → v = .agg vs.toArray) → (ag = false → vs = [v]) → IntKind.i64.wrap q = q → (Fs.flatten.map Prod.fst).Nodup → (∀ G ∈ Fs, ∀ be ∈ G, h be.1 = 0 ∧ Thaw w be.1) → (∀ g, w.heap.size ≤ g → h g = 0) →
    Calls P F0 #[v, .int .i64 q] w fun e w' => e = .returned (.int .i64 q') ∧ IntKind.i64.wrap q' = q' ∧ RpL w' ds' vs Fs ∧ ds'.map D.plain = ds.map D.plain ∧ Chg h (Fs.flatten.map Prod.fst) w w' h

theorem rid_ne {d j i : Nat} (h : j ≠ i) : rid d j ≠ rid d i := by unfold rid; omega

section
variable {h0 : Nat → Nat} {io : List Nat} {w0 : World} {f : Fm} {w : World}

theorem Inv.put' {γ : Gh} {s : St} (hi : Inv γ h0 io w0 s f w) (d : Nat) (c : C) (hc : CR γ w c (f d)) : Inv γ h0 io w0 (s.put (some d) c) f w :=
  { hi with
    sl := fun e c' h => by
      simp only [St.put, look] at h
      by_cases he : d = e
      · subst he; simp at h; subst h; exact hc
      · rw [if_neg he] at h; exact hi.sl e c' h }
theorem RowR.slice {h : Nat → Nat} {x : Row} {v : Value} {F : List Nat} (hr : RowR h w x v F) : ∃ A n c, v = .slice A n c := by
  obtain ⟨A, n, c, h1, _⟩ := hr
  exact ⟨A, n, c, h1⟩

/-- cells that come in -/
theorem inCells_rel {d : Nat} : ∀ (vs : List RV) {us : List Value} {F : List Nat} (j : Nat) {γ : Gh} {s : St}, Inv γ h0 io w0 s f w → RVRs γ.h w vs us F → F.Nodup → (∀ g ∈ F, (γ.ω g = .free ∨ γ.ω g = .lim) ∧ g < w.heap.size ∧ (w0.heap.size ≤ g ∨ g ∈ io)) →
    ∃ γ', Inv γ' h0 io w0 (inCells d j vs s).2 f w ∧ CRs γ' w (inCells d j vs s).1 us ∧ γ'.β = γ.β ∧ γ'.h = γ.h ∧ (∀ g, g ∉ F → γ'.ω g = γ.ω g) ∧ ∀ q, (∀ i, j ≤ i → q ≠ rid d i) → γ'.sl q = γ.sl q
  | [], us, F, j, γ, s, hi, hr, _, _ => by
    simp only [RVRs] at hr
    obtain ⟨rfl, rfl⟩ := hr
    exact ⟨γ, hi, by simp [inCells, CRs], rfl, rfl, fun _ _ => rfl, fun _ _ => rfl⟩
  | .d x :: vs, us, F, j, γ, s, hi, hr, hnd, hF => by
    simp only [RVRs, RVR] at hr
    obtain ⟨v, vs', F1, F2, rfl, rfl, ⟨rfl, G, hrp, hset⟩, hr⟩ := hr
    obtain ⟨γ', i1, c1, b1, h1, o1, s1⟩ := inCells_rel vs (j + 1) hi hr (by simpa using hnd) (by simpa using hF)
    refine ⟨γ', i1, ?_, b1, h1, by simpa using o1, fun q hq => s1 q (fun i hi => hq i (by omega))⟩
    simp only [inCells, CRs]
    exact ⟨v, vs', rfl, by simp only [CR]; exact ⟨G, hrp, by rw [h1]; exact hset⟩, c1⟩
  | .row x :: vs, us, F, j, γ, s, hi, hr, hnd, hF => by
    simp only [RVRs, RVR] at hr
    obtain ⟨v, vs', F1, F2, rfl, rfl, ⟨hR, hn1⟩, hr⟩ := hr
    rw [List.nodup_append] at hnd
    obtain ⟨_, hn2, hdis⟩ := hnd
    obtain ⟨γ1, i1, sl1, b1, h1, o1, q1⟩ := hi.addRow (r := rid d j) hR hn1 (fun g hg => by
      have := hF g (by simp [hg])
      exact ⟨by rcases this.1 with h | h <;> simp [h], this.2⟩)
    obtain ⟨γ2, i2, c2, b2, h2, o2, s2⟩ := inCells_rel vs (j + 1) i1 (by rw [h1]; exact hr) hn2 (fun g hg => by
      have h3 : g ∉ F1 := fun h => hdis g h g hg rfl
      rw [o1 g h3]
      exact hF g (by simp [hg]))
    refine ⟨γ2, i2, ?_, b2.trans b1, h2.trans h1, fun g hg => ?_, fun q hq => ?_⟩
    · simp only [inCells, CRs]
      refine ⟨v, vs', rfl, ?_, c2⟩
      simp only [CR]
      rw [s2 (rid d j) (fun i hi => rid_ne (by omega)), sl1]
      exact ⟨rfl, hR.slice⟩
    · simp only [List.mem_append, not_or] at hg
      rw [o2 g hg.2, o1 g hg.1]
    · rw [s2 q (fun i hi => hq i (by omega)), q1 q (hq j (Nat.le_refl _))]

/-- the same; the cells stay related as long as the places of their rows are kept -/
theorem inCells_rel2 {d : Nat} : ∀ (vs : List RV) {us : List Value} {F : List Nat} (j : Nat) {γ : Gh} {s : St}, Inv γ h0 io w0 s f w → RVRs γ.h w vs us F → F.Nodup → (∀ g ∈ F, (γ.ω g = .free ∨ γ.ω g = .lim) ∧ g < w.heap.size ∧ (w0.heap.size ≤ g ∨ g ∈ io)) →
    ∃ γ', Inv γ' h0 io w0 (inCells d j vs s).2 f w ∧ (∀ γ2, γ2.h = γ'.h → (∀ i, j ≤ i → i < j + vs.length → γ2.sl (rid d i) = γ'.sl (rid d i)) → CRs γ2 w (inCells d j vs s).1 us) ∧ γ'.β = γ.β ∧ γ'.h = γ.h ∧ (∀ g, g ∉ F → γ'.ω g = γ.ω g) ∧ ∀ q, (∀ i, j ≤ i → q ≠ rid d i) → γ'.sl q = γ.sl q
  | [], us, F, j, γ, s, hi, hr, _, _ => by
    simp only [RVRs] at hr
    obtain ⟨rfl, rfl⟩ := hr
    exact ⟨γ, hi, fun _ _ _ => by simp [inCells, CRs], rfl, rfl, fun _ _ => rfl, fun _ _ => rfl⟩
  | .d x :: vs, us, F, j, γ, s, hi, hr, hnd, hF => by
    simp only [RVRs, RVR] at hr
    obtain ⟨v, vs', F1, F2, rfl, rfl, ⟨rfl, G, hrp, hset⟩, hr⟩ := hr
    obtain ⟨γ', i1, c1, b1, h1, o1, s1⟩ := inCells_rel2 vs (j + 1) hi hr (by simpa using hnd) (by simpa using hF)
    refine ⟨γ', i1, fun γ2 e1 e2 => ?_, b1, h1, by simpa using o1, fun q hq => s1 q (fun i hi => hq i (by omega))⟩
    simp only [inCells, CRs]
    exact ⟨v, vs', rfl, by simp only [CR]; exact ⟨G, hrp, by rw [e1, h1]; exact hset⟩, c1 γ2 e1 (fun i h2 h3 => e2 i (by omega) (by simp; omega))⟩
  | .row x :: vs, us, F, j, γ, s, hi, hr, hnd, hF => by
    simp only [RVRs, RVR] at hr
    obtain ⟨v, vs', F1, F2, rfl, rfl, ⟨hR, hn1⟩, hr⟩ := hr
    rw [List.nodup_append] at hnd
    obtain ⟨_, hn2, hdis⟩ := hnd
    obtain ⟨γ1, i1, sl1, b1, h1, o1, q1⟩ := hi.addRow (r := rid d j) hR hn1 (fun g hg => by
      have := hF g (by simp [hg])
      exact ⟨by rcases this.1 with h | h <;> simp [h], this.2⟩)
    obtain ⟨γ2, i2, c2, b2, h2, o2, s2⟩ := inCells_rel2 vs (j + 1) i1 (by rw [h1]; exact hr) hn2 (fun g hg => by
      have h3 : g ∉ F1 := fun h => hdis g h g hg rfl
      rw [o1 g h3]
      exact hF g (by simp [hg]))
    refine ⟨γ2, i2, fun γ3 e1 e2 => ?_, b2.trans b1, h2.trans h1, fun g hg => ?_, fun q hq => ?_⟩
    · simp only [inCells, CRs]
      refine ⟨v, vs', rfl, ?_, c2 γ3 e1 (fun i h2 h3 => e2 i (by omega) (by simp; omega))⟩
      simp only [CR]
      rw [e2 j (Nat.le_refl _) (by simp), s2 (rid d j) (fun i hi => rid_ne (by omega)), sl1]
      exact ⟨rfl, hR.slice⟩
    · simp only [List.mem_append, not_or] at hg
      rw [o2 g hg.2, o1 g hg.1]
    · rw [s2 q (fun i hi => hq i (by omega)), q1 q (hq j (Nat.le_refl _))]

theorem RVRs.length {h : Nat → Nat} : ∀ {vs : List RV} {us : List Value} {F : List Nat}, RVRs h w vs us F → us.length = vs.length
  | [], _, _, hr => by simp only [RVRs] at hr; simp [hr.1]
  | _ :: _, _, _, hr => by
    simp only [RVRs] at hr
    obtain ⟨v, vs', F1, F2, rfl, rfl, _, hr⟩ := hr
    simp [RVRs.length hr]
theorem headD_rel {γ : Gh} {cs : List C} {v : Value} (h : CRs γ w cs [v]) : CR γ w (cs.headD .any) v := by
  cases cs with
  | nil => simp [CRs] at h
  | cons c cs =>
    simp only [CRs] at h
    obtain ⟨v', vs', e, h1, _⟩ := h
    simp only [List.cons.injEq] at e
    rw [e.1]
    exact h1

theorem kills_in {p : Nat} : ∀ (vs : List RV) (j : Nat) (s : St), C.kills (900 + p) (inCells (p + 500) j vs s).1 = (inCells (p + 500) j vs s).1
  | [], j, s => by simp [inCells, C.kills]
  | .d x :: vs, j, s => by simp only [inCells, C.kills, C.kill, kills_in vs (j + 1) s]
  | .row x :: vs, j, s => by
    have h : rid (p + 500) j ≠ 900 + p := by unfold rid; omega
    simp only [inCells, C.kills, C.kill, kills_in vs (j + 1), if_neg h]
/-- the arguments are there when the function begins -/
theorem enterAs_rel : ∀ (as : List A) {vs : List Value} {F : List Nat} (p : Nat) {γ : Gh} {s : St}, Inv γ h0 io w0 s f w → ARs γ.h w as vs F → F.Nodup → (∀ g ∈ F, (γ.ω g = .free ∨ γ.ω g = .lim) ∧ g < w.heap.size ∧ (w0.heap.size ≤ g ∨ g ∈ io)) → (∀ i v, vs[i]? = some v → f (p + i) = v) →
    ∃ γ', Inv γ' h0 io w0 (enterAs p as s) f w ∧ γ'.h = γ.h ∧ (∀ q, q < p → γ'.β (900 + q) = γ.β (900 + q)) ∧ ∀ i cs g, as[i]? = some (.box cs) → vs[i]? = some (.pointer (some ⟨g, 0, none⟩)) → γ'.β (900 + (p + i)) = g
  | [], vs, F, p, γ, s, hi, _, _, _, _ => ⟨γ, hi, rfl, fun _ _ => rfl, fun i cs g h => by simp at h⟩
  | .val ag cs :: as, vs, F, p, γ, s, hi, hr, hnd, hF, hf => by
    simp only [ARs, AR] at hr
    obtain ⟨v, vs', F1, F2, rfl, rfl, ⟨us, hrs, ha, hb⟩, hr⟩ := hr
    rw [List.nodup_append] at hnd
    obtain ⟨hn1, hn2, hdis⟩ := hnd
    obtain ⟨γ1, i1, c1, b1, h1, o1, _⟩ := inCells_rel (d := p) cs 0 hi hrs hn1 (fun g hg => hF g (by simp [hg]))
    have hfp : f p = v := by simpa using hf 0 v rfl
    have i2 : Inv γ1 h0 io w0 (enterA p (.val ag cs) s) f w := by
      refine i1.put' p _ ?_
      cases ag with
      | true =>
        rw [hfp, ha rfl]
        simp only [if_true, CR]
        exact ⟨us, rfl, c1⟩
      | false =>
        rw [hfp]
        simp only [Bool.false_eq_true, if_false]
        rw [hb rfl] at c1
        exact headD_rel c1
    obtain ⟨γ2, i3, h3, p3, x3⟩ := enterAs_rel as (p + 1) i2 (by rw [h1]; exact hr) hn2 (fun g hg => by
      have h3 : g ∉ F1 := fun h => hdis g h g hg rfl
      rw [o1 g h3]
      exact hF g (by simp [hg])) (fun i u hu => by rw [show p + 1 + i = p + (i + 1) from by omega]; exact hf (i + 1) u (by simpa using hu))
    refine ⟨γ2, i3, h3.trans h1, fun q hq => by rw [p3 q (by omega), b1], fun i cs' g hi1 hi2 => ?_⟩
    cases i with
    | zero => simp at hi1
    | succ i =>
      have := x3 i cs' g (by simpa using hi1) (by simpa using hi2)
      rw [show p + (i + 1) = p + 1 + i from by omega]
      exact this
  | .box cs :: as, vs, F, p, γ, s, hi, hr, hnd, hF, hf => by
    simp only [ARs, AR] at hr
    obtain ⟨v, vs', F1, F2, rfl, rfl, ⟨g, T, us, F', rfl, hB, hg0, rfl, hrs⟩, hr⟩ := hr
    rw [List.nodup_append] at hnd
    obtain ⟨hn1, hn2, hdis⟩ := hnd
    obtain ⟨hg1, hn1'⟩ := List.nodup_cons.1 hn1
    obtain ⟨γ1, i1, c1, b1, h1, o1, _⟩ := inCells_rel (d := p + 500) cs 0 hi hrs hn1' (fun g hg => hF g (by simp [hg]))
    have hfp := hf 0 _ rfl
    rw [Nat.add_zero] at hfp
    have hgF := hF g (by simp)
    obtain ⟨γ2, i2, j2, k2, l2, m2, w2⟩ := i1.addBox (b := 900 + p) hB (by rw [o1 g hg1]; exact hgF.1) hgF.2.2 (by rw [h1]; exact hg0) c1
    rw [kills_in] at i2
    have i3 : Inv γ2 h0 io w0 (enterA p (.box cs) s) f w := i2.put' p (.ptr (900 + p) 0) (by rw [hfp]; simp only [CR, j2])
    obtain ⟨γ3, i4, h4, p4, x4⟩ := enterAs_rel as (p + 1) i3 (by rw [l2, h1]; exact hr) hn2 (fun y hy => by
      have h3 : y ∉ F' := fun h => hdis y (by simp [h]) y hy rfl
      have h5 : y ≠ g := fun h => hdis y (by simp [h]) y hy rfl
      rw [w2 y h5, o1 y h3]
      exact hF y (by simp [hy])) (fun i u hu => by rw [show p + 1 + i = p + (i + 1) from by omega]; exact hf (i + 1) u (by simpa using hu))
    refine ⟨γ3, i4, h4.trans (l2.trans h1), fun q hq => by rw [p4 q (by omega), k2 _ (by omega), b1], fun i cs' g' hi1 hi2 => ?_⟩
    cases i with
    | zero =>
      simp at hi2
      rw [p4 _ (by omega), Nat.add_zero, j2, hi2]
    | succ i =>
      have := x4 i cs' g' (by simpa using hi1) (by simpa using hi2)
      rw [show p + (i + 1) = p + 1 + i from by omega]
      exact this

/-! ### what a function hands back -/
/-- cells that go out; the rows among them are rowsOf cs -/
theorem wr_rel {γ : Gh} {s : St} (hi : Inv γ h0 io w0 s f w) : ∀ (cs : List C) {vs : List Value} {rs : List RV}, CRs γ w cs vs → mapO (wrCell s) cs = some rs →
    ∃ F, RVRs γ.h w rs vs F ∧ (∀ g ∈ F, ∃ r ∈ rowsOf cs, γ.ω g = .row r) ∧ ((rowsOf cs).Nodup → F.Nodup)
  | [], vs, rs, hc, hm => by
    simp only [mapO, Option.some.injEq] at hm
    subst hm
    simp only [CRs] at hc
    subst hc
    exact ⟨[], by simp [RVRs], fun _ h => by simp at h, fun _ => by simp⟩
  | c :: cs, vs, rs, hc, hm => by
    simp only [CRs] at hc
    obtain ⟨v, vs', rfl, hv, hvs⟩ := hc
    simp only [mapO] at hm
    split at hm
    · rename_i y hy
      simp only [Option.map_eq_some_iff] at hm
      obtain ⟨rs', hm, rfl⟩ := hm
      obtain ⟨F, h1, h2, h3⟩ := wr_rel hi cs hvs hm
      cases c with
      | d x =>
        simp only [wrCell, Option.some.injEq] at hy
        subst hy
        simp only [CR] at hv
        refine ⟨F, ?_, by simpa [rowsOf] using h2, by simpa [rowsOf] using h3⟩
        simp only [RVRs, RVR]
        exact ⟨v, vs', [], F, rfl, rfl, ⟨rfl, hv⟩, h1⟩
      | nil k fl =>
        simp only [wrCell, Option.some.injEq] at hy
        subst hy
        simp only [CR] at hv
        refine ⟨F, ?_, by simpa [rowsOf] using h2, by simpa [rowsOf] using h3⟩
        simp only [RVRs, RVR]
        exact ⟨v, vs', [], F, rfl, rfl, ⟨⟨none, 0, 0, hv.1, rfl, Nat.le_refl _, by simp [maxLen], hv.2, fun _ h => by simp at h, fun _ => flat_nil, .inl ⟨rfl, rfl, rfl⟩⟩, by simp⟩, h1⟩
      | ref r =>
        simp only [wrCell, Option.map_eq_some_iff] at hy
        obtain ⟨x, hx, rfl⟩ := hy
        simp only [CR] at hv
        obtain ⟨Fr, hR, hnd, hω⟩ := hi.rw r x hx
        refine ⟨Fr ++ F, ?_, fun g hg => ?_, fun hn => ?_⟩
        · simp only [RVRs, RVR]
          exact ⟨v, vs', Fr, F, rfl, rfl, ⟨by rw [hv.1]; exact hR, hnd⟩, h1⟩
        · rcases List.mem_append.1 hg with hg | hg
          · exact ⟨r, by simp [rowsOf], hω g hg⟩
          · obtain ⟨q, hq, hqω⟩ := h2 g hg
            exact ⟨q, by simp [rowsOf, hq], hqω⟩
        · simp only [rowsOf, List.nodup_cons] at hn
          rw [List.nodup_append]
          refine ⟨hnd, h3 hn.2, ?_⟩
          intro a ha b hb e
          subst e
          obtain ⟨q, hq, hqω⟩ := h2 a hb
          rw [hω a ha] at hqω
          cases hqω
          exact hn.1 hq
      | _ => simp [wrCell] at hy
    · cases hm
end
end Go.Proofs.Ytmaigpiappmpcaa
