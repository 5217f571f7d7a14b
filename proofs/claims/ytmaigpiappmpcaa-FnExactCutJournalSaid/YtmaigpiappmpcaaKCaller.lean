/-
  A call, as the caller sees it. No program is named here.
-/
import Derived.Test.YtmaigpiappmpcaaKShare
namespace Go.Proofs.Ytmaigpiappmpcaa
set_option linter.unusedVariables false
set_option linter.unusedSimpArgs false
open Go.RowKit

section
variable {h0 : Nat → Nat} {io : List Nat} {w0 : World} {f : Fm} {w : World}

/-- the world behind a call; what was handed over is in nobody's hands, but for the boxes themselves -/
theorem Inv.after {γ : Gh} {s : St} (hi : Inv γ h0 io w0 s f w) {h1 h' : Nat → Nat} {F mv bs : List Nat} {w' : World} (hch : Chg h1 F w w' h') (hm : ∀ g, γ.h g ≤ h1 g) (hlab : ∀ g ∈ F, (∃ r ∈ mv, γ.ω g = .row r) ∨ ∃ b ∈ bs, γ.ω g = .box b) (hr : ∀ r ∈ mv, look s.rw r = none) (hb : ∀ b ∈ bs, look s.bx b = none)
    (hbz : ∀ g ∈ F, ∀ b, γ.ω g = .box b → h' g = 0) :
    Adv γ (fun o => (∃ r ∈ mv, o = .row r) ∨ ∃ b ∈ bs, o = .box b) w w' ∧
    ∃ γ', Inv γ' h0 io w0 s f w' ∧ γ'.β = γ.β ∧ γ'.sl = γ.sl ∧ (∀ g, γ.h g ≤ γ'.h g) ∧ (∀ g, g < w.heap.size → g ∉ F → γ'.h g = γ.h g) ∧ (∀ g, w.heap.size ≤ g ∨ g ∈ F → γ'.h g = h' g) ∧ (∀ g ∈ F, (∃ r ∈ mv, γ.ω g = .row r) → γ'.ω g = .lim) ∧ (∀ g b, γ.ω g = .box b → γ'.ω g = .box b) ∧ (∀ g, w.heap.size ≤ g → γ'.ω g = .free) := by
  have hFM : ∀ g ∈ F, (∃ r ∈ mv, γ.ω g = .row r) ∨ ∃ b ∈ bs, γ.ω g = .box b := hlab
  have hadv : Adv γ (fun o => (∃ r ∈ mv, o = .row r) ∨ ∃ b ∈ bs, o = .box b) w w' := {
    os := hch.os, tape := hch.tape, output := hch.output, size := hch.size
    block := fun g hg hn => hch.block g hg (fun hF => hn (hFM g hF))
    cell := fun g j hj => by
      have hg : g < w.heap.size := by
        rcases Nat.lt_or_ge g w.heap.size with h | h
        · exact h
        · have := hi.hnew g h; omega
      exact hch.cell g j hg (Nat.lt_of_lt_of_le hj (hm g))
    thaw := hch.thaw, kthaw := hch.kthaw }
  have i1 := hi.adv hadv (by rintro (⟨r, _, h⟩ | ⟨b, _, h⟩) <;> cases h) (fun b h => by
      rcases h with ⟨r, _, h⟩ | ⟨b', hb', h⟩
      · cases h
      · cases h; exact hb b hb') (fun r h => by
      rcases h with ⟨r', hr', h⟩ | ⟨b', _, h⟩
      · cases h; exact hr r hr'
      · cases h)
  have dead : ∀ g ∈ F, (∀ b cs, look s.bx b = some cs → γ.ω g ≠ .box b) ∧ ∀ r x, look s.rw r = some x → γ.ω g ≠ .row r := by
    intro g hg
    rcases hFM g hg with ⟨r, hr', h⟩ | ⟨b, hb', h⟩
    · refine ⟨fun b cs _ => by rw [h]; simp, fun q x hq => ?_⟩
      rw [h]; intro e; cases e; rw [hr r hr'] at hq; cases hq
    · refine ⟨fun b' cs hq => ?_, fun q x _ => by rw [h]; simp⟩
      rw [h]; intro e; cases e; rw [hb b hb'] at hq; cases hq
  refine ⟨hadv, ?_⟩
  have i2 := i1.settle (h' := fun g => if g < w.heap.size ∧ g ∉ F then γ.h g else h' g) (ω' := fun g => match γ.ω g with | .row r => if r ∈ mv ∧ g ∈ F then .lim else .row r | o => o)
    (fun g => by
      split
      · exact Nat.le_refl _
      · rename_i hn
        rcases Nat.lt_or_ge g w.heap.size with h | h
        · exact Nat.le_trans (hm g) (hch.mono g h)
        · rw [hi.hnew g h]; omega)
    (fun g hg => by
      by_cases hc : g < w.heap.size ∧ g ∉ F
      · simp [hc] at hg
      · simp only [if_neg hc] at hg
        rcases Nat.lt_or_ge g w.heap.size with h | h
        · have hF : g ∈ F := by
            rcases Decidable.em (g ∈ F) with h2 | h2
            · exact h2
            · exact absurd ⟨h, h2⟩ hc
          have hne : γ.ω g ≠ .free := by rcases hFM g hF with ⟨r, _, h⟩ | ⟨b, _, h⟩ <;> rw [h] <;> simp
          exact ⟨Nat.lt_of_lt_of_le h hch.size, (hi.own g hne).2, dead g hF⟩
        · have hlt : g < w'.heap.size := by
            rcases Nat.lt_or_ge g w'.heap.size with h2 | h2
            · exact h2
            · exact absurd (by rw [hch.hnew g h2, hi.hnew g h]) hg
          have hfr := hi.ω_new h
          exact ⟨hlt, .inl (Nat.le_trans hi.size h), fun _ _ _ => by rw [hfr]; simp, fun _ _ _ => by rw [hfr]; simp⟩)
    (fun g => by
      cases ho : γ.ω g with
      | row r =>
        simp only
        by_cases hc : r ∈ mv ∧ g ∈ F
        · rw [if_pos hc]
          have := dead g hc.2
          rw [ho] at this
          exact .inr ⟨.inr rfl, by simp, this⟩
        · rw [if_neg hc]; exact .inl rfl
      | _ => exact .inl rfl)
    (fun g b hg => by
      have ho : γ.ω g = .box b := by
        cases ho : γ.ω g with
        | row r =>
          rw [ho] at hg
          simp only at hg
          split at hg <;> cases hg
        | free => rw [ho] at hg; cases hg
        | lim => rw [ho] at hg; cases hg
        | box b' => rw [ho] at hg; exact hg
      by_cases hc : g < w.heap.size ∧ g ∉ F
      · simp only [if_pos hc]; exact hi.hbox g b ho
      · simp only [if_neg hc]
        rcases Nat.lt_or_ge g w.heap.size with h | h
        · have hF : g ∈ F := by
            rcases Decidable.em (g ∈ F) with h2 | h2
            · exact h2
            · exact absurd ⟨h, h2⟩ hc
          exact hbz g hF b ho
        · rw [hi.ω_new h] at ho; cases ho)
  refine ⟨_, i2, rfl, rfl, fun g => ?_, fun g h1 h2 => by simp [h1, h2], fun g hg => ?_, fun g hg ⟨r, hr', h⟩ => by simp [h, hr', hg], fun g b h => by simp [h], fun g hg => by simp [hi.ω_new hg]⟩
  · dsimp only
    split
    · exact Nat.le_refl _
    · rcases Nat.lt_or_ge g w.heap.size with h | h
      · exact Nat.le_trans (hm g) (hch.mono g h)
      · rw [hi.hnew g h]; omega
  · have hc : ¬ (g < w.heap.size ∧ g ∉ F) := by
      rintro ⟨h1, h2⟩
      rcases hg with h | h
      · omega
      · exact h2 h
    simp only [if_neg hc]

/-! ### values under another ghost -/
theorem RowR.re {h h2 : Nat → Nat} {x : Row} {v : Value} {F : List Nat} (hr : RowR h w x v F) (hF : ∀ g ∈ F, h2 g = h g) (hc : x.deep = true ∨ ∀ g, h g ≤ h2 g) : RowR h2 w x v F := by
  obtain ⟨A, n, c, q1, q2, q3, q4, q5, q6, q7, q8⟩ := hr
  refine ⟨A, n, c, q1, q2, q3, q4, q5, q6, q7, ?_⟩
  rcases q8 with q8 | ⟨g, o, xs, G, a1, a2, a3, a4, a5, a6, a7, a8, a9, a10⟩
  · exact .inl q8
  · have hg : g ∈ F := by
      cases hd : x.deep with
      | true => rw [(a9 hd).1]; simp
      | false => rw [(a10 hd).1]; simp
    refine .inr ⟨g, o, xs, G, a1, a2, a3, a4, a5, by rw [hF g hg]; exact a6, fun hz => by rw [hF g hg]; exact a7 hz, a8, fun hd => ⟨(a9 hd).1, fun be hb => ?_⟩, fun hd => ⟨(a10 hd).1, ?_⟩⟩
    · have hm : be.1 ∈ F := by rw [(a9 hd).1]; simp; exact .inr ⟨be.2, hb⟩
      rw [hF _ hm]; exact (a9 hd).2 be hb
    · rcases hc with hc | hc
      · rw [hd] at hc; cases hc
      · exact (a10 hd).2.mono hc
theorem RVRs.re {h h2 : Nat → Nat} : ∀ {rs : List RV} {vs : List Value} {F : List Nat}, RVRs h w rs vs F → (∀ g ∈ F, h2 g = h g) → (rs.all RV.closed = true ∨ ∀ g, h g ≤ h2 g) → RVRs h2 w rs vs F
  | [], _, _, hr, _, _ => by simpa only [RVRs] using hr
  | .d x :: rs, _, _, hr, hF, hc => by
    simp only [RVRs, RVR] at hr ⊢
    obtain ⟨v, vs', F1, F2, rfl, rfl, ⟨rfl, G, h3, h4⟩, h5⟩ := hr
    refine ⟨v, vs', [], F2, rfl, rfl, ⟨rfl, G, h3, ?_⟩, RVRs.re h5 (by simpa using hF) (hc.imp (fun h => by simp at h ⊢; exact h.2) id)⟩
    rcases hc with hc | hc
    · simp only [List.all_cons, Bool.and_eq_true, RV.closed] at hc
      have : RpC w [x] [v] G := by simp only [RpC]; exact ⟨v, [], G, [], rfl, by simp, h3, rfl, rfl⟩
      have hG : G = [] := this.plain (by simp [hc.1])
      subst hG
      exact fun _ h => by simp at h
    · exact h4.mono hc
  | .row x :: rs, _, _, hr, hF, hc => by
    simp only [RVRs, RVR] at hr ⊢
    obtain ⟨v, vs', F1, F2, rfl, rfl, ⟨h3, h4⟩, h5⟩ := hr
    refine ⟨v, vs', F1, F2, rfl, rfl, ⟨h3.re (fun g hg => hF g (by simp [hg])) (hc.imp (fun h => by simp [RV.closed] at h; exact h.1) id), h4⟩, RVRs.re h5 (fun g hg => hF g (by simp [hg])) (hc.imp (fun h => by simp at h ⊢; exact h.2) id)⟩
theorem ARs.re {h h2 : Nat → Nat} : ∀ {rs : List A} {vs : List Value} {F : List Nat}, ARs h w rs vs F → (∀ g ∈ F, h2 g = h g) → (rs.all A.closed = true ∨ ∀ g, h g ≤ h2 g) → ARs h2 w rs vs F
  | [], _, _, hr, _, _ => by simpa only [ARs] using hr
  | .val ag cs :: rs, _, _, hr, hF, hc => by
    simp only [ARs, AR] at hr ⊢
    obtain ⟨v, vs', F1, F2, rfl, rfl, ⟨us, h3, h4⟩, h5⟩ := hr
    exact ⟨v, vs', F1, F2, rfl, rfl, ⟨us, h3.re (fun g hg => hF g (by simp [hg])) (hc.imp (fun h => by simp only [List.all_cons, Bool.and_eq_true, A.closed] at h; exact h.1) id), h4⟩, ARs.re h5 (fun g hg => hF g (by simp [hg])) (hc.imp (fun h => by simp only [List.all_cons, Bool.and_eq_true] at h; exact h.2) id)⟩
  | .box cs :: rs, _, _, hr, hF, hc => by
    simp only [ARs, AR] at hr ⊢
    obtain ⟨v, vs', F1, F2, rfl, rfl, ⟨g, T, us, F', h1, h2', h3, rfl, h4⟩, h5⟩ := hr
    refine ⟨v, vs', g :: F', F2, rfl, rfl, ⟨g, T, us, F', h1, h2', by rw [hF g (by simp)]; exact h3, rfl, h4.re (fun y hy => hF y (by simp [hy])) (hc.imp (fun h => by simp only [List.all_cons, Bool.and_eq_true, A.closed] at h; exact h.1) id)⟩, ARs.re h5 (fun g hg => hF g (by simp [hg])) (hc.imp (fun h => by simp only [List.all_cons, Bool.and_eq_true] at h; exact h.2) id)⟩
/-- a pointer among the values is a box -/
theorem AR.ptr {h : Nat → Nat} {a : A} {g : Nat} {F : List Nat} (hr : AR h w a (.pointer (some ⟨g, 0, none⟩)) F) : (∃ cs, a = .box cs) ∧ h g = 0 ∧ g ∈ F := by
  cases a with
  | val ag cs =>
    simp only [AR] at hr
    obtain ⟨us, h1, h2, h3⟩ := hr
    cases ag with
    | true => cases h2 rfl
    | false =>
      have := h3 rfl
      subst this
      cases cs with
      | nil => simp [RVRs] at h1
      | cons r rs =>
        simp only [RVRs] at h1
        obtain ⟨v, vs', F1, F2, e, _, h4, _⟩ := h1
        simp only [List.cons.injEq] at e
        rw [← e.1] at h4
        cases r with
        | d x =>
          obtain ⟨_, G, h5, _⟩ := h4
          have := h5.isOne
          cases x <;> simp [Rp] at h5
        | row x =>
          obtain ⟨A, n, c, h6⟩ := h4.1.slice
          cases h6
  | box cs =>
    simp only [AR] at hr
    obtain ⟨g', T, us, F', e, _, h3, rfl, _⟩ := hr
    simp only [Value.pointer.injEq, Option.some.injEq, Addr.mk.injEq, and_true] at e
    subst e
    exact ⟨⟨cs, rfl⟩, h3, by simp⟩
theorem ARs.ptr {h : Nat → Nat} : ∀ {as : List A} {vs : List Value} {F : List Nat}, ARs h w as vs F → ∀ g, Value.pointer (some ⟨g, 0, none⟩) ∈ vs → h g = 0 ∧ g ∈ F
  | [], _, _, hr, g, hg => by simp only [ARs] at hr; rw [hr.1] at hg; simp at hg
  | a :: as, _, _, hr, g, hg => by
    simp only [ARs] at hr
    obtain ⟨v, vs', F1, F2, rfl, rfl, h1, h2⟩ := hr
    rcases List.mem_cons.1 hg with rfl | hg
    · obtain ⟨_, h3, h4⟩ := h1.ptr
      exact ⟨h3, by simp [h4]⟩
    · obtain ⟨h3, h4⟩ := ARs.ptr h2 g hg
      exact ⟨h3, by simp [h4]⟩

/-- where the boxes among some values lie -/
def PtrOk (β : Nat → Nat) : List C → List Value → Prop
  | [], vs => vs = []
  | c :: cs, vs => ∃ v vs', vs = v :: vs' ∧ (∀ b, c = .ptr b 0 → v = .pointer (some ⟨β b, 0, none⟩)) ∧ PtrOk β cs vs'
theorem CRs.ptrs {γ : Gh} : ∀ {cs : List C} {vs : List Value}, CRs γ w cs vs → PtrOk γ.β cs vs
  | [], _, h => by simpa only [CRs, PtrOk] using h
  | c :: cs, _, h => by
    simp only [CRs] at h
    obtain ⟨v, vs', rfl, h1, h2⟩ := h
    simp only [PtrOk]
    exact ⟨v, vs', rfl, fun b e => by subst e; simpa only [CR] using h1, CRs.ptrs h2⟩
/-- the boxes come back -/
theorem wback_rel : ∀ (cs : List C) {as outs : List A} {vs : List Value} {F : List Nat} {γ : Gh} {s s' : St}, Inv γ h0 io w0 s f w → PtrOk γ.β cs vs → toAs s' cs = some as → ARs γ.h w outs (outVals as vs) F → F.Nodup → (∀ g ∈ F, (γ.ω g = .free ∨ γ.ω g = .lim ∨ Value.pointer (some ⟨g, 0, none⟩) ∈ outVals as vs) ∧ g < w.heap.size ∧ (w0.heap.size ≤ g ∨ g ∈ io)) →
    (∀ b ∈ boxesOf cs, γ.ω (γ.β b) = .box b) → ∃ γ', Inv γ' h0 io w0 (wback s cs outs) f w ∧ γ'.β = γ.β ∧ γ'.h = γ.h ∧ ∀ g, g ∉ F → γ'.ω g = γ.ω g
  | [], as, outs, vs, F, γ, s, s', hi, _, _, _, _, _, _ => ⟨γ, by simpa [wback] using hi, rfl, rfl, fun _ _ => rfl⟩
  | c :: cs, as, outs, vs, F, γ, s, s', hi, hc, ha, hr, hnd, hF, hbo => by
    simp only [PtrOk] at hc
    obtain ⟨v, vs', rfl, hv, hvs⟩ := hc
    simp only [toAs] at ha
    split at ha
    · rename_i a haa
      simp only [Option.map_eq_some_iff] at ha
      obtain ⟨as', ha, rfl⟩ := ha
      by_cases hp : ∃ b, c = .ptr b 0
      · obtain ⟨b, rfl⟩ := hp
        have hbox : ∃ rs, a = .box rs := by
          simp only [toA] at haa
          split at haa
          · simp only [Option.map_eq_some_iff] at haa
            obtain ⟨rs, _, rfl⟩ := haa
            exact ⟨rs, rfl⟩
          · cases haa
        obtain ⟨rs, rfl⟩ := hbox
        simp only [outVals] at hr hF
        have hv := hv b rfl
        cases outs with
        | nil => simp [ARs] at hr
        | cons o outs =>
          simp only [ARs] at hr
          obtain ⟨v0, ovs, F1, F2, e, rfl, h1, h2⟩ := hr
          simp only [List.cons.injEq] at e
          obtain ⟨rfl, rfl⟩ := e
          rw [hv] at h1
          obtain ⟨⟨bcs, rfl⟩, hz, hgm⟩ := h1.ptr
          simp only [AR] at h1
          obtain ⟨g, T, us, F', e, hB, hg0, rfl, hrs⟩ := h1
          simp only [Value.pointer.injEq, Option.some.injEq, Addr.mk.injEq, and_true] at e
          subst e
          rw [List.nodup_append] at hnd
          obtain ⟨hn1, hn2, hdis⟩ := hnd
          obtain ⟨hg1, hn1'⟩ := List.nodup_cons.1 hn1
          have good : ∀ g ∈ F', γ.ω g = .free ∨ γ.ω g = .lim := by
            intro g hg
            rcases (hF g (by simp [hg])).1 with h | h | h
            · exact .inl h
            · exact .inr h
            · exfalso
              rcases List.mem_cons.1 h with h | h
              · rw [hv] at h
                simp only [Value.pointer.injEq, Option.some.injEq, Addr.mk.injEq, and_true] at h
                exact hg1 (h ▸ hg)
              · have := (ARs.ptr h2 g h).2
                exact hdis g (by simp [hg]) g this rfl
          obtain ⟨γ1, i1, c1, b1, h1', o1, s1⟩ := inCells_rel (d := b + 500) bcs 0 hi hrs hn1' (fun g hg => ⟨good g hg, (hF g (by simp [hg])).2⟩)
          have hωb : γ1.ω (γ1.β b) = .box b := by
            rw [b1, o1 _ hg1]; exact hbo b (by simp [boxesOf])
          have i2 := i1.setBox (b := b) (by rw [b1]; exact hB) hωb c1
          have mem2 : ∀ g, g ∈ F2 → g ∉ F' := fun g hg h => hdis g (by simp [h]) g hg rfl
          obtain ⟨γ2, i3, b3, h3, o3⟩ := wback_rel cs (as := as') (outs := outs) (vs := vs') (F := F2) i2 (by rw [b1]; exact hvs) ha (by rw [h1']; exact h2) hn2 (fun g hg => by
            obtain ⟨k1, k2⟩ := hF g (by simp [hg])
            refine ⟨?_, k2⟩
            rw [o1 g (mem2 g hg)]
            rcases k1 with h | h | h
            · exact .inl h
            · exact .inr (.inl h)
            · rcases List.mem_cons.1 h with h | h
              · exfalso
                rw [hv] at h
                simp only [Value.pointer.injEq, Option.some.injEq, Addr.mk.injEq, and_true] at h
                exact hdis g (by simp [h]) g hg rfl
              · exact .inr (.inr h)) (fun b' hb' => by
            have hb2 := hbo b' (by simp [boxesOf, hb'])
            rw [b1, o1]
            · exact hb2
            · intro hm
              rcases good _ hm with h | h <;> rw [hb2] at h <;> cases h)
          refine ⟨γ2, by simpa [wback] using i3, b3.trans b1, h3.trans h1', fun g hg => ?_⟩
          simp only [List.mem_append, List.mem_cons, not_or] at hg
          rw [o3 g hg.2, o1 g hg.1.2]
      · have hval : ∃ ag rs, a = .val ag rs := by
          unfold toA at haa
          split at haa
          · rename_i b; exact absurd ⟨b, rfl⟩ hp
          · simp only [Option.map_eq_some_iff] at haa
            obtain ⟨rs, _, rfl⟩ := haa
            exact ⟨_, rs, rfl⟩
        obtain ⟨ag, rs, rfl⟩ := hval
        simp only [outVals] at hr hF
        have e : wback s (c :: cs) outs = wback s cs outs := by
          cases c with
          | ptr b o =>
            cases o with
            | zero => exact absurd ⟨b, rfl⟩ hp
            | succ o => simp [wback]
          | _ => simp [wback]
        rw [e]
        exact wback_rel cs hi hvs ha hr hnd hF (fun b hb => hbo b (by cases c <;> simp [boxesOf, hb]))
    · cases ha

/-! ### results -/
theorem resCells_rel {d : Nat} : ∀ (rs : List A) {us : List Value} {F : List Nat} (q : Nat) {γ : Gh} {s : St}, Inv γ h0 io w0 s f w → ARs γ.h w rs us F → F.Nodup → (∀ g ∈ F, (γ.ω g = .free ∨ γ.ω g = .lim) ∧ g < w.heap.size ∧ (w0.heap.size ≤ g ∨ g ∈ io)) → (∀ a ∈ rs, ∃ ag cs, a = .val ag cs ∧ cs.length ≤ 30) →
    ∃ γ', Inv γ' h0 io w0 (resCells d q rs s).2 f w ∧ CRs γ' w (resCells d q rs s).1 us ∧ γ'.β = γ.β ∧ γ'.h = γ.h ∧ ∀ r, (∀ i, 30 * q ≤ i → r ≠ rid d i) → γ'.sl r = γ.sl r
  | [], us, F, q, γ, s, hi, hr, _, _, _ => by
    simp only [ARs] at hr
    obtain ⟨rfl, rfl⟩ := hr
    exact ⟨γ, by simpa [resCells] using hi, by simp [resCells, CRs], rfl, rfl, fun _ _ => rfl⟩
  | a :: rs, us, F, q, γ, s, hi, hr, hnd, hF, hv => by
    obtain ⟨ag, cs, rfl, hlen⟩ := hv a (by simp)
    simp only [ARs, AR] at hr
    obtain ⟨v, vs', F1, F2, rfl, rfl, ⟨ws, h3, h4, h5⟩, h6⟩ := hr
    rw [List.nodup_append] at hnd
    obtain ⟨hn1, hn2, hdis⟩ := hnd
    have hwl := h3.length
    obtain ⟨γ1, i1, c1, b1, e1, o1, s1⟩ := inCells_rel2 (d := d) cs (30 * q) hi h3 hn1 (fun g hg => hF g (by simp [hg]))
    obtain ⟨γ2, i2, c2, b2, e2, s2⟩ := resCells_rel rs (q + 1) i1 (by rw [e1]; exact h6) hn2 (fun g hg => by
      rw [o1 g (fun h => hdis g h g hg rfl)]
      exact hF g (by simp [hg])) (fun a ha => hv a (by simp [ha]))
    have c1' : CRs γ2 w (inCells d (30 * q) cs s).1 ws := by
      refine c1 γ2 (by rw [e2]) (fun j hj1 hj2 => s2 _ (fun i hi => rid_ne (by omega)))
    refine ⟨γ2, i2, ?_, b2.trans b1, e2.trans e1, fun r hr => ?_⟩
    · simp only [resCells, CRs]
      refine ⟨v, vs', rfl, ?_, c2⟩
      cases ag with
      | true =>
        rw [h4 rfl]
        simp only [if_true, CR]
        exact ⟨ws, rfl, c1'⟩
      | false =>
        simp only [Bool.false_eq_true, if_false]
        have := h5 rfl
        subst this
        exact headD_rel c1'
    · rw [s2 r (fun i hi => hr i (by omega)), s1 r (fun i hi => hr i hi)]
end
end Go.Proofs.Ytmaigpiappmpcaa
