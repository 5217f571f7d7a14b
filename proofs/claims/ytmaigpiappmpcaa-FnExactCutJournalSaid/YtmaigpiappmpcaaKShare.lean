/-
  Rows that are lent; what a call is given. No program is named here.
-/
import Derived.Test.YtmaigpiappmpcaaKCall
namespace Go.Proofs.Ytmaigpiappmpcaa
set_option linter.unusedVariables false
set_option linter.unusedSimpArgs false
open Go.RowKit

section
variable {h0 : Nat → Nat} {io : List Nat} {w0 : World} {f : Fm} {w : World}

theorem setRow_drop (s : St) (r : Nat) (x : Row) : (s.dropRow r).setRow r x = s.setRow r x := by
  simp [St.setRow, St.dropRow, look_drop]

/-- a row that is settled as it stands -/
theorem Inv.share1 {γ : Gh} {s : St} (hi : Inv γ h0 io w0 s f w) {r : Nat} {x : Row} (hl : look s.rw r = some x) :
    ∃ γ' G, Inv γ' h0 io w0 (s.setRow r x.share) f w ∧ γ'.β = γ.β ∧ γ'.sl = γ.sl ∧ (∀ g, γ.h g ≤ γ'.h g) ∧ Rp w (.list x.k x.fl x.es) (γ.sl r) G ∧ Settled γ'.h G ∧ ∀ g, γ'.ω g = γ.ω g ∨ γ'.ω g = .lim ∨ γ'.ω g = .free ∨ γ'.ω g = .row r := by
  obtain ⟨γ2, A, n, c, i2, b2, sl2, hh2, o2, l2, q1, q2, q3, q4, q5, q6, q7, q8⟩ := hi.openRow hl
  have own2 : ∀ g, γ2.ω g = γ.ω g ∨ γ2.ω g = .lim := fun g => by
    rcases Decidable.em (γ.ω g = .row r) with h | h
    · exact .inr (l2 g h)
    · exact .inl (o2 g h)
  rcases q8 with ⟨rfl, rfl⟩ | ⟨g, o, xs, G, rfl, a2, a3, a4, a5, a6, a7, a8, a9, a10, a11, a12⟩
  · have hR : RowR γ2.h w x.share (γ2.sl r) [] := ⟨none, n, 0, by rw [sl2]; exact q1, q2, q3, q4, q5, q6, q7, .inl ⟨rfl, rfl, rfl⟩⟩
    obtain ⟨γ', h2, h3, h4, h5, h6⟩ := i2.setRow (r := r) hR (by simp) (fun _ h => by simp at h)
    rw [setRow_drop] at h2
    refine ⟨γ', [], h2, h4.trans b2, h3.trans sl2, fun g => by rw [h5, hh2]; exact Nat.le_refl _, ?_, fun _ h => by simp at h, fun g => ?_⟩
    · simp only [Rp]
      exact ⟨none, n, 0, q1, q2, q3, q4, q7, q5, q6, .inl ⟨by omega, trivial⟩⟩
    · rcases h6 g with h | h
      · rw [h]; rcases own2 g with h' | h'
        · exact .inl h'
        · exact .inr (.inl h')
      · exact .inr (.inr (.inr h))
  · have i3 := i2.settle (h' := fun y => if y = g then o + n * x.k else γ2.h y) (ω' := γ2.ω) (fun y => by
        split
        · rename_i e; subst e; rw [hh2]; exact a8
        · exact Nat.le_refl _)
      (fun y hy => by
        have e : y = g := by
          rcases Decidable.em (y = g) with h | h
          · exact h
          · exact absurd (by simp [h]) hy
        subst e
        have ho := i2.own y (by rw [a4]; simp)
        exact ⟨ho.1, ho.2, fun _ _ _ => by rw [a4]; simp, fun _ _ _ => by rw [a4]; simp⟩)
      (fun y => .inl rfl)
      (fun y b hy => by
        by_cases e : y = g
        · subst e; rw [a4] at hy; cases hy
        · simp only [if_neg e]; exact i2.hbox y b hy)
    have lim3 : ∀ y, y ≠ g → Lim γ2 w y → Lim { γ2 with h := fun y => if y = g then o + n * x.k else γ2.h y, ω := γ2.ω } w y := fun y hy hL => ⟨hL.1, by simp only [if_neg hy]; exact hL.2.1, hL.2.2⟩
    obtain ⟨γ4, i4, s4, b4, m4, g4, w4⟩ := i3.closeSame (r := r) (x := x.share) (n := n) (c := c) (g := g) (o := o) q2 q3 q4 q5 q6 q7 a2 (.inl a4) (i2.own g (by rw [a4]; simp)).2 a5 a6 a7 (by simp only [if_true]; exact Nat.le_refl _) (fun h => by cases h) a10
      (fun be hb => by
        rcases a11 be hb with h | ⟨h, hne⟩
        · by_cases e : be.1 = g
          · simp only [if_pos e]
            rw [e] at h
            exact .inl (Nat.le_trans h a8)
          · simp only [if_neg e]
            rw [hh2]; exact .inl h
        · exact .inr ⟨lim3 _ hne h, hne⟩)
      (fun hf => by
        have : G = [] := a6.plain (q7 hf)
        subst this
        simp)
      (by show γ2.sl r = _; rw [sl2]; exact q1)
    rw [setRow_drop] at i4
    have mono : ∀ y, γ.h y ≤ γ4.h y := fun y => by
      refine Nat.le_trans ?_ (m4 y)
      show γ.h y ≤ if y = g then o + n * x.k else γ2.h y
      split
      · rename_i e; subst e; exact a8
      · rw [hh2]; exact Nat.le_refl _
    have hgg : o + n * x.k ≤ γ4.h g := by
      have := m4 g
      simpa using this
    have hset : Settled γ4.h G := by
      cases hf : x.fl with
      | true =>
        have : G = [] := a6.plain (q7 hf)
        subst this
        exact fun _ h => by simp at h
      | false => exact g4 hf
    have own4 : ∀ g, γ4.ω g = γ.ω g ∨ γ4.ω g = .lim ∨ γ4.ω g = .free ∨ γ4.ω g = .row r := fun y => by
      rcases w4 y with h | h | h
      · rw [h]
        rcases own2 y with h' | h'
        · exact .inl h'
        · exact .inr (.inl h')
      · exact .inr (.inr (.inl h))
      · exact .inr (.inr (.inr h))
    by_cases hn : n = 0
    · refine ⟨γ4, [], i4, b4.trans b2, s4.trans sl2, mono, ?_, fun _ h => by simp at h, own4⟩
      simp only [Rp]
      exact ⟨_, n, c, q1, q2, q3, q4, q7, q5, q6, .inl ⟨hn, trivial⟩⟩
    · refine ⟨γ4, (g, o + n * x.k) :: G, i4, b4.trans b2, s4.trans sl2, mono, ?_, fun be hb => ?_, own4⟩
      · simp only [Rp]
        exact ⟨_, n, c, q1, q2, q3, q4, q7, q5, q6, .inr ⟨by omega, g, o, xs, G, rfl, rfl, a6, a7⟩⟩
      · rcases List.mem_cons.1 hb with rfl | hb
        · exact hgg
        · exact hset be hb

theorem look_setRow (s : St) (r q : Nat) (x : Row) : look (s.setRow r x).rw q = if r = q then some x else look s.rw q := by
  simp only [St.setRow, look, look_drp]
  split <;> rfl

theorem Inv.shareR : ∀ (rs : List Nat) {γ : Gh} {s : St}, Inv γ h0 io w0 s f w →
    ∃ γ', Inv γ' h0 io w0 (shareAll s rs) f w ∧ γ'.β = γ.β ∧ γ'.sl = γ.sl ∧ (∀ g, γ.h g ≤ γ'.h g) ∧ (∀ r ∈ rs, ∀ x, look s.rw r = some x → ∃ G, Rp w (.list x.k x.fl x.es) (γ.sl r) G ∧ Settled γ'.h G) ∧
      (∀ g, γ'.ω g = γ.ω g ∨ γ'.ω g = .lim ∨ γ'.ω g = .free ∨ ∃ r ∈ rs, γ'.ω g = .row r) ∧ (shareAll s rs).sl = s.sl ∧ (shareAll s rs).bx = s.bx ∧ ∀ q, q ∉ rs → look (shareAll s rs).rw q = look s.rw q
  | [], γ, s, hi => ⟨γ, hi, rfl, rfl, fun _ => Nat.le_refl _, fun _ h => by simp at h, fun _ => .inl rfl, rfl, rfl, fun _ _ => rfl⟩
  | r :: rs, γ, s, hi => by
    cases hl : look s.rw r with
    | none =>
      obtain ⟨γ', i1, b1, s1, m1, g1, w1, e1, e2, e3⟩ := Inv.shareR rs hi
      have e0 : shareAll s (r :: rs) = shareAll s rs := by simp [shareAll, hl]
      rw [e0]
      refine ⟨γ', i1, b1, s1, m1, fun q hq x hx => ?_, fun g => ?_, e1, e2, fun q hq => e3 q (fun h => hq (by simp [h]))⟩
      · rcases List.mem_cons.1 hq with rfl | hq
        · rw [hl] at hx; cases hx
        · exact g1 q hq x hx
      · rcases w1 g with h | h | h | ⟨q, hq, h⟩
        · exact .inl h
        · exact .inr (.inl h)
        · exact .inr (.inr (.inl h))
        · exact .inr (.inr (.inr ⟨q, by simp [hq], h⟩))
    | some x =>
      obtain ⟨γ1, G, i1, b1, s1, m1, rp1, set1, w1⟩ := hi.share1 hl
      obtain ⟨γ2, i2, b2, s2, m2, g2, w2, e1, e2, e3⟩ := Inv.shareR rs i1
      have e0 : shareAll s (r :: rs) = shareAll (s.setRow r x.share) rs := by simp [shareAll, hl]
      rw [e0]
      refine ⟨γ2, i2, b2.trans b1, s2.trans s1, fun g => Nat.le_trans (m1 g) (m2 g), fun q hq y hy => ?_, fun g => ?_, e1, e2, fun q hq => ?_⟩
      · by_cases hqr : q = r
        · subst hqr
          rw [hl] at hy
          cases hy
          exact ⟨G, rp1, set1.mono m2⟩
        · rcases List.mem_cons.1 hq with hq | hq
          · exact absurd hq hqr
          · obtain ⟨G', h1, h2⟩ := g2 q hq y (by rw [look_setRow, if_neg (Ne.symm hqr)]; exact hy)
            exact ⟨G', by rw [← s1]; exact h1, h2⟩
      · rcases w2 g with h | h | h | ⟨q, hq, h⟩
        · rw [h]
          rcases w1 g with h' | h' | h' | h'
          · exact .inl h'
          · exact .inr (.inl h')
          · exact .inr (.inr (.inl h'))
          · exact .inr (.inr (.inr ⟨r, by simp, h'⟩))
        · exact .inr (.inl h)
        · exact .inr (.inr (.inl h))
        · exact .inr (.inr (.inr ⟨q, by simp [hq], h⟩))
      · simp only [List.mem_cons, not_or] at hq
        rw [e3 q hq.2, look_setRow, if_neg (Ne.symm hq.1)]

/-! ### the arguments of a call -/
theorem nodupB_iff : ∀ (l : List Nat), nodupB l = true ↔ l.Nodup
  | [] => by simp [nodupB]
  | x :: l => by simp [nodupB, nodupB_iff l]
theorem wr_look {s S : St} : ∀ (cs : List C), (∀ r ∈ rowsOf cs, look S.rw r = look s.rw r) → mapO (wrCell S) cs = mapO (wrCell s) cs
  | [], _ => rfl
  | c :: cs, h => by
    have ih := wr_look (s := s) (S := S) cs (fun r hr => h r (by cases c <;> simp [rowsOf, hr]))
    simp only [mapO, ih]
    cases c with
    | ref r => simp only [wrCell, h r (by simp [rowsOf])]
    | _ => rfl
theorem wr_cell {s : St} : ∀ {cs : List C} {rs : List RV}, mapO (wrCell s) cs = some rs → cs.all C.cell = true
  | [], _, _ => rfl
  | c :: cs, rs, h => by
    simp only [mapO] at h
    split at h
    · rename_i y hy
      simp only [Option.map_eq_some_iff] at h
      obtain ⟨rs', h, _⟩ := h
      have ih := wr_cell h
      cases c <;> simp_all [wrCell, C.cell]
    · cases h
theorem rd_cell {s : St} : ∀ {cs : List C} {rs : List RV}, mapO (rdCell s) cs = some rs → cs.all C.cell = true
  | [], _, _ => rfl
  | c :: cs, rs, h => by
    simp only [mapO] at h
    split at h
    · rename_i y hy
      simp only [Option.map_eq_some_iff] at h
      obtain ⟨rs', h, _⟩ := h
      have ih := rd_cell h
      cases c <;> simp_all [rdCell, C.cell]
    · cases h
theorem rd_rel {γ γs : Gh} {s : St} {ln : List Nat} (hm : ∀ g, γ.h g ≤ γs.h g) (hG : ∀ r ∈ ln, ∀ x, look s.rw r = some x → ∃ G, Rp w (.list x.k x.fl x.es) (γ.sl r) G ∧ Settled γs.h G) :
    ∀ (cs : List C) {vs : List Value} {rs : List RV}, CRs γ w cs vs → mapO (rdCell s) cs = some rs → (∀ r ∈ rowsOf cs, r ∈ ln) → RVRs γs.h w rs vs []
  | [], vs, rs, hc, h, _ => by
    simp only [mapO, Option.some.injEq] at h
    subst h
    simp only [CRs] at hc
    simp [RVRs, hc]
  | c :: cs, vs, rs, hc, h, hl => by
    simp only [CRs] at hc
    obtain ⟨v, vs', rfl, hv, hvs⟩ := hc
    simp only [mapO] at h
    split at h
    · rename_i y hy
      simp only [Option.map_eq_some_iff] at h
      obtain ⟨rs', h, rfl⟩ := h
      have ih := rd_rel hm hG cs hvs h (fun r hr => hl r (by cases c <;> simp [rowsOf, hr]))
      simp only [RVRs]
      refine ⟨v, vs', [], [], rfl, rfl, ?_, ih⟩
      cases c with
      | d x =>
        simp only [rdCell, Option.some.injEq] at hy
        subst hy
        simp only [CR] at hv
        obtain ⟨G, h1, h2⟩ := hv
        exact ⟨rfl, G, h1, h2.mono hm⟩
      | nil k fl =>
        simp only [rdCell, Option.some.injEq] at hy
        subst hy
        simp only [CR] at hv
        refine ⟨rfl, [], ?_, fun _ h => by simp at h⟩
        simp only [Rp]
        exact ⟨none, 0, 0, hv.1, rfl, Nat.le_refl _, by simp [maxLen], fun _ => flat_nil, hv.2, fun _ h => by simp at h, .inl ⟨rfl, trivial⟩⟩
      | ref r =>
        simp only [rdCell, Option.map_eq_some_iff] at hy
        obtain ⟨x, hx, rfl⟩ := hy
        simp only [CR] at hv
        obtain ⟨G, h1, h2⟩ := hG r (hl r (by simp [rowsOf])) x hx
        exact ⟨rfl, G, by rw [hv.1]; exact h1, h2⟩
      | _ => simp [rdCell] at hy
    · cases h

/-- what is handed over: data that are settled, boxes with rows of one's own -/
theorem args_rel {γ γs : Gh} {s S : St} {ln : List Nat} (hS : Inv γs h0 io w0 S f w) (hb : γs.β = γ.β) (hsl : γs.sl = γ.sl) (hm : ∀ g, γ.h g ≤ γs.h g) (hbx : S.bx = s.bx) (hG : ∀ r ∈ ln, ∀ x, look s.rw r = some x → ∃ G, Rp w (.list x.k x.fl x.es) (γ.sl r) G ∧ Settled γs.h G)
    (hlk : ∀ q, q ∉ ln → look S.rw q = look s.rw q) : ∀ (cs : List C) {vs : List Value} {as : List A}, CRs γ w cs vs → toAs s cs = some as → (∀ r ∈ lentAll cs, r ∈ ln) → (∀ r ∈ movedAll s cs, r ∉ ln) → (movedAll s cs).Nodup → (boxesOf cs).Nodup →
      ∃ F, ARs γs.h w as vs F ∧ F.Nodup ∧ (∀ g ∈ F, (∃ r ∈ movedAll s cs, γs.ω g = .row r) ∨ ∃ b ∈ boxesOf cs, γs.ω g = .box b ∧ g = γs.β b) ∧ ∀ b ∈ boxesOf cs, Value.pointer (some ⟨γs.β b, 0, none⟩) ∈ outVals as vs
  | [], vs, as, hc, h, _, _, _, _ => by
    simp only [toAs, Option.some.injEq] at h
    subst h
    simp only [CRs] at hc
    exact ⟨[], by simp [ARs, hc], by simp, fun _ h => by simp at h, fun _ h => by simp [boxesOf] at h⟩
  | c :: cs, vs, as, hc, h, hl, hmv, hnm, hnb => by
    simp only [CRs] at hc
    obtain ⟨v, vs', rfl, hv, hvs⟩ := hc
    simp only [toAs] at h
    split at h
    · rename_i a ha
      simp only [Option.map_eq_some_iff] at h
      obtain ⟨as', h, rfl⟩ := h
      simp only [lentAll, movedAll] at hl hmv hnm
      rw [List.nodup_append] at hnm
      obtain ⟨hn1, hn2, hn3⟩ := hnm
      have hnb2 : (boxesOf cs).Nodup := by
        cases c <;> simp_all [boxesOf]
      obtain ⟨F2, r2, d2, l2, p2⟩ := args_rel hS hb hsl hm hbx hG hlk cs hvs h (fun r hr => hl r (by simp [hr])) (fun r hr => hmv r (by simp [hr])) hn2 hnb2
      have hv' : CR γs w c v := hv.mono (γ' := γs) hm (fun _ _ _ => rfl) hb hsl c
      unfold toA at ha
      split at ha
      · rename_i b
        split at ha
        · rename_i bcs hbl
          simp only [Option.map_eq_some_iff] at ha
          obtain ⟨rs, hrs, rfl⟩ := ha
          have hmo : moved s (.ptr b 0) = rowsOf bcs := by simp [moved, hbl]
          rw [hmo] at hmv hn1 hn3
          obtain ⟨T, us, k1, k2, k3⟩ := hS.bx b bcs (by rw [hbx]; exact hbl)
          rw [← wr_look (S := S) _ (fun r hr => hlk r (hmv r (by simp [hr])))] at hrs
          obtain ⟨F1, x1, x2, x3⟩ := wr_rel hS _ k2 hrs
          simp only [CR] at hv'
          simp only [boxesOf, List.nodup_cons] at hnb
          refine ⟨(γs.β b :: F1) ++ F2, ?_, ?_, fun g hg => ?_, fun b' hb' => ?_⟩
          · simp only [ARs]
            refine ⟨v, vs', γs.β b :: F1, F2, rfl, rfl, ?_, r2⟩
            simp only [AR]
            exact ⟨_, T, us, F1, hv', k1, hS.hbox _ b k3, rfl, x1⟩
          · rw [List.nodup_append]
            refine ⟨List.nodup_cons.2 ⟨fun hm => ?_, x3 hn1⟩, d2, ?_⟩
            · obtain ⟨r, _, hr⟩ := x2 _ hm
              rw [k3] at hr; cases hr
            · intro x hx y hy e
              subst e
              rcases List.mem_cons.1 hx with rfl | hx
              · rcases l2 _ hy with ⟨q, hq, h2⟩ | ⟨b', hb', h2, _⟩
                · rw [k3] at h2; cases h2
                · rw [k3] at h2; cases h2; exact hnb.1 hb'
              · obtain ⟨r, hr, h1⟩ := x2 x hx
                rcases l2 x hy with ⟨q, hq, h2⟩ | ⟨b', hb', h2, _⟩
                · rw [h1] at h2; cases h2; exact hn3 _ hr _ hq rfl
                · rw [h1] at h2; cases h2
          · rcases List.mem_append.1 hg with hg | hg
            · rcases List.mem_cons.1 hg with rfl | hg
              · exact .inr ⟨b, by simp [boxesOf], k3, rfl⟩
              · obtain ⟨r, hr, h1⟩ := x2 g hg
                exact .inl ⟨r, by simp only [movedAll, List.mem_append, hmo]; exact .inl hr, h1⟩
            · rcases l2 g hg with ⟨r, hr, h1⟩ | ⟨b', hb', h1⟩
              · exact .inl ⟨r, by simp only [movedAll, List.mem_append]; exact .inr hr, h1⟩
              · exact .inr ⟨b', by simp [boxesOf, hb'], h1⟩
          · simp only [boxesOf, List.mem_cons] at hb'
            simp only [outVals, List.mem_cons]
            rcases hb' with rfl | hb'
            · exact .inl hv'.symm
            · exact .inr (p2 b' hb')
        · cases ha
      · rename_i hnp
        simp only [Option.map_eq_some_iff] at ha
        obtain ⟨rs, hrs, rfl⟩ := ha
        obtain ⟨k1, k2, k3⟩ := hv.cells (rd_cell hrs)
        have x1 := rd_rel hm hG _ k1 hrs (fun r hr => hl r (by simp [hr]))
        have hbo : boxesOf (c :: cs) = boxesOf cs := by
          have hcell := rd_cell hrs
          cases c <;> simp_all [boxesOf, C.cells, C.cell]
        refine ⟨F2, ?_, d2, fun g hg => ?_, fun b hb' => ?_⟩
        · simp only [ARs]
          refine ⟨v, vs', [], F2, rfl, rfl, ?_, r2⟩
          simp only [AR]
          refine ⟨_, x1, fun hag => ?_, fun hag => by rw [k2 hag]⟩
          obtain ⟨us, rfl⟩ := k3 hag
          simp [Value.cells]
        · rw [hbo]
          rcases l2 g hg with ⟨r, hr, h1⟩ | h1
          · exact .inl ⟨r, by simp only [movedAll, List.mem_append]; exact .inr hr, h1⟩
          · exact .inr h1
        · rw [hbo] at hb'
          simp only [outVals]
          exact p2 b hb'
    · cases h
end
end Go.Proofs.Ytmaigpiappmpcaa
