/-
  The machine's operations that make or write memory do what the program's do. No program is named here.
-/
import Derived.Test.YtmaigpiappmpcaaKPure
namespace Go.Proofs.Ytmaigpiappmpcaa
set_option linter.unusedVariables false
set_option linter.unusedSimpArgs false
open Go.RowKit

inductive FOk : Option Nat → Fm → Fm → Prop where
  | skip {f : Fm} : FOk none f f
  | put {d : Nat} {f : Fm} {v : Value} : FOk (some d) f (upd f d v)
/-- a step that touches the ids X alone -/
structure Tr (d : Option Nat) (X : List Nat) (γ : Gh) (w : World) (γ' : Gh) (w' : World) (f f' : Fm) : Prop where
  adv : Adv γ (fun o => ∃ i ∈ X, o = .box i ∨ o = .row i) w w'
  β : ∀ b, d ≠ some b → γ'.β b = γ.β b
  h : ∀ g, γ.h g ≤ γ'.h g
  fr : FOk d f f'

theorem Adv.refl (γ : Gh) (M : Own → Prop) (w : World) : Adv γ M w w := ⟨rfl, rfl, rfl, Nat.le_refl _, fun _ _ _ => rfl, fun _ _ _ => rfl, fun g hg j => frozen_out hg j, fun _ h => h⟩

section
variable {γ : Gh} {h0 : Nat → Nat} {io : List Nat} {w0 : World} {s : St} {f : Fm} {w : World}

theorem adv_bel (hi : Inv γ h0 io w0 s f w) {w1 : World} (hk : Bel w.heap.size w w1) (M : Own → Prop) : Adv γ M w w1 where
  os := hk.os
  tape := hk.tape
  output := hk.output
  size := hk.size
  block g hg _ := hk.block g hg
  cell g j hj := by
    rcases Nat.lt_or_ge g w.heap.size with hl | hl
    · exact World.cell?_of_block (w := w) (hk.block g hl)
    · have := hi.hnew g hl; omega
  thaw g hg := hk.thaw g hg
  kthaw g hg := by
    rcases Nat.lt_or_ge g w.heap.size with hl | hl
    · intro j; rw [World.frozen?_of_block (w := w) (hk.block g hl)]; exact hg j
    · exact hk.thaw g hl
theorem Inv.bel (hi : Inv γ h0 io w0 s f w) {w1 : World} (hk : Bel w.heap.size w w1) : Inv γ h0 io w0 s f w1 :=
  hi.adv (adv_bel hi hk (fun _ => False)) (fun h => h) (fun _ h => h.elim) (fun _ h => h.elim)
theorem Inv.ω_new (hi : Inv γ h0 io w0 s f w) {g : Nat} (hg : w.heap.size ≤ g) : γ.ω g = .free := by
  rcases Decidable.em (γ.ω g = .free) with h | h
  · exact h
  · have := (hi.own g h).1; omega

/-- a new box -/
theorem Inv.addBox (hi : Inv γ h0 io w0 s f w) {b g : Nat} {T : TypeId} {vs : List Value} {cs : List C} (hB : Blk w g T vs) (hfree : γ.ω g = .free ∨ γ.ω g = .lim) (hg : w0.heap.size ≤ g ∨ g ∈ io) (hh : γ.h g = 0) (hc : CRs γ w cs vs) :
    ∃ γ', Inv γ' h0 io w0 (s.newBox b (C.kills b cs)) f w ∧ γ'.β b = g ∧ (∀ x, x ≠ b → γ'.β x = γ.β x) ∧ γ'.h = γ.h ∧ γ'.sl = γ.sl ∧ ∀ y, y ≠ g → γ'.ω y = γ.ω y := by
  refine ⟨{ γ with β := fun x => if x = b then g else γ.β x, ω := fun x => if x = g then .box b else γ.ω x }, ?_, by simp, fun x hx => by simp [hx], rfl, rfl, fun y hy => by simp [hy]⟩
  have mv : ∀ (c : C) {v : Value}, CR γ w c v → CR { γ with β := fun x => if x = b then g else γ.β x, ω := fun x => if x = g then .box b else γ.ω x } w (C.kill b c) v := fun c v h =>
    by refine CR.move (γ := γ) b ?_ ?_ ?_ ?_ c h <;> intros <;> first | exact Nat.le_refl _ | rfl | simp_all
  have mvs : ∀ (c : List C) {v : List Value}, CRs γ w c v → CRs { γ with β := fun x => if x = b then g else γ.β x, ω := fun x => if x = g then .box b else γ.ω x } w (C.kills b c) v := fun c v h =>
    by refine CRs.move (γ := γ) b ?_ ?_ ?_ ?_ c h <;> intros <;> first | exact Nat.le_refl _ | rfl | simp_all
  exact {
    sl := fun d c hl => by
      simp only [St.newBox, St.setBox, St.kill, look_killS, Option.map_eq_some_iff] at hl
      obtain ⟨c0, h1, rfl⟩ := hl
      exact mv c0 (hi.sl d c0 h1)
    bx := fun d c hl => by
      simp only [St.newBox, St.setBox, St.kill, look, look_drp, look_killB] at hl
      by_cases hd : b = d
      · subst hd
        simp only [if_true, Option.some.injEq] at hl
        subst hl
        exact ⟨T, vs, by simpa using hB, mvs cs hc, by simp⟩
      · simp only [if_neg hd, Option.map_eq_some_iff] at hl
        obtain ⟨c0, h1, rfl⟩ := hl
        obtain ⟨T', vs', h2, h3, h4⟩ := hi.bx d c0 h1
        have hne : γ.β d ≠ g := fun e => by rcases hfree with h | h <;> rw [e, h] at h4 <;> cases h4
        exact ⟨T', vs', by simpa [Ne.symm hd] using h2, mvs c0 h3, by simp [Ne.symm hd, hne, h4]⟩
    rw := fun r x hl => by
      obtain ⟨F, h1, h2, h3⟩ := hi.rw r x hl
      refine ⟨F, h1, h2, fun y hy => ?_⟩
      have hne : y ≠ g := fun e => by have := h3 y hy; rcases hfree with h | h <;> rw [e, h] at this <;> cases this
      simp [hne, h3 y hy]
    own := fun y hy => by
      by_cases he : y = g
      · subst he; exact ⟨hB.lt, hg⟩
      · simp only [if_neg he] at hy; exact hi.own y hy
    hbox := fun y x hy => by
      by_cases he : y = g
      · subst he; exact hh
      · simp only [if_neg he] at hy; exact hi.hbox y x hy
    hnew := hi.hnew, os := hi.os, tape := hi.tape, output := hi.output, size := hi.size, frame := hi.frame, cell := hi.cell, mono := hi.mono, hold := hi.hold, thaw := hi.thaw, kthaw := hi.kthaw }

/-- a row at place r, with blocks that nobody else owns -/
theorem Inv.addRow (hi : Inv γ h0 io w0 s f w) {r : Nat} {x : Row} {v : Value} {F : List Nat} (hR : RowR γ.h w x v F) (hnd : F.Nodup) (hF : ∀ g ∈ F, (γ.ω g = .free ∨ γ.ω g = .lim ∨ γ.ω g = .row r) ∧ g < w.heap.size ∧ (w0.heap.size ≤ g ∨ g ∈ io)) :
    ∃ γ', Inv γ' h0 io w0 (s.newRow r x) f w ∧ γ'.sl r = v ∧ γ'.β = γ.β ∧ γ'.h = γ.h ∧ (∀ g, g ∉ F → γ'.ω g = γ.ω g) ∧ ∀ q, q ≠ r → γ'.sl q = γ.sl q := by
  refine ⟨{ γ with sl := fun q => if q = r then v else γ.sl q, ω := fun y => if y ∈ F then .row r else γ.ω y }, ?_, by simp, rfl, rfl, fun g hg => by simp [hg], fun q hq => by simp [hq]⟩
  have mv : ∀ (c : C) {v' : Value}, CR γ w c v' → CR { γ with sl := fun q => if q = r then v else γ.sl q, ω := fun y => if y ∈ F then .row r else γ.ω y } w (C.kill r c) v' := fun c v' h =>
    by refine CR.move (γ := γ) r ?_ ?_ ?_ ?_ c h <;> intros <;> first | exact Nat.le_refl _ | rfl | simp_all
  have mvs : ∀ (c : List C) {v' : List Value}, CRs γ w c v' → CRs { γ with sl := fun q => if q = r then v else γ.sl q, ω := fun y => if y ∈ F then .row r else γ.ω y } w (C.kills r c) v' := fun c v' h =>
    by refine CRs.move (γ := γ) r ?_ ?_ ?_ ?_ c h <;> intros <;> first | exact Nat.le_refl _ | rfl | simp_all
  exact {
    sl := fun d c hl => by
      simp only [St.newRow, St.setRow, St.kill, look_killS, Option.map_eq_some_iff] at hl
      obtain ⟨c0, h1, rfl⟩ := hl
      exact mv c0 (hi.sl d c0 h1)
    bx := fun d c hl => by
      simp only [St.newRow, St.setRow, St.kill, look_killB, Option.map_eq_some_iff] at hl
      obtain ⟨c0, h1, rfl⟩ := hl
      obtain ⟨T', vs', h2, h3, h4⟩ := hi.bx d c0 h1
      refine ⟨T', vs', h2, mvs c0 h3, ?_⟩
      have hne : γ.β d ∉ F := fun e => by
        rcases (hF _ e).1 with h | h | h <;> rw [h4] at h <;> cases h
      simp [hne, h4]
    rw := fun q y hl => by
      simp only [St.newRow, St.setRow, St.kill, look, look_drp] at hl
      by_cases hd : r = q
      · subst hd
        simp only [if_true, Option.some.injEq] at hl
        subst hl
        exact ⟨F, by simpa using hR, hnd, fun g hg => by simp [hg]⟩
      · simp only [if_neg hd] at hl
        obtain ⟨F', h1, h2, h3⟩ := hi.rw q y hl
        refine ⟨F', by simpa [Ne.symm hd] using h1, h2, fun g hg => ?_⟩
        have hne : g ∉ F := fun e => by
          rcases (hF _ e).1 with h | h | h
          · rw [h3 g hg] at h; cases h
          · rw [h3 g hg] at h; cases h
          · rw [h3 g hg] at h; cases h; exact hd rfl
        simp [hne, h3 g hg]
    own := fun y hy => by
      by_cases he : y ∈ F
      · exact (hF y he).2
      · simp only [if_neg he] at hy; exact hi.own y hy
    hbox := fun y x hy => by
      by_cases he : y ∈ F
      · simp only [if_pos he] at hy; cases hy
      · simp only [if_neg he] at hy; exact hi.hbox y x hy
    hnew := hi.hnew, os := hi.os, tape := hi.tape, output := hi.output, size := hi.size, frame := hi.frame, cell := hi.cell, mono := hi.mono, hold := hi.hold, thaw := hi.thaw, kthaw := hi.kthaw }
/-- the row at place r, its slice as it was -/
theorem Inv.setRow (hi : Inv γ h0 io w0 s f w) {r : Nat} {x : Row} {F : List Nat} (hR : RowR γ.h w x (γ.sl r) F) (hnd : F.Nodup) (hF : ∀ g ∈ F, (γ.ω g = .free ∨ γ.ω g = .lim ∨ γ.ω g = .row r) ∧ g < w.heap.size ∧ (w0.heap.size ≤ g ∨ g ∈ io)) :
    ∃ γ', Inv γ' h0 io w0 (s.setRow r x) f w ∧ γ'.sl = γ.sl ∧ γ'.β = γ.β ∧ γ'.h = γ.h ∧ ∀ g, γ'.ω g = γ.ω g ∨ γ'.ω g = .row r := by
  refine ⟨{ γ with ω := fun y => if y ∈ F then .row r else γ.ω y }, ?_, rfl, rfl, rfl, fun g => by dsimp only; split <;> simp⟩
  have mv : ∀ (c : C) {v' : Value}, CR γ w c v' → CR { γ with ω := fun y => if y ∈ F then .row r else γ.ω y } w c v' := fun c v' h =>
    by refine CR.mono (γ := γ) ?_ ?_ ?_ ?_ c h <;> intros <;> first | exact Nat.le_refl _ | rfl
  have mvs : ∀ (c : List C) {v' : List Value}, CRs γ w c v' → CRs { γ with ω := fun y => if y ∈ F then .row r else γ.ω y } w c v' := fun c v' h =>
    by refine CRs.mono (γ := γ) ?_ ?_ ?_ ?_ c h <;> intros <;> first | exact Nat.le_refl _ | rfl
  exact {
    sl := fun d c hl => mv c (hi.sl d c hl)
    bx := fun d c hl => by
      obtain ⟨T', vs', h2, h3, h4⟩ := hi.bx d c hl
      refine ⟨T', vs', h2, mvs c h3, ?_⟩
      have hne : γ.β d ∉ F := fun e => by
        rcases (hF _ e).1 with h | h | h <;> rw [h4] at h <;> cases h
      simp [hne, h4]
    rw := fun q y hl => by
      simp only [St.setRow, look, look_drp] at hl
      by_cases hd : r = q
      · subst hd
        simp only [if_true, Option.some.injEq] at hl
        subst hl
        exact ⟨F, hR, hnd, fun g hg => by simp [hg]⟩
      · simp only [if_neg hd] at hl
        obtain ⟨F', h1, h2, h3⟩ := hi.rw q y hl
        refine ⟨F', h1, h2, fun g hg => ?_⟩
        have hne : g ∉ F := fun e => by
          rcases (hF _ e).1 with h | h | h
          · rw [h3 g hg] at h; cases h
          · rw [h3 g hg] at h; cases h
          · rw [h3 g hg] at h; cases h; exact hd rfl
        simp [hne, h3 g hg]
    own := fun y hy => by
      by_cases he : y ∈ F
      · exact (hF y he).2
      · simp only [if_neg he] at hy; exact hi.own y hy
    hbox := fun y x hy => by
      by_cases he : y ∈ F
      · simp only [if_pos he] at hy; cases hy
      · simp only [if_neg he] at hy; exact hi.hbox y x hy
    hnew := hi.hnew, os := hi.os, tape := hi.tape, output := hi.output, size := hi.size, frame := hi.frame, cell := hi.cell, mono := hi.mono, hold := hi.hold, thaw := hi.thaw, kthaw := hi.kthaw }
/-- the box at place b, where it was -/
theorem Inv.setBox (hi : Inv γ h0 io w0 s f w) {b : Nat} {T : TypeId} {vs : List Value} {cs : List C} (hB : Blk w (γ.β b) T vs) (hω : γ.ω (γ.β b) = .box b) (hc : CRs γ w cs vs) : Inv γ h0 io w0 (s.setBox b cs) f w :=
  { hi with
    bx := fun d c hl => by
      simp only [St.setBox, look, look_drp] at hl
      by_cases hd : b = d
      · subst hd
        simp only [if_true, Option.some.injEq] at hl
        subst hl
        exact ⟨T, vs, hB, hc, hω⟩
      · simp only [if_neg hd] at hl
        exact hi.bx d c hl }

/-! ### rows that are taken in -/
theorem Inv.dropRow (hi : Inv γ h0 io w0 s f w) (r : Nat) : Inv γ h0 io w0 (s.dropRow r) f w :=
  hi.sub (fun _ _ h => h) (fun _ _ h => h) (fun d c h => by
    simp only [St.dropRow, look_drp] at h
    split at h
    · cases h
    · exact h)
/-- a row whose elements become the data of a list: settled for good, or in nobody's hands -/
theorem Inv.take (hi : Inv γ h0 io w0 s f w) {r : Nat} {x : Row} (hl : look s.rw r = some x) :
    ∃ γ' G, Inv γ' h0 io w0 (s.dropRow r) f w ∧ γ'.β = γ.β ∧ γ'.sl = γ.sl ∧ (∀ g, γ.h g ≤ γ'.h g) ∧ Rp w (.list x.k x.fl x.es) (γ.sl r) G ∧
      ((x.deep && !x.fz) = false → Settled γ'.h G) ∧ ((x.deep && !x.fz) = true → (G.map Prod.fst).Nodup ∧ ∀ be ∈ G, γ'.ω be.1 = .lim ∧ γ'.h be.1 = 0 ∧ Thaw w be.1) ∧
      (∀ be ∈ G, γ.ω be.1 = .row r ∨ x.deep = false) ∧ (∀ g, γ.ω g ≠ .row r → γ'.ω g = γ.ω g ∧ γ'.h g = γ.h g) ∧ ∀ g, γ'.ω g = γ.ω g ∨ γ'.ω g = .lim ∨ γ'.ω g = .free := by
  obtain ⟨F, hR, hnd, hω⟩ := hi.rw r x hl
  obtain ⟨A, n, c, q1, q2, q3, q4, q5, q6, q7, q8⟩ := hR
  have hdr := hi.dropRow r
  have nolive : ∀ g, γ.ω g = .row r → (∀ b cs, look (s.dropRow r).bx b = some cs → γ.ω g ≠ .box b) ∧ ∀ q y, look (s.dropRow r).rw q = some y → γ.ω g ≠ .row q := by
    intro g hg
    refine ⟨fun b cs _ => by rw [hg]; simp, fun q y hq => ?_⟩
    rw [hg]
    simp only [St.dropRow, look_drp] at hq
    split at hq
    · cases hq
    · rename_i hne; intro e; cases e; exact hne rfl
  rcases q8 with ⟨rfl, rfl, rfl⟩ | ⟨g, o, xs, G, rfl, a2, a3, a4, a5, a6, a7, a8, a9, a10⟩
  · refine ⟨γ, [], hdr, rfl, rfl, fun _ => Nat.le_refl _, ?_, fun _ _ h => by simp at h, fun _ => by simp, fun _ h => by simp at h, fun _ _ => ⟨rfl, rfl⟩, fun _ => .inl rfl⟩
    simp only [Rp]
    exact ⟨none, n, 0, q1, q2, q3, q4, q7, q5, q6, .inl ⟨by omega, trivial⟩⟩
  · by_cases hn : n = 0
    · refine ⟨γ, [], hdr, rfl, rfl, fun _ => Nat.le_refl _, ?_, fun _ _ h => by simp at h, fun _ => by simp, fun _ h => by simp at h, fun _ _ => ⟨rfl, rfl⟩, fun _ => .inl rfl⟩
      simp only [Rp]
      exact ⟨_, n, c, q1, q2, q3, q4, q7, q5, q6, .inl ⟨hn, trivial⟩⟩
    · have hrp : Rp w (.list x.k x.fl x.es) (γ.sl r) ((g, o + n * x.k) :: G) := by
        simp only [Rp]
        exact ⟨_, n, c, q1, q2, q3, q4, q7, q5, q6, .inr ⟨by omega, g, o, xs, G, rfl, rfl, a4, a5⟩⟩
      have hgω : γ.ω g = .row r := by
        cases hd : x.deep with
        | true => exact hω g (by rw [(a9 hd).1]; simp)
        | false => exact hω g (by rw [(a10 hd).1]; simp)
      by_cases hdz : (x.deep && !x.fz) = true
      · simp only [Bool.and_eq_true, Bool.not_eq_true'] at hdz
        obtain ⟨hF, hz⟩ := a9 hdz.1
        have hs := hdr.settle (h' := γ.h) (ω' := fun y => if γ.ω y = .row r then .lim else γ.ω y) (fun _ => Nat.le_refl _) (fun g hg => absurd rfl hg)
          (fun y => by
            by_cases hy : γ.ω y = .row r
            · exact .inr ⟨.inr (by simp [hy]), by rw [hy]; simp, nolive y hy⟩
            · exact .inl (by simp [hy]))
          (fun y b hy => by
            by_cases hy' : γ.ω y = .row r
            · simp [hy'] at hy
            · simp only [if_neg hy'] at hy; exact hi.hbox y b hy)
        refine ⟨_, (g, o + n * x.k) :: G, hs, rfl, rfl, fun _ => Nat.le_refl _, hrp, fun h => by simp [hdz.1, hdz.2] at h, fun _ => ⟨by rw [List.map_cons, ← hF]; exact hnd, fun be hb => ?_⟩, fun be hb => .inl ?_, fun y hy => by simp [hy], fun y => by dsimp only; split <;> simp⟩
        · rcases List.mem_cons.1 hb with rfl | hb
          · exact ⟨by simp [hgω], a7 hdz.2, a3⟩
          · have hm : γ.ω be.1 = .row r := hω _ (by rw [hF]; simp; exact .inr ⟨be.2, hb⟩)
            exact ⟨by simp [hm], hz be hb⟩
        · rcases List.mem_cons.1 hb with rfl | hb
          · exact hgω
          · exact hω _ (by rw [hF]; simp; exact .inr ⟨be.2, hb⟩)
      · -- settle all that it holds
        have hfst : ∀ be ∈ G, x.deep = true → γ.ω be.1 = .row r := fun be hb hd => hω _ (by rw [(a9 hd).1]; simp; exact .inr ⟨be.2, hb⟩)
        have hnew : ∃ h' : Nat → Nat, (∀ y, γ.h y ≤ h' y) ∧ Settled h' ((g, o + n * x.k) :: G) ∧ ∀ y, γ.ω y ≠ .row r → h' y = γ.h y := by
          refine ⟨fun y => if γ.ω y = .row r then γ.h y + ((((g, o + n * x.k) :: G).map Prod.snd).foldl max 0) else γ.h y, fun y => by dsimp only; split <;> omega, ?_, fun y hy => by simp [hy]⟩
          have mx : ∀ (l : List Nat) (a b : Nat), (b = a ∨ b ∈ l) → b ≤ l.foldl max a := by
            intro l
            induction l with
            | nil => intro a b hb; simp at hb; simp [hb]
            | cons z l ih =>
              intro a b hb
              simp only [List.foldl_cons]
              have h1 := ih (max a z) (max a z) (.inl rfl)
              rcases hb with rfl | hb
              · omega
              · rcases List.mem_cons.1 hb with rfl | hb
                · omega
                · exact ih _ _ (.inr hb)
          intro be hb
          have hle := mx (((g, o + n * x.k) :: G).map Prod.snd) 0 be.2 (.inr (List.mem_map_of_mem hb))
          by_cases hy : γ.ω be.1 = .row r
          · simp only [hy, if_true]; omega
          · simp only [if_neg hy]
            rcases List.mem_cons.1 hb with rfl | hb
            · exact absurd hgω hy
            · cases hd : x.deep with
              | true => exact absurd (hfst be hb hd) hy
              | false => exact (a10 hd).2 be hb
        obtain ⟨h', m1, m2, m3⟩ := hnew
        have hs := hdr.settle (h' := h') (ω' := fun y => if γ.ω y = .row r then .free else γ.ω y) m1
          (fun y hy => by
            have hr : γ.ω y = .row r := by
              rcases Decidable.em (γ.ω y = .row r) with h | h
              · exact h
              · exact absurd (m3 y h) hy
            have ho := hi.own y (by rw [hr]; simp)
            exact ⟨ho.1, ho.2, nolive y hr⟩)
          (fun y => by
            by_cases hy : γ.ω y = .row r
            · exact .inr ⟨.inl (by simp [hy]), by rw [hy]; simp, nolive y hy⟩
            · exact .inl (by simp [hy]))
          (fun y b hy => by
            by_cases hy' : γ.ω y = .row r
            · simp [hy'] at hy
            · simp only [if_neg hy'] at hy; rw [m3 y hy']; exact hi.hbox y b hy)
        refine ⟨_, _, hs, rfl, rfl, m1, hrp, fun _ => m2, fun h => absurd h hdz, fun be hb => ?_, fun y hy => by simp [hy, m3 y hy], fun y => by dsimp only; split <;> simp⟩
        cases hd : x.deep with
        | false => exact .inr rfl
        | true =>
          rcases List.mem_cons.1 hb with rfl | hb
          · exact .inl hgω
          · exact .inl (hfst be hb hd)
end

/-! ### append -/
theorem one_cell {v : Value} (h : one v = true) : v.oneCell' = true := by
  cases v <;> simp_all [one, Value.oneCell']
theorem Bel.next' {a w w' : World} (h : Bel a.heap.size a w) (hk : Bel w.heap.size w w') : Bel a.heap.size a w' := bel_next h hk h.size

section
variable {P : Program} {w : World}
theorem run_app {t ty e : TypeId} {i : TypeInfo} {z : Value} {k by_ : Nat} (ht : P.underlying t = some (.slice e)) (hi : P.info? e = some i) (hz : i.zero = some z) (hsize : i.size = k) (hby : i.bytes = by_) (hzs : z.cells.size = k) (hk : 0 < k)
    {v : Value} {n : Nat} {xs : List Value} (hx : xs.length = n * k) (hv : (v = .slice none 0 0 ∧ n = 0) ∨ ∃ g cap T cur, v = .slice (some ⟨g, 0, none⟩) n cap ∧ Blk w g T cur ∧ n ≤ cap ∧ cap ≤ maxLen ∧ cur.length = cap * k ∧ cur.take (n * k) = xs)
    {u : Value} {m : Nat} {news : List Value} (hl : news.length = m * k) (hu : (m = 0 ∧ ∃ A c, u = .slice A 0 c) ∨ ∃ b o c, u = .slice (some ⟨b, o, none⟩) m c ∧ Lies w b o news) (h1 : ∀ y ∈ news, one y = true) (h63 : n + m ≤ maxLen) (hbytes : (n + m) * by_ ≤ room) :
    ∃ v' w', (Builtin.append_ #[t, t] ty #[v, u]).run P w = .ok v' w' ∧
      ((m = 0 ∧ v' = v ∧ w' = w) ∨
       (∃ g cap T cur, v = .slice (some ⟨g, 0, none⟩) n cap ∧ Blk w g T cur ∧ v' = .slice (some ⟨g, 0, none⟩) (n + m) cap ∧ n + m ≤ cap ∧ cap ≤ maxLen ∧ cur.length = cap * k ∧ cur.take (n * k) = xs ∧ w' = setB w g (.cells (splice cur (n * k) news).toArray T (0, 0))) ∨
       (∃ cap cs, v' = .slice (some ⟨w.heap.size, 0, none⟩) (n + m) cap ∧ n + m ≤ cap ∧ cap ≤ maxLen ∧ w'.heap.size = w.heap.size + 1 ∧ Bel w.heap.size w w' ∧ Blk w' w.heap.size e cs ∧ cs.length = cap * k ∧ cs.take ((n + m) * k) = xs ++ news)) := by
  subst hsize
  subst hby
  have hsmall : n + m ≤ 9223372036854775807 := by simp only [maxLen] at h63; omega
  have hroom : (n + m) * i.bytes ≤ 140737488355328 := hbytes
  have hlen : (xs ++ news).length = (n + m) * i.size := by rw [List.length_append, hx, hl, Nat.add_mul]
  by_cases hm : m = 0
  · subst hm
    have hn : news = [] := List.eq_nil_of_length_eq_zero (by simpa using hl)
    subst hn
    refine ⟨v, w, ?_, .inl ⟨rfl, rfl, rfl⟩⟩
    rcases hv with ⟨rfl, rfl⟩ | ⟨g, cap, T, cur, rfl, hB, hnc, hcm, hcs, htk⟩
    · rcases hu with ⟨_, A, c, rfl⟩ | ⟨b, o, c, rfl, _⟩
      · cases A <;> simp [Builtin.append_, run_underlying ht, sizeOf, typeInfo, hi, Builtin.lenOf, Builtin.firstCells, loadCells, loadCellsFrom]
      · simp [Builtin.append_, run_underlying ht, sizeOf, typeInfo, hi, Builtin.lenOf, Builtin.firstCells, loadCells, loadCellsFrom]
    · rcases hu with ⟨_, A, c, rfl⟩ | ⟨b, o, c, rfl, _⟩
      · cases A <;> simp [Builtin.append_, run_underlying ht, sizeOf, typeInfo, hi, Builtin.lenOf, Builtin.firstCells, loadCells, loadCellsFrom, hnc, storeCells]
      · simp [Builtin.append_, run_underlying ht, sizeOf, typeInfo, hi, Builtin.lenOf, Builtin.firstCells, loadCells, loadCellsFrom, hnc, storeCells]
  · rcases hu with ⟨h, _⟩ | ⟨b, o, c, rfl, hlies⟩
    · omega
    · have hnews : ∀ j y, news[j]? = some y → w.cell? ((⟨b, o, none⟩ : Addr).add j) = some y := by
        intro j y hy
        rw [add_mk]
        exact hlies j y hy
      have grown : ∀ (old : Nat), old < n + m →
          (∃ cap cs, (Value.slice (some ⟨w.heap.size, 0, none⟩) (n + m) (grownCap w (n + m) old e)) = .slice (some ⟨w.heap.size, 0, none⟩) (n + m) cap ∧ n + m ≤ cap ∧ cap ≤ maxLen ∧ (w.drew.alloc (.cells (xs.toArray ++ news.toArray ++ Builtin.zeroCells z.cells (grownCap w (n + m) old e - (n + m))) e)).heap.size = w.heap.size + 1 ∧
            Bel w.heap.size w (w.drew.alloc (.cells (xs.toArray ++ news.toArray ++ Builtin.zeroCells z.cells (grownCap w (n + m) old e - (n + m))) e)) ∧ Blk (w.drew.alloc (.cells (xs.toArray ++ news.toArray ++ Builtin.zeroCells z.cells (grownCap w (n + m) old e - (n + m))) e)) w.heap.size e cs ∧ cs.length = cap * i.size ∧ cs.take ((n + m) * i.size) = xs ++ news) := by
        intro old ho
        have hge := grownCap_ge w (n + m) old e
        have hcm : grownCap w (n + m) old e ≤ maxLen := grownCap_le_maxLen w (n + m) old e h63
        refine ⟨_, (xs ++ news) ++ (Builtin.zeroCells z.cells (grownCap w (n + m) old e - (n + m))).toList, rfl, hge, hcm, by rw [size_alloc]; rfl, ?_, ?_, ?_, ?_⟩
        · exact (bel_refl w).drew.next' (bel_alloc w.drew _ _)
        · have e1 : xs.toArray ++ news.toArray ++ Builtin.zeroCells z.cells (grownCap w (n + m) old e - (n + m)) = ((xs ++ news) ++ (Builtin.zeroCells z.cells (grownCap w (n + m) old e - (n + m))).toList).toArray := by
            apply Array.ext'
            simp
          rw [e1]
          exact Blk.new w.drew e _
        · rw [List.length_append, hlen, Array.length_toList, size_zeroCells, hzs, ← Nat.add_mul]
          congr 1
          omega
        · rw [← hlen]; exact List.take_left
      rcases hv with ⟨rfl, rfl⟩ | ⟨g, cap, T, cur, rfl, hB, hnc, hcm, hcs, htk⟩
      · have hx0 : xs = [] := List.eq_nil_of_length_eq_zero (by simpa using hx)
        subst hx0
        have hr := run_append_nil (P := P) w t ty e i z ht hi hz ⟨b, o, none⟩ m c news hl hnews (by omega) (by omega) (by have hb := hroom; simp only [Nat.zero_add] at hb; omega)
        have hg := grown 0 (by omega)
        simp only [Nat.zero_add, List.nil_append, Array.empty_append] at hg ⊢
        exact ⟨_, _, hr, .inr (.inr hg)⟩
      · by_cases hrm : n + m ≤ cap
        · have hfit : n * i.size + news.length ≤ cur.length := by rw [hl, hcs, ← Nat.add_mul]; exact Nat.mul_le_mul_right _ hrm
          have hf := run_firstCells_some (P := P) w i.size m ⟨b, o, none⟩ m c news hl hnews
          have hst := run_storeCells (P := P) (o := n * i.size) news 0 w cur hB (by simpa using hfit) h1
          simp only [Nat.add_zero] at hst
          refine ⟨_, _, ?_, .inr (.inl ⟨g, cap, T, cur, rfl, hB, rfl, hrm, hcm, hcs, htk, rfl⟩)⟩
          simp [Builtin.append_, run_underlying ht, sizeOf, typeInfo, hi, Builtin.lenOf, hrm, hf, Addr.add_lit, hst]
        · have holds : ∀ j y, xs[j]? = some y → w.cell? ((⟨g, 0, none⟩ : Addr).add j) = some y := by
            intro j y hy
            rw [add_mk, Nat.zero_add, hB.cell]
            rw [← htk, List.getElem?_take] at hy
            split at hy
            · exact hy
            · cases hy
          have hr := run_append_grow (P := P) w t ty e i z ht hi hz ⟨g, 0, none⟩ n cap xs hx holds ⟨b, o, none⟩ m c news hl hnews (by omega) (by omega) (growslice_fits (by omega) hroom)
          exact ⟨_, _, hr, .inr (.inr (grown cap (by omega)))⟩
end
end Go.Proofs.Ytmaigpiappmpcaa
