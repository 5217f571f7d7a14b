/-
  The machine's operations that make or write memory do what the program's do. No program is named here.
-/
import Derived.Test.YtmaigpiappmpcaaKAct
namespace Go.Proofs.Ytmaigpiappmpcaa
set_option linter.unusedVariables false
set_option linter.unusedSimpArgs false
open Go.RowKit

/-- in nobody's hands -/
def Lim (γ : Gh) (w : World) (g : Nat) : Prop := γ.ω g = .lim ∧ γ.h g = 0 ∧ Thaw w g

section
variable {h0 : Nat → Nat} {io : List Nat} {w0 : World} {f : Fm} {w : World}

theorem emb_cell : ∀ {cs : List C} {s s' : St} {ds : List D} {dp : Bool}, emb s cs = some (ds, dp, s') → cs.all C.cell = true ∧ ds.length = cs.length
  | [], s, s', ds, dp, h => by simp [emb] at h; simp [← h.1]
  | c :: cs, s, s', ds, dp, h => by
    unfold emb at h
    cases c with
    | d x =>
      simp only [Option.map_eq_some_iff] at h
      obtain ⟨⟨ds', dp', s1⟩, h1, h2⟩ := h
      simp only [Prod.mk.injEq] at h2
      have := emb_cell h1
      simp [C.cell, this.1, ← h2.1, this.2]
    | nil k fl =>
      simp only [Option.map_eq_some_iff] at h
      obtain ⟨⟨ds', dp', s1⟩, h1, h2⟩ := h
      simp only [Prod.mk.injEq] at h2
      have := emb_cell h1
      simp [C.cell, this.1, ← h2.1, this.2]
    | ref r =>
      simp only at h
      split at h
      · simp only [Option.map_eq_some_iff] at h
        obtain ⟨⟨ds', dp', s1⟩, h1, h2⟩ := h
        simp only [Prod.mk.injEq] at h2
        have := emb_cell h1
        simp [C.cell, this.1, ← h2.1, this.2]
      · cases h
    | _ => simp at h

/-- what is taken in: data; each list of it settled or in nobody's hands -/
structure Emb (γ : Gh) (w : World) (dp : Bool) (G : Fp) (γ' : Gh) : Prop where
  β : γ'.β = γ.β
  sl : γ'.sl = γ.sl
  h : ∀ g, γ.h g ≤ γ'.h g
  some_ : ∀ be ∈ G, be.2 ≤ γ'.h be.1 ∨ Lim γ' w be.1
  deep : dp = true → (G.map Prod.fst).Nodup ∧ ∀ be ∈ G, Lim γ' w be.1 ∧ γ.ω be.1 ≠ .lim
  lim : ∀ g, γ.ω g = .lim → γ'.ω g = .lim ∧ γ'.h g = γ.h g
  own : ∀ g, γ'.ω g = γ.ω g ∨ γ'.ω g = .lim ∨ γ'.ω g = .free

theorem emb_rel : ∀ (cs : List C) {γ : Gh} {s s' : St} {vs : List Value} {ds : List D} {dp : Bool}, Inv γ h0 io w0 s f w → CRs γ w cs vs → emb s cs = some (ds, dp, s') →
    ∃ γ' G, Inv γ' h0 io w0 s' f w ∧ RpC w ds vs G ∧ Emb γ w dp G γ'
  | [], γ, s, s', vs, ds, dp, hi, hc, he => by
    simp [emb] at he
    obtain ⟨rfl, rfl, rfl⟩ := he
    simp only [CRs] at hc
    subst hc
    exact ⟨γ, [], hi, by simp [RpC], ⟨rfl, rfl, fun _ => Nat.le_refl _, fun _ h => by simp at h, fun _ => by simp, fun _ h => ⟨h, rfl⟩, fun _ => .inl rfl⟩⟩
  | c :: cs, γ, s, s', vs, ds, dp, hi, hc, he => by
    simp only [CRs] at hc
    obtain ⟨v, vs', rfl, hv, hvs⟩ := hc
    unfold emb at he
    cases c with
    | d x =>
      simp only [Option.map_eq_some_iff] at he
      obtain ⟨⟨ds', dp', s1⟩, h1, h2⟩ := he
      simp only [Prod.mk.injEq] at h2
      obtain ⟨rfl, rfl, rfl⟩ := h2
      obtain ⟨γ', G, i1, r1, e1⟩ := emb_rel cs hi hvs h1
      simp only [CR] at hv
      obtain ⟨F, hr, hs⟩ := hv
      refine ⟨γ', F ++ G, i1, by simp only [RpC]; exact ⟨v, vs', F, G, rfl, rfl, hr, r1⟩, ⟨e1.β, e1.sl, e1.h, fun be hb => ?_, fun hd => ?_, e1.lim, e1.own⟩⟩
      · rcases List.mem_append.1 hb with hb | hb
        · exact .inl (Nat.le_trans (hs be hb) (e1.h _))
        · exact e1.some_ be hb
      · simp only [Bool.and_eq_true] at hd
        have hF : F = [] := by
          have : RpC w [x] [v] F := by simp only [RpC]; exact ⟨v, [], F, [], rfl, by simp, hr, rfl, rfl⟩
          exact this.plain (by simp [hd.1])
        subst hF
        exact e1.deep hd.2
    | nil k fl =>
      simp only [Option.map_eq_some_iff] at he
      obtain ⟨⟨ds', dp', s1⟩, h1, h2⟩ := he
      simp only [Prod.mk.injEq] at h2
      obtain ⟨rfl, rfl, rfl⟩ := h2
      obtain ⟨γ', G, i1, r1, e1⟩ := emb_rel cs hi hvs h1
      simp only [CR] at hv
      obtain ⟨rfl, hk⟩ := hv
      refine ⟨γ', G, i1, ?_, e1⟩
      simp only [RpC]
      refine ⟨_, vs', [], G, rfl, rfl, ?_, r1⟩
      simp only [Rp]
      exact ⟨none, 0, 0, rfl, rfl, Nat.le_refl _, by simp [maxLen], fun _ => flat_nil, hk, fun _ h => by simp at h, .inl ⟨rfl, trivial⟩⟩
    | ref r =>
      simp only at he
      split at he
      · rename_i x hx
        simp only [Option.map_eq_some_iff] at he
        obtain ⟨⟨ds', dp', s1⟩, h1, h2⟩ := he
        simp only [Prod.mk.injEq] at h2
        obtain ⟨rfl, rfl, rfl⟩ := h2
        obtain ⟨γ1, G1, i1, b1, sl1, m1, r1, s1', d1, o1, k1, w1⟩ := hi.take hx
        obtain ⟨γ2, G2, i2, r2, e2⟩ := emb_rel cs i1 (hvs.mono (γ' := γ1) m1 (fun _ _ _ => rfl) b1 sl1 cs) h1
        simp only [CR] at hv
        have up : ∀ be ∈ G1, (x.deep && !x.fz) = true → Lim γ2 w be.1 := fun be hb hd => by
          obtain ⟨_, hl⟩ := d1 hd
          obtain ⟨l1, l2, l3⟩ := hl be hb
          obtain ⟨u1, u2⟩ := e2.lim _ l1
          exact ⟨u1, u2.trans l2, l3⟩
        refine ⟨γ2, G1 ++ G2, i2, by simp only [RpC]; exact ⟨v, vs', G1, G2, rfl, rfl, by rw [hv.1]; exact r1, r2⟩, ⟨e2.β.trans b1, e2.sl.trans sl1, fun g => Nat.le_trans (m1 g) (e2.h g), fun be hb => ?_, fun hd => ?_, fun g hg => ?_, fun g => ?_⟩⟩
        · rcases List.mem_append.1 hb with hb | hb
          · cases hd : (x.deep && !x.fz) with
            | true => exact .inr (up be hb hd)
            | false => exact .inl (Nat.le_trans (s1' hd be hb) (e2.h _))
          · exact e2.some_ be hb
        · rw [Bool.and_eq_true] at hd
          obtain ⟨hd1, hd2⟩ := hd
          obtain ⟨n1, l1⟩ := d1 hd1
          obtain ⟨n2, l2⟩ := e2.deep hd2
          have hdeep : x.deep = true := by simp at hd1; exact hd1.1
          refine ⟨?_, fun be hb => ?_⟩
          · rw [List.map_append, List.nodup_append]
            refine ⟨n1, n2, ?_⟩
            intro a ha b hb e
            subst e
            obtain ⟨be1, hb1, rfl⟩ := List.mem_map.1 ha
            obtain ⟨be2, hb2, e2'⟩ := List.mem_map.1 hb
            exact (l2 be2 hb2).2 (by rw [e2']; exact (l1 be1 hb1).1)
          · rcases List.mem_append.1 hb with hb | hb
            · refine ⟨up be hb hd1, ?_⟩
              rcases o1 be hb with h | h
              · rw [h]; simp
              · rw [hdeep] at h; cases h
            · refine ⟨(l2 be hb).1, fun h => (l2 be hb).2 ?_⟩
              rw [(k1 be.1 (by rw [h]; simp)).1]; exact h
        · have h3 := k1 g (by rw [hg]; simp)
          obtain ⟨u1, u2⟩ := e2.lim g (by rw [h3.1]; exact hg)
          exact ⟨u1, u2.trans h3.2⟩
        · rcases e2.own g with h | h
          · rw [h]; exact w1 g
          · exact .inr h
      · cases he
    | _ => simp at he

/-- what is in nobody's hands is settled for good -/
theorem Inv.settleG {γ : Gh} {s : St} (hi : Inv γ h0 io w0 s f w) (G : Fp) (hG : ∀ be ∈ G, be.2 ≤ γ.h be.1 ∨ Lim γ w be.1) :
    ∃ γ', Inv γ' h0 io w0 s f w ∧ γ'.β = γ.β ∧ γ'.sl = γ.sl ∧ (∀ g, γ.h g ≤ γ'.h g) ∧ Settled γ'.h G ∧ (∀ g, γ.ω g = .free → γ'.ω g = .free) ∧ ∀ g, γ.ω g ≠ .lim → γ'.h g = γ.h g := by
  have mx : ∀ (l : List Nat) (a b : Nat), (b = a ∨ b ∈ l) → b ≤ l.foldl max a := by
    intro l
    induction l with
    | nil => intro a b hb; simp at hb; simp [hb]
    | cons z l ih =>
      intro a b hb
      simp only [List.foldl_cons]
      have h1 := ih (max a z) (max a z) (.inl rfl)
      rcases hb with rfl | hb
      · omega
      · rcases List.mem_cons.1 hb with rfl | hb
        · omega
        · exact ih _ _ (.inr hb)
  have hs := hi.settle (h' := fun y => if γ.ω y = .lim then γ.h y + (G.map Prod.snd).foldl max 0 else γ.h y) (ω' := fun y => if γ.ω y = .lim then .free else γ.ω y) (fun y => by split <;> omega)
    (fun y hy => by
      have hl : γ.ω y = .lim := by
        rcases Decidable.em (γ.ω y = .lim) with h | h
        · exact h
        · exact absurd (by simp [h]) hy
      have ho := hi.own y (by rw [hl]; simp)
      exact ⟨ho.1, ho.2, fun _ _ _ => by rw [hl]; simp, fun _ _ _ => by rw [hl]; simp⟩)
    (fun y => by
      by_cases hl : γ.ω y = .lim
      · exact .inr ⟨.inl (by simp [hl]), by rw [hl]; simp, fun _ _ _ => by rw [hl]; simp, fun _ _ _ => by rw [hl]; simp⟩
      · exact .inl (by simp [hl]))
    (fun y b hy => by
      by_cases hl : γ.ω y = .lim
      · simp [hl] at hy
      · simp only [if_neg hl] at hy ⊢; exact hi.hbox y b hy)
  refine ⟨_, hs, rfl, rfl, fun y => by dsimp only; split <;> omega, fun be hb => ?_, fun g hg => by simp [hg], fun g hg => by simp [hg]⟩
  have hle := mx (G.map Prod.snd) 0 be.2 (.inr (List.mem_map_of_mem hb))
  dsimp only
  split
  · omega
  · rename_i hl
    rcases hG be hb with h | h
    · exact h
    · exact absurd h.1 hl

/-- the elements of a new row -/
theorem embs_rel {k : Nat} {fl : Bool} : ∀ (cs : List C) {γ : Gh} {s s' : St} {vs : List Value} {es : List (List D)} {dp : Bool}, Inv γ h0 io w0 s f w → CRs γ w cs vs → embs k fl s cs = some (es, dp, s') →
    ∃ γ' G, Inv γ' h0 io w0 s' f w ∧ RpE w es (vs.flatMap fun v => v.cells.toList) G ∧ Emb γ w dp G γ' ∧ es.length = cs.length ∧ (∀ e ∈ es, e.length = k) ∧ (fl = true → flat es) ∧ ∀ v ∈ vs, v.cells.size = k
  | [], γ, s, s', vs, es, dp, hi, hc, he => by
    simp [embs] at he
    obtain ⟨rfl, rfl, rfl⟩ := he
    simp only [CRs] at hc
    subst hc
    exact ⟨γ, [], hi, by simp [RpE], ⟨rfl, rfl, fun _ => Nat.le_refl _, fun _ h => by simp at h, fun _ => by simp, fun _ h => ⟨h, rfl⟩, fun _ => .inl rfl⟩, rfl, fun _ h => by simp at h, fun _ => flat_nil, fun _ h => by simp at h⟩
  | c :: cs, γ, s, s', vs, es, dp, hi, hc, he => by
    simp only [CRs] at hc
    obtain ⟨v, vs', rfl, hv, hvs⟩ := hc
    unfold embs at he
    split at he
    · rename_i ds dp1 s1 h1
      split at he
      · rename_i hk
        simp only [Option.map_eq_some_iff] at he
        obtain ⟨⟨es', dp2, s2⟩, h2, h3⟩ := he
        simp only [Prod.mk.injEq] at h3
        obtain ⟨rfl, rfl, rfl⟩ := h3
        obtain ⟨hcell, hlen⟩ := emb_cell h1
        obtain ⟨hcv, _, _⟩ := hv.cells hcell
        obtain ⟨γ1, G1, i1, r1, e1⟩ := emb_rel _ hi hcv h1
        obtain ⟨γ2, G2, i2, r2, e2, l2, k2, f2, z2⟩ := embs_rel cs i1 (hvs.mono (γ' := γ1) e1.h (fun _ _ _ => rfl) e1.β e1.sl cs) h2
        have hsz : v.cells.size = k := by rw [← Array.length_toList, hcv.length, ← hlen]; exact hk.1
        have up : ∀ g, Lim γ1 w g → Lim γ2 w g := fun g hg => by
          obtain ⟨u1, u2⟩ := e2.lim g hg.1
          exact ⟨u1, u2.trans hg.2.1, hg.2.2⟩
        refine ⟨γ2, G1 ++ G2, i2, ?_, ⟨e2.β.trans e1.β, e2.sl.trans e1.sl, fun g => Nat.le_trans (e1.h g) (e2.h g), fun be hb => ?_, fun hd => ?_, fun g hg => ?_, fun g => ?_⟩, by simp [l2], ?_, ?_, ?_⟩
        · simp only [RpE, List.flatMap_cons]
          exact ⟨_, _, G1, G2, rfl, rfl, r1, r2⟩
        · rcases List.mem_append.1 hb with hb | hb
          · rcases e1.some_ be hb with h | h
            · exact .inl (Nat.le_trans h (e2.h _))
            · exact .inr (up _ h)
          · exact e2.some_ be hb
        · rw [Bool.and_eq_true] at hd
          obtain ⟨n1, l1⟩ := e1.deep hd.1
          obtain ⟨n2, l2'⟩ := e2.deep hd.2
          refine ⟨?_, fun be hb => ?_⟩
          · rw [List.map_append, List.nodup_append]
            refine ⟨n1, n2, ?_⟩
            intro a ha b hb e
            subst e
            obtain ⟨be1, hb1, rfl⟩ := List.mem_map.1 ha
            obtain ⟨be2, hb2, e2'⟩ := List.mem_map.1 hb
            exact (l2' be2 hb2).2 (by rw [e2']; exact (l1 be1 hb1).1.1)
          · rcases List.mem_append.1 hb with hb | hb
            · exact ⟨up _ (l1 be hb).1, (l1 be hb).2⟩
            · refine ⟨(l2' be hb).1, fun h => (l2' be hb).2 ?_⟩
              exact (e1.lim _ h).1
        · obtain ⟨u1, u2⟩ := e1.lim g hg
          obtain ⟨u3, u4⟩ := e2.lim g u1
          exact ⟨u3, u4.trans u2⟩
        · rcases e2.own g with h | h
          · rw [h]; exact e1.own g
          · exact .inr h
        · intro e he
          rcases List.mem_cons.1 he with rfl | he
          · exact hk.1
          · exact k2 e he
        · intro hf e he
          rcases List.mem_cons.1 he with rfl | he
          · have := hk.2 hf
            simpa [plains] using this
          · exact f2 hf e he
        · intro u hu
          rcases List.mem_cons.1 hu with rfl | hu
          · exact hsz
          · exact z2 u hu
      · cases he
    · cases he
end
end Go.Proofs.Ytmaigpiappmpcaa
