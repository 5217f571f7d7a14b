/-
  How a state of the machine over plain data lies in memory (Inv). No program is named here.
-/
import Derived.Test.YtmaigpiappmpcaaKMach
namespace Go.Proofs.Ytmaigpiappmpcaa
set_option linter.unusedVariables false
set_option linter.unusedSimpArgs false
open Go.RowKit

inductive Own where
  | free
  | box (b : Nat)
  | row (r : Nat)
  | lim
  deriving DecidableEq

/-- h: how far each block is settled; where boxes and rows lie; who owns a block -/
structure Gh where
  h : Nat → Nat
  β : Nat → Nat
  sl : Nat → Value
  ω : Nat → Own

def Settled (h : Nat → Nat) (F : Fp) : Prop := ∀ be ∈ F, be.2 ≤ h be.1
def Thaw (w : World) (g : Nat) : Prop := ∀ j, w.frozen? ⟨g, j, none⟩ = false

mutual
def CR (γ : Gh) (w : World) : C → Value → Prop
  | .d x, v => ∃ F, Rp w x v F ∧ Settled γ.h F
  | .nil k _, v => v = .slice none 0 0 ∧ 0 < k
  | .ref r, v => v = γ.sl r ∧ ∃ A n c, v = .slice A n c
  | .ptr b o, v => v = .pointer (some ⟨γ.β b, o, none⟩)
  | .ept r k i o, v => ∃ g p n c, γ.sl r = .slice (some ⟨g, p, none⟩) n c ∧ v = .pointer (some ⟨g, p + i * k + o, none⟩)
  | .dpt cs, v => ∃ b o vs F, v = .pointer (some ⟨b, o, none⟩) ∧ RpC w cs vs F ∧ Settled γ.h F ∧ Lies w b o vs ∧ ∀ j, j < cs.length → o + j < γ.h b
  | .agg cs, v => ∃ vs, v = .agg vs.toArray ∧ CRs γ w cs vs
  | .tup cs, v => ∃ vs, v = .tuple vs.toArray ∧ CRs γ w cs vs
  | .und, v => v = undef
  | .any, _ => True
def CRs (γ : Gh) (w : World) : List C → List Value → Prop
  | [], vs => vs = []
  | c :: cs, vs => ∃ v vs', vs = v :: vs' ∧ CR γ w c v ∧ CRs γ w cs vs'
end

/-- a row's slice, and the blocks that are its own -/
def RowR (h : Nat → Nat) (w : World) (x : Row) (v : Value) (F : List Nat) : Prop :=
  ∃ A n c, v = .slice A n c ∧ n = x.es.length ∧ n ≤ c ∧ c ≤ maxLen ∧ 0 < x.k ∧ (∀ e ∈ x.es, e.length = x.k) ∧ (x.fl = true → flat x.es) ∧
    ((A = none ∧ c = 0 ∧ F = []) ∨
      ∃ g o xs G, A = some ⟨g, o, none⟩ ∧ g < w.heap.size ∧ Thaw w g ∧ RpE w x.es xs G ∧ Lies w g o xs ∧ h g ≤ o + n * x.k ∧ (x.fz = false → h g = 0) ∧
        (x.app = true → o = 0 ∧ ∃ T vs, Blk w g T vs ∧ vs.length = c * x.k) ∧
        (x.deep = true → F = g :: G.map Prod.fst ∧ ∀ be ∈ G, h be.1 = 0 ∧ Thaw w be.1) ∧ (x.deep = false → F = [g] ∧ Settled h G))

structure Inv (γ : Gh) (h0 : Nat → Nat) (io : List Nat) (w0 : World) (s : St) (f : Fm) (w : World) : Prop where
  sl : ∀ d c, look s.sl d = some c → CR γ w c (f d)
  bx : ∀ b cs, look s.bx b = some cs → ∃ T vs, Blk w (γ.β b) T vs ∧ CRs γ w cs vs ∧ γ.ω (γ.β b) = .box b
  rw : ∀ r x, look s.rw r = some x → ∃ F, RowR γ.h w x (γ.sl r) F ∧ F.Nodup ∧ ∀ g ∈ F, γ.ω g = .row r
  own : ∀ g, γ.ω g ≠ .free → g < w.heap.size ∧ (w0.heap.size ≤ g ∨ g ∈ io)
  hbox : ∀ g b, γ.ω g = .box b → γ.h g = 0
  hnew : ∀ g, w.heap.size ≤ g → γ.h g = 0
  os : w.os = w0.os
  tape : w.tape = w0.tape
  output : w.output = w0.output
  size : w0.heap.size ≤ w.heap.size
  frame : ∀ g, g < w0.heap.size → g ∉ io → w.heap[g]? = w0.heap[g]?
  cell : ∀ g j, g < w0.heap.size → j < h0 g → w.cell? ⟨g, j, none⟩ = w0.cell? ⟨g, j, none⟩
  mono : ∀ g, g < w0.heap.size → h0 g ≤ γ.h g
  hold : ∀ g, g < w0.heap.size → g ∉ io → γ.h g = h0 g
  thaw : ∀ g, w0.heap.size ≤ g → Thaw w g
  kthaw : ∀ g, Thaw w0 g → Thaw w g

/-! ### looking up -/
section
variable {α : Type}
theorem look_cons (k : Nat) (x : α) (l : List (Nat × α)) (d : Nat) : look ((k, x) :: l) d = if k = d then some x else look l d := rfl
theorem look_drp (l : List (Nat × α)) (d e : Nat) : look (drp l d) e = if d = e then none else look l e := by
  induction l with
  | nil => simp [drp, look]
  | cons p l ih =>
    obtain ⟨k, x⟩ := p
    unfold drp at ih ⊢
    by_cases h : k = d
    · subst h
      simp only [List.filter_cons, bne_self_eq_false, Bool.false_eq_true, if_false, ih, look]
      by_cases h2 : k = e <;> simp [h2]
    · have h' : (k != d) = true := by simp [h]
      simp only [List.filter_cons, h', if_true, look, ih]
      by_cases h2 : k = e
      · subst h2; simp [Ne.symm h]
      · simp [h2]
theorem look_keep (l : List (Nat × α)) : ∀ (ds : List Nat) (e : Nat) (x : α), look (keepL l ds) e = some x → look l e = some x
  | [], e, x, h => by simp [keepL, look] at h
  | d :: ds, e, x, h => by
    unfold keepL at h
    cases hd : look l d with
    | none => rw [hd] at h; exact look_keep l ds e x h
    | some y =>
      rw [hd] at h
      simp only [look] at h
      split at h
      · rename_i he; subst he; rw [hd]; exact h
      · exact look_keep l ds e x h
end
theorem look_killS (i : Nat) (l : List (Nat × C)) (d : Nat) : look (killS i l) d = (look l d).map (C.kill i) := by
  induction l with
  | nil => rfl
  | cons p l ih =>
    obtain ⟨k, x⟩ := p
    unfold killS at ih ⊢
    simp only [List.map_cons, look, ih]
    split <;> rfl
theorem look_killB (i : Nat) (l : List (Nat × List C)) (d : Nat) : look (killB i l) d = (look l d).map (C.kills i) := by
  induction l with
  | nil => rfl
  | cons p l ih =>
    obtain ⟨k, x⟩ := p
    unfold killB at ih ⊢
    simp only [List.map_cons, look, ih]
    split <;> rfl

/-! ### what is related stays related -/
theorem Settled.mono {h h' : Nat → Nat} {F : Fp} (hs : Settled h F) (hh : ∀ g, h g ≤ h' g) : Settled h' F := fun be hb => Nat.le_trans (hs be hb) (hh _)
theorem Settled.keeps {h : Nat → Nat} {F : Fp} {w w' : World} (hs : Settled h F) (hc : ∀ g j, j < h g → w'.cell? ⟨g, j, none⟩ = w.cell? ⟨g, j, none⟩) : Keeps F w w' :=
  fun be hb j hj => hc _ j (Nat.lt_of_lt_of_le hj (hs be hb))
theorem Settled.sub {h : Nat → Nat} {F G : Fp} (hs : Settled h F) (hg : ∀ be ∈ G, be ∈ F) : Settled h G := fun be hb => hs be (hg be hb)
theorem Settled.append {h : Nat → Nat} {F G : Fp} (hs : Settled h F) (hg : Settled h G) : Settled h (F ++ G) := fun be hb => by
  rcases List.mem_append.1 hb with hb | hb
  · exact hs be hb
  · exact hg be hb

mutual
/-- the ghost may change where i is forgotten; the world may change where nothing is settled -/
theorem CR.move {γ γ' : Gh} {w w' : World} (i : Nat) (hh : ∀ g, γ.h g ≤ γ'.h g) (hc : ∀ g j, j < γ.h g → w'.cell? ⟨g, j, none⟩ = w.cell? ⟨g, j, none⟩) (hβ : ∀ b, b ≠ i → γ'.β b = γ.β b) (hsl : ∀ r, r ≠ i → γ'.sl r = γ.sl r) :
    ∀ (c : C) {v : Value}, CR γ w c v → CR γ' w' (C.kill i c) v
  | .d x, v, h => by
    simp only [CR, C.kill] at h ⊢
    obtain ⟨F, h1, h2⟩ := h
    exact ⟨F, h1.keep x (h2.keeps hc), h2.mono hh⟩
  | .nil _ _, v, h => by simpa only [CR, C.kill] using h
  | .ref r, v, h => by
    simp only [C.kill]
    split
    · simp only [CR]
    · rename_i hr; simp only [CR] at h ⊢; rw [hsl r hr]; exact h
  | .ptr b o, v, h => by
    simp only [C.kill]
    split
    · simp only [CR]
    · rename_i hr; simp only [CR] at h ⊢; rw [hβ b hr]; exact h
  | .ept r k a o, v, h => by
    simp only [C.kill]
    split
    · simp only [CR]
    · rename_i hr; simp only [CR] at h ⊢; rw [hsl r hr]; exact h
  | .dpt cs, v, h => by
    simp only [CR, C.kill] at h ⊢
    obtain ⟨b, o, vs, F, h1, h2, h3, h4, h5⟩ := h
    refine ⟨b, o, vs, F, h1, h2.keep cs (h3.keeps hc), h3.mono hh, ?_, fun j hj => Nat.lt_of_lt_of_le (h5 j hj) (hh b)⟩
    intro j u hu
    have hj := (List.getElem?_eq_some_iff.1 hu).1
    rw [RpC.length cs h2] at hj
    rw [hc b (o + j) (h5 j hj)]
    exact h4 j u hu
  | .agg cs, v, h => by
    simp only [CR, C.kill] at h ⊢
    obtain ⟨vs, h1, h2⟩ := h
    exact ⟨vs, h1, CRs.move i hh hc hβ hsl cs h2⟩
  | .tup cs, v, h => by
    simp only [CR, C.kill] at h ⊢
    obtain ⟨vs, h1, h2⟩ := h
    exact ⟨vs, h1, CRs.move i hh hc hβ hsl cs h2⟩
  | .und, v, h => by simpa only [CR, C.kill] using h
  | .any, v, h => by simp only [CR, C.kill]
theorem CRs.move {γ γ' : Gh} {w w' : World} (i : Nat) (hh : ∀ g, γ.h g ≤ γ'.h g) (hc : ∀ g j, j < γ.h g → w'.cell? ⟨g, j, none⟩ = w.cell? ⟨g, j, none⟩) (hβ : ∀ b, b ≠ i → γ'.β b = γ.β b) (hsl : ∀ r, r ≠ i → γ'.sl r = γ.sl r) :
    ∀ (cs : List C) {vs : List Value}, CRs γ w cs vs → CRs γ' w' (C.kills i cs) vs
  | [], vs, h => by simpa only [CRs, C.kills] using h
  | c :: cs, vs, h => by
    simp only [CRs, C.kills] at h ⊢
    obtain ⟨v, vs', h1, h2, h3⟩ := h
    exact ⟨v, vs', h1, CR.move i hh hc hβ hsl c h2, CRs.move i hh hc hβ hsl cs h3⟩
end
mutual
theorem CR.mono {γ γ' : Gh} {w w' : World} (hh : ∀ g, γ.h g ≤ γ'.h g) (hc : ∀ g j, j < γ.h g → w'.cell? ⟨g, j, none⟩ = w.cell? ⟨g, j, none⟩) (hβ : γ'.β = γ.β) (hsl : γ'.sl = γ.sl) :
    ∀ (c : C) {v : Value}, CR γ w c v → CR γ' w' c v
  | .d x, v, h => by
    simp only [CR] at h ⊢
    obtain ⟨F, h1, h2⟩ := h
    exact ⟨F, h1.keep x (h2.keeps hc), h2.mono hh⟩
  | .nil _ _, v, h => by simpa only [CR] using h
  | .ref r, v, h => by simp only [CR] at h ⊢; rw [hsl]; exact h
  | .ptr b o, v, h => by simp only [CR] at h ⊢; rw [hβ]; exact h
  | .ept r k a o, v, h => by simp only [CR] at h ⊢; rw [hsl]; exact h
  | .dpt cs, v, h => by
    simp only [CR] at h ⊢
    obtain ⟨b, o, vs, F, h1, h2, h3, h4, h5⟩ := h
    refine ⟨b, o, vs, F, h1, h2.keep cs (h3.keeps hc), h3.mono hh, ?_, fun j hj => Nat.lt_of_lt_of_le (h5 j hj) (hh b)⟩
    intro j u hu
    have hj := (List.getElem?_eq_some_iff.1 hu).1
    rw [RpC.length cs h2] at hj
    rw [hc b (o + j) (h5 j hj)]
    exact h4 j u hu
  | .agg cs, v, h => by
    simp only [CR] at h ⊢
    obtain ⟨vs, h1, h2⟩ := h
    exact ⟨vs, h1, CRs.mono hh hc hβ hsl cs h2⟩
  | .tup cs, v, h => by
    simp only [CR] at h ⊢
    obtain ⟨vs, h1, h2⟩ := h
    exact ⟨vs, h1, CRs.mono hh hc hβ hsl cs h2⟩
  | .und, v, h => by simpa only [CR] using h
  | .any, v, h => by simp only [CR]
theorem CRs.mono {γ γ' : Gh} {w w' : World} (hh : ∀ g, γ.h g ≤ γ'.h g) (hc : ∀ g j, j < γ.h g → w'.cell? ⟨g, j, none⟩ = w.cell? ⟨g, j, none⟩) (hβ : γ'.β = γ.β) (hsl : γ'.sl = γ.sl) :
    ∀ (cs : List C) {vs : List Value}, CRs γ w cs vs → CRs γ' w' cs vs
  | [], vs, h => by simpa only [CRs] using h
  | c :: cs, vs, h => by
    simp only [CRs] at h ⊢
    obtain ⟨v, vs', h1, h2, h3⟩ := h
    exact ⟨v, vs', h1, CR.mono hh hc hβ hsl c h2, CRs.mono hh hc hβ hsl cs h3⟩
end
/-- a row stays where its own blocks and what is settled stay -/
theorem RowR.keep {h h' : Nat → Nat} {w w' : World} {x : Row} {v : Value} {F : List Nat} (hr : RowR h w x v F) (hF : ∀ g ∈ F, h' g = h g ∧ w'.heap[g]? = w.heap[g]?) (hh : ∀ g, h g ≤ h' g) (hc : ∀ g j, j < h g → w'.cell? ⟨g, j, none⟩ = w.cell? ⟨g, j, none⟩) : RowR h' w' x v F := by
  obtain ⟨A, n, c, h1, h2, h3, h4, h5, h6, h7, h8⟩ := hr
  refine ⟨A, n, c, h1, h2, h3, h4, h5, h6, h7, ?_⟩
  rcases h8 with h8 | ⟨g, o, xs, G, a1, a2, a3, a4, a5, a6, a7, a8, a9, a10⟩
  · exact .inl h8
  · have hg : g ∈ F := by
      cases hd : x.deep with
      | true => rw [(a9 hd).1]; simp
      | false => rw [(a10 hd).1]; simp
    have hb := (hF g hg).2
    have hk : Keeps G w w' := by
      cases hd : x.deep with
      | false => exact (a10 hd).2.keeps hc
      | true =>
        intro be hbe j _
        exact World.cell?_of_block (w := w) (hF be.1 (by rw [(a9 hd).1]; simp; exact .inr ⟨be.2, hbe⟩)).2
    refine .inr ⟨g, o, xs, G, a1, lt_keep a2 hb, ?_, a4.keep _ hk, a5.keep hb, by rw [(hF g hg).1]; exact a6, fun hz => by rw [(hF g hg).1]; exact a7 hz, ?_, ?_, ?_⟩
    · intro j; rw [World.frozen?_of_block (w := w) hb]; exact a3 j
    · intro ha
      obtain ⟨ho, T, vs, hv, hl⟩ := a8 ha
      exact ⟨ho, T, vs, hv.keep hb, hl⟩
    · intro hd
      obtain ⟨e, hz⟩ := a9 hd
      refine ⟨e, fun be hbe => ?_⟩
      have hm := hF be.1 (by rw [e]; simp; exact .inr ⟨be.2, hbe⟩)
      refine ⟨by rw [hm.1]; exact (hz be hbe).1, fun j => ?_⟩
      rw [World.frozen?_of_block (w := w) hm.2]; exact (hz be hbe).2 j
    · intro hd
      obtain ⟨e, hz⟩ := a10 hd
      exact ⟨e, hz.mono hh⟩

/-- the owners M alone have been written -/
structure Adv (γ : Gh) (M : Own → Prop) (w w' : World) : Prop where
  os : w'.os = w.os
  tape : w'.tape = w.tape
  output : w'.output = w.output
  size : w.heap.size ≤ w'.heap.size
  block : ∀ g, g < w.heap.size → ¬ M (γ.ω g) → w'.heap[g]? = w.heap[g]?
  cell : ∀ g j, j < γ.h g → w'.cell? ⟨g, j, none⟩ = w.cell? ⟨g, j, none⟩
  thaw : ∀ g, w.heap.size ≤ g → Thaw w' g
  kthaw : ∀ g, Thaw w g → Thaw w' g

section
variable {γ : Gh} {h0 : Nat → Nat} {io : List Nat} {w0 : World} {s : St} {f : Fm} {w : World}

theorem Inv.hcell (hi : Inv γ h0 io w0 s f w) {w' : World} {M : Own → Prop} (ha : Adv γ M w w') : ∀ g j, j < γ.h g → w'.cell? ⟨g, j, none⟩ = w.cell? ⟨g, j, none⟩ := ha.cell

theorem Inv.adv (hi : Inv γ h0 io w0 s f w) {w' : World} {M : Own → Prop} (ha : Adv γ M w w') (hf : ¬ M .free) (hb : ∀ b, M (.box b) → look s.bx b = none) (hr : ∀ r, M (.row r) → look s.rw r = none) : Inv γ h0 io w0 s f w' where
  sl d c hl := (hi.sl d c hl).mono (γ' := γ) (fun _ => Nat.le_refl _) ha.cell rfl rfl c
  bx b cs hl := by
    obtain ⟨T, vs, h1, h2, h3⟩ := hi.bx b cs hl
    refine ⟨T, vs, h1.keep (ha.block _ h1.lt ?_), h2.mono (γ' := γ) (fun _ => Nat.le_refl _) ha.cell rfl rfl cs, h3⟩
    rw [h3]; intro hm; rw [hb b hm] at hl; cases hl
  rw r x hl := by
    obtain ⟨F, h1, h2, h3⟩ := hi.rw r x hl
    refine ⟨F, h1.keep (fun g hg => ⟨rfl, ha.block g (hi.own g (by rw [h3 g hg]; simp)).1 ?_⟩) (fun _ => Nat.le_refl _) ha.cell, h2, h3⟩
    rw [h3 g hg]; intro hm; rw [hr r hm] at hl; cases hl
  own g hg := ⟨Nat.lt_of_lt_of_le (hi.own g hg).1 ha.size, (hi.own g hg).2⟩
  hbox := hi.hbox
  hnew g hg := hi.hnew g (Nat.le_trans ha.size hg)
  os := ha.os.trans hi.os
  tape := ha.tape.trans hi.tape
  output := ha.output.trans hi.output
  size := Nat.le_trans hi.size ha.size
  frame g hg hn := by
    refine (ha.block g (Nat.lt_of_lt_of_le hg hi.size) ?_).trans (hi.frame g hg hn)
    have : γ.ω g = .free := by
      rcases Decidable.em (γ.ω g = .free) with h | h
      · exact h
      · rcases (hi.own g h).2 with h' | h'
        · omega
        · exact absurd h' hn
    rw [this]; exact hf
  cell g j hg hj := (ha.cell g j (Nat.lt_of_lt_of_le hj (hi.mono g hg))).trans (hi.cell g j hg hj)
  mono := hi.mono
  hold := hi.hold
  thaw g hg := by
    rcases Nat.lt_or_ge g w.heap.size with hl | hl
    · exact ha.kthaw g (hi.thaw g hg)
    · exact ha.thaw g hl
  kthaw g hg := ha.kthaw g (hi.kthaw g hg)

/-- less is known -/
theorem Inv.sub (hi : Inv γ h0 io w0 s f w) {s' : St} (h1 : ∀ d c, look s'.sl d = some c → look s.sl d = some c) (h2 : ∀ d c, look s'.bx d = some c → look s.bx d = some c) (h3 : ∀ d c, look s'.rw d = some c → look s.rw d = some c) : Inv γ h0 io w0 s' f w :=
  { hi with sl := fun d c h => hi.sl d c (h1 d c h), bx := fun d c h => hi.bx d c (h2 d c h), rw := fun d c h => hi.rw d c (h3 d c h) }
theorem Inv.get (hi : Inv γ h0 io w0 s f w) (d : Nat) : CR γ w (s.get d) (f d) := by
  unfold St.get
  cases h : look s.sl d with
  | none => simp [CR]
  | some c => exact hi.sl d c h
theorem Inv.put (hi : Inv γ h0 io w0 s f w) (d : Nat) (c : C) (v : Value) (hc : CR γ w c v) : Inv γ h0 io w0 (s.put (some d) c) (upd f d v) w :=
  { hi with
    sl := fun e c' h => by
      simp only [St.put, look] at h
      by_cases he : d = e
      · subst he
        simp at h
        subst h
        simpa [upd] using hc
      · rw [if_neg he] at h
        have : upd f d v e = f e := by
          unfold upd
          cases hb : Nat.beq e d
          · rfl
          · exact absurd (Nat.eq_of_beq_eq_true hb).symm he
        rw [this]
        exact hi.sl e c' h }
/-- the settled part grows where no living thing owns -/
theorem Inv.settle (hi : Inv γ h0 io w0 s f w) {h' : Nat → Nat} {ω' : Nat → Own} (hh : ∀ g, γ.h g ≤ h' g) (hs : ∀ g, h' g ≠ γ.h g → g < w.heap.size ∧ (w0.heap.size ≤ g ∨ g ∈ io) ∧ (∀ b cs, look s.bx b = some cs → γ.ω g ≠ .box b) ∧ ∀ r x, look s.rw r = some x → γ.ω g ≠ .row r)
    (hω : ∀ g, ω' g = γ.ω g ∨ ((ω' g = .free ∨ ω' g = .lim) ∧ γ.ω g ≠ .free ∧ (∀ b cs, look s.bx b = some cs → γ.ω g ≠ .box b) ∧ ∀ r x, look s.rw r = some x → γ.ω g ≠ .row r)) (hb : ∀ g b, ω' g = .box b → h' g = 0) : Inv { γ with h := h', ω := ω' } h0 io w0 s f w where
  sl d c hl := (hi.sl d c hl).mono (γ' := { γ with h := h', ω := ω' }) hh (fun _ _ _ => rfl) rfl rfl c
  bx b cs hl := by
    obtain ⟨T, vs, h1, h2, h3⟩ := hi.bx b cs hl
    refine ⟨T, vs, h1, h2.mono (γ' := { γ with h := h', ω := ω' }) hh (fun _ _ _ => rfl) rfl rfl cs, ?_⟩
    rcases hω (γ.β b) with h | ⟨_, _, h, _⟩
    · exact h.trans h3
    · exact absurd h3 (h b cs hl)
  rw r x hl := by
    obtain ⟨F, h1, h2, h3⟩ := hi.rw r x hl
    refine ⟨F, h1.keep (fun g hg => ⟨?_, rfl⟩) hh (fun _ _ _ => rfl), h2, fun g hg => ?_⟩
    · rcases Decidable.em (h' g = γ.h g) with h | h
      · exact h
      · exact absurd (h3 g hg) ((hs g h).2.2.2 r x hl)
    · rcases hω g with h | ⟨_, _, _, h⟩
      · exact h.trans (h3 g hg)
      · exact absurd (h3 g hg) (h r x hl)
  own g hg := by
    rcases hω g with h | ⟨_, h, _⟩
    · exact hi.own g (by rw [← h]; exact hg)
    · exact hi.own g h
  hbox := hb
  hnew g hg := by
    rcases Decidable.em (h' g = γ.h g) with h | h
    · exact h.trans (hi.hnew g hg)
    · have := (hs g h).1; omega
  os := hi.os
  tape := hi.tape
  output := hi.output
  size := hi.size
  frame := hi.frame
  cell := hi.cell
  mono g hg := Nat.le_trans (hi.mono g hg) (hh g)
  hold g hg hn := by
    rcases Decidable.em (h' g = γ.h g) with h | h
    · exact h.trans (hi.hold g hg hn)
    · rcases (hs g h).2.1 with h' | h'
      · omega
      · exact absurd h' hn
  thaw := hi.thaw
  kthaw := hi.kthaw
end
end Go.Proofs.Ytmaigpiappmpcaa
