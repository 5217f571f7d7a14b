/-
  The machine for marks does what the program does: one operation. No program is named here.
-/
import Derived.Test.YtmaigpiappmpcaaKMark
namespace Go.Proofs.Ytmaigpiappmpcaa
set_option linter.unusedVariables false
set_option linter.unusedSimpArgs false
open Go.RowKit

section
variable {P : Program} {ρ : Operand → Value} {w : World} {dst : Option Tmp} {ty : TypeId} {pos : String} {aft : Array Edge} {gd : Option (Nat × Bool)}
theorem run_storeC {g i : Nat} {v u : Value} {α : Type} (k : Sem α) (hc : w.cell? ⟨g, i, none⟩ = some u) (hf : w.frozen? ⟨g, i, none⟩ = false) (h1 : one v = true) :
    (Sem.store .plain ⟨g, i, none⟩ v k).run P w = k.run P (w.setCell ⟨g, i, none⟩ v) := by
  cases v <;> simp_all [Sem.run, one]
theorem x_storeC {x y : Operand} {g o : Nat} {T : TypeId} {v u : Value} (hS : ∀ w, (Go.sizeOf T).run P w = .ok 1 w) (hx : ρ x = .pointer (some ⟨g, o, none⟩)) (hy : ρ y = v) (h1 : one v = true) (hc : w.cell? ⟨g, o, none⟩ = some u) (hf : w.frozen? ⟨g, o, none⟩ = false) :
    (execOp ρ ⟨dst, .store T x y, ty, pos, aft, gd⟩).run P w = .ok .skip (w.setCell ⟨g, o, none⟩ v) := by
  have hc' : v.cells = #[v] := by cases v <;> simp_all [Value.cells, one]
  simp [execOp, Instr.storeAt, hx, hy, Instr.sureAddr, storeVar, hS, hc', storeCells, store, Addr.add, run_storeC _ hc hf h1]
end
section
variable (w : World) (g i : Nat) (v : Value)
theorem setCell_heap {b : Nat} (h : b ≠ g) : (w.setCell ⟨g, i, none⟩ v).heap[b]? = w.heap[b]? := by
  simp [World.setCell, Array.getElem?_modify, Ne.symm h]
theorem setCell_size : (w.setCell ⟨g, i, none⟩ v).heap.size = w.heap.size := by simp [World.setCell]
theorem setCell_cell {j : Nat} (h : j ≠ i) : (w.setCell ⟨g, i, none⟩ v).cell? ⟨g, j, none⟩ = w.cell? ⟨g, j, none⟩ := by
  simp only [World.cell?, World.setCell, Array.getElem?_modify, if_true]
  cases w.heap[g]? with
  | none => rfl
  | some o => cases o <;> simp [Array.getElem?_setIfInBounds_ne (Ne.symm h)]
theorem setCell_same {u : Value} (h : w.cell? ⟨g, i, none⟩ = some u) : (w.setCell ⟨g, i, none⟩ v).cell? ⟨g, i, none⟩ = some v := by
  simp only [World.cell?, World.setCell, Array.getElem?_modify, if_true] at h ⊢
  cases hg : w.heap[g]? with
  | none => rw [hg] at h; cases h
  | some o =>
    rw [hg] at h
    cases o <;> simp at h
    rename_i c e fz
    simp [(Array.getElem?_eq_some_iff.1 h).1]
theorem setCell_frozen (b j : Nat) : (w.setCell ⟨g, i, none⟩ v).frozen? ⟨b, j, none⟩ = w.frozen? ⟨b, j, none⟩ := by
  by_cases hb : b = g
  · subst hb
    simp only [World.frozen?, World.setCell, Array.getElem?_modify, if_true]
    cases w.heap[b]? with
    | none => rfl
    | some o => cases o <;> simp
  · simp only [World.frozen?, setCell_heap w g i v hb]
end

structure Tree where
  g : Nat
  p : Nat
  k : Nat
  n : Nat
  Fs : List Fp
  hv : List Value
  pl : List Bool
  ro : Bool
def MT (t : Tree) (w : World) (es : List (List D)) : Prop :=
  es.length = t.n ∧ (∀ e ∈ es, e.length = t.k) ∧ es.flatten.map D.plain = t.pl ∧
    ∃ xs : List Value, RpL w es.flatten xs t.Fs ∧ Lies w t.g t.p xs ∧ (∀ j : Nat, t.pl[j]? = some false → xs[j]? = t.hv[j]?) ∧ (t.ro = true → xs = t.hv)
def SpR (t : Tree) (w : World) : MC → Value → Prop
  | .lst, v => ∃ A c, v = .slice A t.n c ∧ (t.n = 0 ∨ A = some ⟨t.g, t.p, none⟩) ∧ t.n ≤ maxLen
  | .ep i o, v => v = .pointer (some ⟨t.g, t.p + (i * t.k + o), none⟩)
  | .hd i o, v => t.hv[i * t.k + o]? = some v
  | .non, _ => True
  | .sub i o n, v => 0 < t.n ∧ ∃ vs, v = .agg vs.toArray ∧ vs.length = n ∧ Lies w t.g (t.p + (i * t.k + o)) vs
structure Tok (t : Tree) (own : Bool) (h : Nat → Nat) (F : List Nat) (w0 : World) : Prop where
  fs : ∀ G ∈ t.Fs, ∀ be ∈ G, be.1 ∈ F ∧ be.1 ≠ t.g
  nd : (t.Fs.flatten.map Prod.fst).Nodup
  zero : ∀ g ∈ F, h g = 0 ∧ Thaw w0 g ∧ g < w0.heap.size
  own : own = true → (t.n = 0 ∨ t.g ∈ F) ∧ t.ro = false
abbrev γM (h : Nat → Nat) (F : List Nat) : Gh := ⟨h, fun _ => 0, fun _ => undef, fun g => if g ∈ F then .lim else .free⟩
structure MInv (t : Tree) (h : Nat → Nat) (F : List Nat) (w0 : World) (m : MS) (f : Fm) (w : World) : Prop where
  inv : Inv (γM h F) h F w0 m.s f w
  mt : MT t w m.es
  sp : ∀ d c, look m.sp d = some c → SpR t w c (f d)
  lt : t.n = 0 ∨ t.g < w.heap.size

section
variable {t : Tree} {own : Bool} {h : Nat → Nat} {F : List Nat} {w0 : World} {m : MS} {f : Fm} {w w' : World}

theorem upd_ne {f : Fm} {d e : Nat} {v : Value} (h : d ≠ e) : upd f d v e = f e := by
  unfold upd
  cases hb : Nat.beq e d
  · rfl
  · exact absurd (Nat.eq_of_beq_eq_true hb).symm h
theorem upd_same {f : Fm} {d : Nat} {v : Value} : upd f d v d = v := by simp [upd]
theorem MInv.put (hi : MInv t h F w0 m f w) {d : Nat} {c : C} {v : Value} (hc : CR (γM h F) w c v) : MInv t h F w0 (m.put d c) (upd f d v) w :=
  ⟨hi.inv.put d c v hc, hi.mt, fun e c' hl => by
    simp only [MS.put, look_drp] at hl
    split at hl
    · cases hl
    · rename_i hne; rw [upd_ne hne]; exact hi.sp e c' hl, hi.lt⟩
theorem MInv.putS (hi : MInv t h F w0 m f w) {d : Nat} {c : MC} {v : Value} (hc : SpR t w c v) : MInv t h F w0 (m.putS d c) (upd f d v) w :=
  ⟨hi.inv.put d .any v (by simp only [CR]), hi.mt, fun e c' hl => by
    simp only [MS.putS, look, look_drp] at hl
    split at hl
    · rename_i he; subst he; simp only [Option.some.injEq] at hl; subst hl; rw [upd_same]; exact hc
    · rename_i hne
      rw [upd_ne hne]; exact hi.sp e c' hl, hi.lt⟩
theorem MInv.go (hi : MInv t h F w0 m f w) (ha : Adv (γM h F) (fun o => o = .lim) w w') {sp' : List (Nat × MC)} {es' : List (List D)} (hm : MT t w' es') (hs : ∀ d c, look sp' d = some c → c = .non ∨ (look m.sp d = some c ∧ (c.isSub = true → w'.heap[t.g]? = w.heap[t.g]?))) :
    MInv t h F w0 ⟨m.s, sp', es'⟩ f w' :=
  ⟨hi.inv.adv ha (fun h => by cases h) (fun b h => by cases h) (fun r h => by cases h), hm, fun d c hl => by
    rcases hs d c hl with rfl | ⟨h1, h2⟩
    · trivial
    have h3 := hi.sp d c h1
    cases c with
    | non => trivial
    | lst => exact h3
    | ep i o => exact h3
    | hd i o => exact h3
    | sub i o n =>
      obtain ⟨h4, vs, h5, h6, h7⟩ := h3
      exact ⟨h4, vs, h5, h6, h7.keep (h2 rfl)⟩, by
    rcases hi.lt with h | h
    · exact .inl h
    · exact .inr (Nat.lt_of_lt_of_le h ha.size)⟩
theorem MT.keep (hm : MT t w m.es) (hF : ∀ G ∈ t.Fs, ∀ be ∈ G, w'.heap[be.1]? = w.heap[be.1]?) (hg : t.n = 0 ∨ w'.heap[t.g]? = w.heap[t.g]?) : MT t w' m.es := by
  obtain ⟨h1, h2, h3, xs, h4, h5, h6⟩ := hm
  refine ⟨h1, h2, h3, xs, RpL.keep _ h4 hF, ?_, h6⟩
  rcases hg with hg | hg
  · have hl := (RpL.length _ h4).1
    rw [flat_len _ h2, h1, hg, Nat.zero_mul] at hl
    have : xs = [] := List.length_eq_zero_iff.1 hl
    subst this
    intro j u hu
    simp at hu
  · exact h5.keep hg
theorem Inv.limlt (hi : Inv (γM h F) h F w0 m.s f w) {g : Nat} (hg : g ∈ F) : g < w.heap.size := (hi.own g (by simp [hg])).1

theorem spx_rel {N : Nat} (hi : MInv t h F w0 m f w) {x : Operand} {y : KX} (hok : okX N x y = true) {c : MC} (hc : m.spx y = some c) : SpR t w c ((fr f N).eval x) := by
  cases y with
  | k c' => simp [MS.spx] at hc
  | s d =>
    simp only [MS.spx] at hc
    cases x <;> simp only [okX, Bool.and_eq_true, beq_iff_eq, Bool.false_eq_true] at hok
    obtain ⟨rfl, hN⟩ := hok
    rw [fr_eval f (by simpa using hN)]
    exact hi.sp _ c hc
end
end Go.Proofs.Ytmaigpiappmpcaa
