/-
  An argument that can be read as data is plain data V, and its cells hold it. No program is named here.
-/
import Derived.Test.YtilohpakglpdcaaOp
import Derived.ProofKit
import Derived.OpenShut
namespace Go.Proofs.Ytilohpakglpdcaa
open Go.RowKit Go.ChangeShapes Go.WideShapes

/-- the fields of a struct, each at its place behind the last one -/
def Fits (P : Program) (R : TypeId → Nat → Prop) : List Field → List Nat → Nat → Nat → Prop
  | [], [], off, all => off = all
  | f :: fs, t :: ts, off, all => f.offset = off ∧ R f.type t ∧ Fits P R fs ts (off + P.cellsOf f.type) all
  | _, _, _, _ => False

/-- R tells of a type of the program as which type of data it is read -/
def TyRel (P : Program) (R : TypeId → Nat → Prop) : Prop :=
  ∀ t τ, R t τ → match ty τ with
    | .int => P.underlying t = some (.int .i64)
    | .bool => P.underlying t = some .bool
    | .str => P.underlying t = some .string
    | .list e => ∃ te, P.underlying t = some (.slice te) ∧ R te e ∧ 0 < P.cellsOf te
    | .agg ts => ∃ fs, P.underlying t = some (.struct fs) ∧ Fits P R fs.toList ts 0 (P.cellsOf t)

theorem build_es {w : World} {e k b : Nat} : ∀ (len o : Nat), (∀ i, i < len → ∃ v cs F, Ok v e ∧ Rep w v cs F ∧ Lies w b (o + i * k) cs ∧ cs.length = k) → ∃ xs F, xs.length = len ∧ Oks xs e ∧ RepEs w xs b o F
  | 0, o, _ => ⟨[], [], rfl, trivial, by simp [RepEs]⟩
  | len + 1, o, h => by
    obtain ⟨v, cs, F, h1, h2, h3, h4⟩ := h 0 (by omega)
    have hw := Rep.length v h2
    obtain ⟨xs, G, a1, a2, a3⟩ := build_es len (o + k) (fun i hi => by
      obtain ⟨v, cs, F, h1, h2, h3, h4⟩ := h (i + 1) (by omega)
      refine ⟨v, cs, F, h1, h2, ?_, h4⟩
      rw [show o + k + i * k = o + (i + 1) * k from by rw [Nat.succ_mul]; omega]
      exact h3)
    refine ⟨v :: xs, F ++ G, by simp [a1], ⟨h1, a2⟩, ?_⟩
    simp only [RepEs]
    refine ⟨cs, F, G, rfl, h2, by simpa using h3, ?_⟩
    rw [← hw, h4]
    exact a3

section
variable {H : Type} {enc : TypeId × Value → H} {P : Program} {w : World} {spare : Nat → Bool} {held : Bool} {R : TypeId → Nat → Prop}

theorem build_fs {n all : Nat} {cs : List Value} (ih : ∀ t τ cs x, DataW.trod enc P w 0 spare held n t cs = some x → R t τ → ∃ v F, Ok v τ ∧ Rep w v cs F) (hl : cs.length = all) :
    ∀ (fs : List Field) (ts : List Nat) (off : Nat), Fits P R fs ts off all → (∀ f ∈ fs, ∃ x, DataW.trod enc P w 0 spare held n f.type ((cs.drop f.offset).take (P.cellsOf f.type)) = some x) →
      ∃ vs F, Okz vs ts ∧ RepFs w vs (cs.drop off) F
  | [], [], off, h, _ => by
    simp only [Fits] at h
    refine ⟨[], [], okz_nil, ?_⟩
    rw [List.drop_of_length_le (by omega)]
    exact rnil
  | [], _ :: _, off, h, _ => by simp only [Fits] at h
  | _ :: _, [], off, h, _ => by simp only [Fits] at h
  | f :: fs, t :: ts, off, h, hx => by
    simp only [Fits] at h
    obtain ⟨rfl, hR, hf⟩ := h
    obtain ⟨x, hx0⟩ := hx f (by simp)
    obtain ⟨v, F, ok, hr⟩ := ih _ t _ x hx0 hR
    obtain ⟨vs, G, okz, hrs⟩ := build_fs ih hl fs ts _ hf (fun g hg => hx g (by simp [hg]))
    refine ⟨v :: vs, F ++ G, okz_cons ok okz, ?_⟩
    have e : cs.drop f.offset = (cs.drop f.offset).take (P.cellsOf f.type) ++ cs.drop (f.offset + P.cellsOf f.type) := by
      rw [← List.drop_drop, List.take_append_drop]
    rw [e]
    exact rcons hr hrs

theorem spot_none {a : Addr} {v : Value} (h : w.cell? a = some v) : a = ⟨a.block, a.off, none⟩ := by
  obtain ⟨b, o, sp⟩ := a
  cases sp with
  | none => rfl
  | some k =>
    unfold World.cell? at h
    split at h
    · simp at h
    · cases h
theorem blk_lt {a : Addr} {v : Value} (h : w.cell? a = some v) : a.block < w.heap.size := by
  unfold World.cell? at h
  rcases Nat.lt_or_ge a.block w.heap.size with hl | hl
  · exact hl
  · simp [Array.getElem?_eq_none hl] at h

/-- what can be read is plain data, and its cells hold it -/
theorem read (hR : TyRel P R) : ∀ (fuel : Nat) (t : TypeId) (τ : Nat) (cs : List Value) (x : DataW H × List MemPlace), DataW.trod enc P w 0 spare held fuel t cs = some x → R t τ → ∃ v F, Ok v τ ∧ Rep w v cs F
  | 0, t, τ, cs, x, h, _ => by simp [DataW.trod] at h
  | fuel + 1, t, τ, cs, x, h, hr => by
    have hT := hR t τ hr
    cases hty : ty τ with
    | int =>
      rw [hty] at hT
      obtain ⟨n, rfl, _, hw⟩ := DataW.trod_int hT h
      exact ⟨.int n, [], ok_int hty, rint (bounds_i64 hw)⟩
    | bool =>
      rw [hty] at hT
      obtain ⟨b, rfl, _⟩ := DataW.trod_bool hT h
      exact ⟨.bool b, [], ok_bool hty, rbool⟩
    | str =>
      rw [hty] at hT
      obtain ⟨s, rfl, _, hl⟩ := DataW.trod_string hT h
      exact ⟨.str s, [], ok_str hty, rstr (by simpa [maxLen] using hl)⟩
    | agg ts =>
      rw [hty] at hT
      obtain ⟨fs, hU, hF⟩ := hT
      obtain ⟨xs, n, hn, _, hl, hxl, hf⟩ := DataW.trod_struct hU h
      have hn' : n = fuel := by omega
      subst hn'
      obtain ⟨vs, F, okz, hrs⟩ := build_fs (fun t τ cs x h hr => read hR n t τ cs x h hr) hl fs.toList ts 0 hF (fun f hfm => by
        obtain ⟨i, hi, e⟩ := List.getElem_of_mem hfm
        have hi' : i < fs.size := by simpa using hi
        have h1 := hf i f (by rw [← e]; simp [hi'])
        rw [List.getElem?_eq_getElem (by omega)] at h1
        exact ⟨_, h1⟩)
      exact ⟨.agg vs, F, ok_agg hty okz, ragg (by simpa using hrs)⟩
    | list e =>
      rw [hty] at hT
      obtain ⟨te, hU, hRe, hpos⟩ := hT
      rcases DataW.trod_slice hU h with ⟨rfl, _⟩ | ⟨a, len, cap, elems, rest, n, hn, rfl, _, _, hlc, hcm, hel, hget, _⟩
      · exact ⟨.list [], [], ok_list hty trivial, rnone⟩
      · have hn' : n = fuel := by omega
        subst hn'
        have hcm' : cap ≤ 9223372036854775807 := by simpa [maxLen] using hcm
        have key : ∀ i, i < len → ∃ v cs F, Ok v e ∧ Rep w v cs F ∧ cs.length = P.cellsOf te ∧ ∀ j, j < P.cellsOf te → w.cell? ((a.add (i * P.cellsOf te)).add j) = cs[j]? := by
          intro i hi
          have h1 := hget i hi
          rw [List.getElem?_eq_getElem (by omega)] at h1
          obtain ⟨cs', hc, ht⟩ := Option.bind_eq_some_iff.1 h1
          obtain ⟨_, hcl, hat⟩ := World.cells?_some hc
          obtain ⟨v, F, ok, hrep⟩ := read hR n te e cs' _ ht hRe
          exact ⟨v, cs', F, ok, hrep, hcl, hat⟩
        by_cases h0 : len = 0
        · subst h0
          refine ⟨.list [], [], ok_list hty trivial, ?_⟩
          simp only [Rep]
          exact ⟨_, _, _, rfl, rfl, hlc, hcm', .inl (by simp)⟩
        · obtain ⟨v0, cs0, F0, _, _, hl0, hat0⟩ := key 0 (by omega)
          have hc0 := hat0 0 hpos
          simp only [Nat.zero_mul] at hc0
          have e00 : (a.add 0).add 0 = a := by simp [Addr.add]
          rw [e00, List.getElem?_eq_getElem (by omega)] at hc0
          have ha := spot_none hc0
          have hb := blk_lt hc0
          obtain ⟨xs, G, x1, x2, x3⟩ := build_es (w := w) (e := e) (k := P.cellsOf te) (b := a.block) len a.off (fun i hi => by
            obtain ⟨v, cs, F, ok, hrep, hcl, hat⟩ := key i hi
            refine ⟨v, cs, F, ok, hrep, fun j u hu => ?_, hcl⟩
            have hj : j < P.cellsOf te := by rw [← hcl]; exact (List.getElem?_eq_some_iff.1 hu).1
            have h2 := hat j hj
            rw [ha, add_mk, add_mk, hu] at h2
            exact h2)
          refine ⟨.list xs, a.block :: G, ok_list hty x2, ?_⟩
          simp only [Rep]
          exact ⟨some a, len, cap, rfl, x1.symm, hlc, hcm', .inr ⟨a.block, a.off, G, congrArg some ha, hb, rfl, x3⟩⟩
end

/-- the same as a question that the kernel answers -/
def fitsB (P : Program) (rel : List (TypeId × Nat)) : List Field → List Nat → Nat → Nat → Bool
  | [], [], off, all => off == all
  | f :: fs, t :: ts, off, all => f.offset == off && rel.contains (f.type, t) && fitsB P rel fs ts (off + P.cellsOf f.type) all
  | _, _, _, _ => false
def relOk (P : Program) (rel : List (TypeId × Nat)) : Bool :=
  rel.all fun x => match P.underlying x.1, ty x.2 with
    | some (.int .i64), .int => true
    | some .bool, .bool => true
    | some .string, .str => true
    | some (.slice te), .list e => rel.contains (te, e) && decide (0 < P.cellsOf te)
    | some (.struct fs), .agg ts => fitsB P rel fs.toList ts 0 (P.cellsOf x.1)
    | _, _ => false
theorem fits_of {P : Program} {rel : List (TypeId × Nat)} : ∀ (fs : List Field) (ts : List Nat) (off all : Nat), fitsB P rel fs ts off all = true → Fits P (fun t τ => (t, τ) ∈ rel) fs ts off all
  | [], [], off, all, h => by simpa [fitsB, Fits] using h
  | [], _ :: _, _, _, h => by simp [fitsB] at h
  | _ :: _, [], _, _, h => by simp [fitsB] at h
  | f :: fs, t :: ts, off, all, h => by
    simp only [fitsB, Bool.and_eq_true, beq_iff_eq, List.contains_iff_mem] at h
    simp only [Fits]
    exact ⟨h.1.1, h.1.2, fits_of fs ts _ all h.2⟩
theorem rel_of {P : Program} {rel : List (TypeId × Nat)} (h : relOk P rel = true) : TyRel P (fun t τ => (t, τ) ∈ rel) := by
  intro t τ hm
  have h1 := List.all_eq_true.1 h (t, τ) hm
  dsimp only at h1
  cases hu : P.underlying t with
  | none => rw [hu] at h1; cases hy : ty τ <;> rw [hy] at h1 <;> simp at h1
  | some d =>
    rw [hu] at h1
    cases hy : ty τ with
    | int => rw [hy] at h1; dsimp only; split at h1 <;> simp_all
    | bool => rw [hy] at h1; dsimp only; split at h1 <;> simp_all
    | str => rw [hy] at h1; dsimp only; split at h1 <;> simp_all
    | list e =>
      rw [hy] at h1; dsimp only
      split at h1 <;> simp_all
    | agg ts =>
      rw [hy] at h1; dsimp only
      split at h1 <;> simp_all
      exact fits_of _ _ _ _ h1
end Go.Proofs.Ytilohpakglpdcaa
