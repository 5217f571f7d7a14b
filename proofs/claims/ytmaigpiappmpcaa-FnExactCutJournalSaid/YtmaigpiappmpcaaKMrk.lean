/-
  A call that marks what it is handed. No program is named here.
-/
import Derived.Test.YtmaigpiappmpcaaKCalls
namespace Go.Proofs.Ytmaigpiappmpcaa
set_option linter.unusedVariables false
set_option linter.unusedSimpArgs false
open Go.RowKit

section
variable {P : Program} {γ : Gh} {h0 : Nat → Nat} {io : List Nat} {w0 : World} {s s' : St} {f : Fm} {w w' : World} {N : Nat} {num : Nat → FuncId} {K' : Fm → World → Prop}
  {cf : Nat → List A → Option (List A × List A)} {mf : Nat → Bool → List D → Int → Option (List D × Int)}

theorem cellM_rel (hi : Inv γ h0 io w0 s f w) {c : C} {v : Value} {x : D} (hc : CR γ w c v) (hx : cellM s c = some x) :
    ∃ G, Rp w x v G ∧ (G.map Prod.fst).Nodup ∧ (∀ be ∈ G, ∃ r ∈ rowsOf [c], γ.ω be.1 = .row r ∧ γ.h be.1 = 0 ∧ Thaw w be.1) ∧
      ∀ r row, c = .ref r → look s.rw r = some row → ∀ w' es', Rp w' (.list row.k row.fl es') v G → (∀ g, Thaw w g → Thaw w' g) → w.heap.size ≤ w'.heap.size → (x.plain = false) →
        ∃ F, RowR γ.h w' ⟨es', row.k, row.fl, true, false, false⟩ (γ.sl r) F ∧ F.Nodup ∧ ∀ g ∈ F, γ.ω g = .row r := by
  cases c with
  | d y =>
    simp only [CR] at hc
    obtain ⟨F, hF, hS⟩ := hc
    refine ⟨F, ?_⟩
    cases y with
    | list k fl es =>
      cases es with
      | nil =>
        simp only [cellM, Option.some.injEq] at hx
        subst hx
        have hF0 : F = [] := by
          simp only [Rp] at hF
          obtain ⟨A, n, cc, _, hn, _, _, _, _, _, h | ⟨hp, _⟩⟩ := hF
          · exact h.2
          · simp at hn; omega
        subst hF0
        exact ⟨hF, by simp, fun be hb => by simp at hb, fun r row e => by cases e⟩
      | cons e es => simp [cellM] at hx
    | int k n => simp only [cellM, Option.some.injEq] at hx; subst hx; have : F = [] := by (simp only [Rp] at hF; exact hF.2.1)
                 subst this; exact ⟨hF, by simp, fun be hb => by simp at hb, fun r row e => by cases e⟩
    | bool b => simp only [cellM, Option.some.injEq] at hx; subst hx; have : F = [] := by (simp only [Rp] at hF; exact hF.2)
                subst this; exact ⟨hF, by simp, fun be hb => by simp at hb, fun r row e => by cases e⟩
    | str b => simp only [cellM, Option.some.injEq] at hx; subst hx; have : F = [] := by (simp only [Rp] at hF; exact hF.2.1)
               subst this; exact ⟨hF, by simp, fun be hb => by simp at hb, fun r row e => by cases e⟩
  | nil k fl =>
    simp only [cellM, Option.some.injEq] at hx
    subst hx
    simp only [CR] at hc
    refine ⟨[], ?_, by simp, fun be hb => by simp at hb, fun r row e => by cases e⟩
    simp only [Rp]
    exact ⟨none, 0, 0, hc.1, rfl, Nat.le_refl _, by simp [maxLen], fun _ => flat_nil, hc.2, fun e he => by simp at he, .inl ⟨rfl, trivial⟩⟩
  | ref r =>
    simp only [CR] at hc
    obtain ⟨hv, _⟩ := hc
    simp only [cellM] at hx
    split at hx
    · rename_i row hl
      split at hx
      · rename_i hdz
        simp only [Option.some.injEq] at hx
        subst hx
        obtain ⟨F, hR, hnd, hω⟩ := hi.rw r row hl
        obtain ⟨A, n, c, q1, q2, q3, q4, q5, q6, q7, q8⟩ := hR
        rcases q8 with ⟨rfl, rfl, rfl⟩ | ⟨g, o, xs, G, rfl, a2, a3, a4, a5, a6, a7, a8, a9, a10⟩
        · have hn0 : n = 0 := by omega
          refine ⟨[], ?_, by simp, fun be hb => by simp at hb, fun r' row' e hl' w' es' hR' _ _ _ => ?_⟩
          · simp only [Rp]
            exact ⟨none, n, 0, hv.trans q1, q2, q3, q4, q7, q5, q6, .inl ⟨hn0, trivial⟩⟩
          · cases e
            rw [hl] at hl'
            cases hl'
            simp only [Rp] at hR'
            obtain ⟨A', n', c', e1, e2, e3, e4, e5, e6, e7, _⟩ := hR'
            rw [hv, q1] at e1
            cases e1
            exact ⟨[], ⟨none, n, 0, q1, e2, q3, q4, e6, e7, e5, .inl ⟨rfl, rfl, rfl⟩⟩, by simp, fun g hg => by simp at hg⟩
        · obtain ⟨eF, hz⟩ := a9 hdz.1
          have hgω : γ.ω g = .row r := hω g (by rw [eF]; simp)
          by_cases hn0 : n = 0
          · refine ⟨[], ?_, by simp, fun be hb => by simp at hb, fun r' row' e hl' w' es' hR' hth hsz _ => ?_⟩
            · simp only [Rp]
              exact ⟨_, n, c, hv.trans q1, q2, q3, q4, q7, q5, q6, .inl ⟨hn0, trivial⟩⟩
            · cases e
              rw [hl] at hl'
              cases hl'
              simp only [Rp] at hR'
              obtain ⟨A', n', c', e1, e2, e3, e4, e5, e6, e7, _⟩ := hR'
              rw [hv, q1] at e1
              cases e1
              have hes : es' = [] := List.length_eq_zero_iff.1 (by omega)
              subst hes
              exact ⟨[g], ⟨_, n, c, q1, e2, q3, q4, e6, e7, e5, .inr ⟨g, o, [], [], rfl, by omega, hth g a3, by simp [RpE], fun j u hu => by simp at hu, by rw [a7 hdz.2]; omega, fun _ => a7 hdz.2, (fun h => by cases h), fun _ => ⟨rfl, fun be hb => by simp at hb⟩, (fun h => by cases h)⟩⟩, by simp, fun y hy => by simp at hy; rw [hy]; exact hgω⟩
          · refine ⟨(g, o + n * row.k) :: G, ?_, by simpa [eF] using hnd, fun be hb => ?_, fun r' row' e hl' w' es' hR' hth hsz _ => ?_⟩
            · simp only [Rp]
              exact ⟨_, n, c, hv.trans q1, q2, q3, q4, q7, q5, q6, .inr ⟨by omega, g, o, xs, G, rfl, rfl, a4, a5⟩⟩
            · rcases List.mem_cons.1 hb with rfl | hb
              · exact ⟨r, by simp [rowsOf], hgω, a7 hdz.2, a3⟩
              · exact ⟨r, by simp [rowsOf], hω _ (by rw [eF]; exact List.mem_cons_of_mem _ (List.mem_map_of_mem hb)), (hz be hb).1, (hz be hb).2⟩
            · cases e
              rw [hl] at hl'
              cases hl'
              simp only [Rp] at hR'
              obtain ⟨A', n', c', e1, e2, e3, e4, e5, e6, e7, e8⟩ := hR'
              rw [hv, q1] at e1
              cases e1
              rcases e8 with ⟨e8, _⟩ | ⟨_, b', o', xs', G', e9, e10, e11, e12⟩
              · omega
              · cases e9
                simp only [List.cons.injEq, true_and] at e10
                subst e10
                refine ⟨g :: G.map Prod.fst, ⟨_, n, c, q1, e2, q3, q4, e6, e7, e5, .inr ⟨g, o, xs', G, rfl, by omega, hth g a3, e11, e12, by rw [a7 hdz.2]; omega, fun _ => a7 hdz.2, (fun h => by cases h), fun _ => ⟨rfl, fun be hb => ⟨(hz be hb).1, hth _ (hz be hb).2⟩⟩, (fun h => by cases h)⟩⟩, by rw [← eF]; exact hnd, fun y hy => hω y (by rw [eF]; exact hy)⟩
      · cases hx
    · cases hx
  | ptr b o => simp [cellM] at hx
  | ept r k i o => simp [cellM] at hx
  | dpt cs => simp [cellM] at hx
  | agg cs => simp [cellM] at hx
  | tup cs => simp [cellM] at hx
  | und => simp [cellM] at hx
  | any => simp [cellM] at hx

theorem cellsM_rel (hi : Inv γ h0 io w0 s f w) : ∀ (cs : List C) {vs : List Value} {ds : List D}, CRs γ w cs vs → cellsM s cs = some ds →
    ∃ Fs, RpL w ds vs Fs ∧ (∀ G ∈ Fs, ∀ be ∈ G, ∃ r ∈ rowsOf cs, γ.ω be.1 = .row r ∧ γ.h be.1 = 0 ∧ Thaw w be.1) ∧ ((rowsOf cs).Nodup → (Fs.flatten.map Prod.fst).Nodup) ∧
      ∀ w' ds' acc acc', RpL w' ds' vs Fs → (∀ g, Thaw w g → Thaw w' g) → w.heap.size ≤ w'.heap.size → backM s cs ds' acc = some acc' → acc'.sl = acc.sl ∧ acc'.bx = acc.bx ∧
        ∀ q x, look acc'.rw q = some x → look acc.rw q = some x ∨ (q ∈ rowsOf cs ∧ ∃ F, RowR γ.h w' x (γ.sl q) F ∧ F.Nodup ∧ ∀ g ∈ F, γ.ω g = .row q)
  | [], vs, ds, hc, hd => by
    simp only [cellsM, Option.some.injEq] at hd
    subst hd
    simp only [CRs] at hc
    subst hc
    refine ⟨[], by simp [RpL], fun G hG => by simp at hG, fun _ => by simp, fun w' ds' acc acc' hr _ _ hb => ?_⟩
    cases ds' with
    | nil => simp only [backM, Option.some.injEq] at hb; subst hb; exact ⟨rfl, rfl, fun q x h => .inl h⟩
    | cons d ds => simp [backM] at hb
  | c :: cs, vs, ds, hc, hd => by
    simp only [cellsM] at hd
    split at hd
    · rename_i x hx
      simp only [Option.map_eq_some_iff] at hd
      obtain ⟨ds0, hd, rfl⟩ := hd
      simp only [CRs] at hc
      obtain ⟨v, vs', rfl, hv, hvs⟩ := hc
      obtain ⟨G0, k1, k2, k3, k4⟩ := cellM_rel hi hv hx
      obtain ⟨Fs, l1, l2, l3, l4⟩ := cellsM_rel hi cs hvs hd
      have hrow : ∀ r ∈ rowsOf [c], rowsOf (c :: cs) = r :: rowsOf cs := fun r hr => by
        cases c <;> simp [rowsOf] at hr ⊢
        exact hr.symm
      have hsub : ∀ r ∈ rowsOf cs, r ∈ rowsOf (c :: cs) := fun r hr => by
        cases c <;> simp [rowsOf, hr]
      refine ⟨G0 :: Fs, by simp only [RpL]; exact ⟨v, vs', G0, Fs, rfl, rfl, k1, l1⟩, fun G hG be hb => ?_, fun hn => ?_, fun w' ds' acc acc' hr hth hsz hb => ?_⟩
      · rcases List.mem_cons.1 hG with rfl | hG
        · obtain ⟨r, hr, h1⟩ := k3 be hb
          exact ⟨r, by rw [hrow r hr]; simp, h1⟩
        · obtain ⟨r, hr, h1⟩ := l2 G hG be hb
          exact ⟨r, hsub r hr, h1⟩
      · have hn' : (rowsOf cs).Nodup := by
          cases c <;> simp [rowsOf] at hn <;> first | exact hn | exact hn.2
        rw [List.flatten_cons, List.map_append, List.nodup_append]
        refine ⟨k2, l3 hn', ?_⟩
        intro a ha b hb e
        subst e
        obtain ⟨be, hbe, rfl⟩ := List.mem_map.1 ha
        obtain ⟨be', hbe', e⟩ := List.mem_map.1 hb
        obtain ⟨G, hG, hbe'⟩ := List.mem_flatten.1 hbe'
        obtain ⟨r, hr, h1, _⟩ := k3 be hbe
        obtain ⟨q, hq, h2, _⟩ := l2 G hG be' hbe'
        rw [e, h1] at h2
        cases h2
        rw [hrow r hr] at hn
        exact (List.nodup_cons.1 hn).1 hq
      · cases ds' with
        | nil => simp only [RpL] at hr; cases hr.1
        | cons d' ds' =>
          simp only [RpL] at hr
          obtain ⟨v', vs'', F', Fs', e1, e2, hr1, hr2⟩ := hr
          cases e1
          cases e2
          have other : (∀ r, c ≠ .ref r) → backM s cs ds' acc = some acc' → acc'.sl = acc.sl ∧ acc'.bx = acc.bx ∧ ∀ q x, look acc'.rw q = some x → look acc.rw q = some x ∨ (q ∈ rowsOf (c :: cs) ∧ ∃ F, RowR γ.h w' x (γ.sl q) F ∧ F.Nodup ∧ ∀ g ∈ F, γ.ω g = .row q) := by
            intro _ hb
            obtain ⟨m1, m2, m3⟩ := l4 w' ds' acc acc' hr2 hth hsz hb
            exact ⟨m1, m2, fun q x h => (m3 q x h).imp id (fun h => ⟨hsub q h.1, h.2⟩)⟩
          cases c with
          | ref r =>
            cases d' with
            | list k fl es =>
              simp only [backM] at hb
              split at hb
              · rename_i row hl
                split at hb
                · rename_i hkf
                  obtain ⟨rfl, rfl⟩ := hkf
                  have hpx : x.plain = false := by
                    simp only [cellM, hl] at hx
                    split at hx
                    · simp only [Option.some.injEq] at hx; rw [← hx]; rfl
                    · cases hx
                  obtain ⟨m1, m2, m3⟩ := l4 w' ds' _ acc' hr2 hth hsz hb
                  obtain ⟨F, n1, n2, n3⟩ := k4 r row rfl hl w' es hr1 hth hsz hpx
                  refine ⟨m1, m2, fun q y h => ?_⟩
                  rcases m3 q y h with h5 | h
                  · rw [look_setRow] at h5
                    clear h
                    split at h5
                    · rename_i hq
                      subst hq
                      cases h5
                      exact .inr ⟨by simp [rowsOf], F, n1, n2, n3⟩
                    · exact .inl h5
                  · exact .inr ⟨hsub q h.1, h.2⟩
                · cases hb
              · cases hb
            | int _ _ => simp [backM] at hb
            | bool _ => simp [backM] at hb
            | str _ => simp [backM] at hb
          | d y => exact other (fun r h => by cases h) (by simpa [backM] using hb)
          | nil k fl => exact other (fun r h => by cases h) (by simpa [backM] using hb)
          | ptr b o => simp [cellM] at hx
          | ept r k i o => simp [cellM] at hx
          | dpt cs => simp [cellM] at hx
          | agg cs => simp [cellM] at hx
          | tup cs => simp [cellM] at hx
          | und => simp [cellM] at hx
          | any => simp [cellM] at hx
    · cases hd

variable {ty : TypeId} {pos : String} {aft : Array Edge} {gd : Option (Nat × Bool)}
/-- a call that marks -/
theorem n_mark (hi : Inv γ h0 io w0 s f w) {g : Nat} {fn : Func} (hfn : P.funcs[num g]? = some fn) (hbd : fn.body.isSome = true) (hnm : (fn.name == "runtime.NumGoroutine") = false) {x x2 : Operand} {y y2 : KX} {ts : Array TypeId} (hx : okX N x y = true) (hx2 : okX N x2 y2 = true)
    (hmf : ∀ ag ds q ds' q', mf g ag ds q = some (ds', q') → MarkOk P (num g) ag ds q ds' q') {d : Nat} (he : evN cf mf s (some d) (.mrk g y y2) = some s') (hK : ∀ γ' f' w', Inv γ' h0 io w0 s' f' w' → Tr (some d) (touch s (some d) (.mrk g y y2)) γ w γ' w' f f' → K' f' w') :
    Op1 P N ⟨some d, .call { callee := .value (.func (num g)), args := #[x, x2], argTypes := ts }, ty, pos, aft, gd⟩ f w K' := by
  simp only [evN] at he
  split at he
  · rename_i d0 q hd0 hq
    cases hd0
    split at he
    · rename_i ds hds
      split at he
      · rename_i hnd
        rw [nodupB_iff] at hnd
        split at he
        · rename_i ds' q' hmfe
          simp only [Option.map_eq_some_iff] at he
          obtain ⟨acc, hb, rfl⟩ := he
          have hr2 := evX_rel hi hx2
          rw [hq] at hr2
          obtain ⟨hqv, hqw⟩ := cr_int hr2
          have hcell : (evX s y).cells.all C.cell = true := by
            have : ∀ (cs : List C) {ds : List D}, cellsM s cs = some ds → cs.all C.cell = true := by
              intro cs
              induction cs with
              | nil => intro ds _; rfl
              | cons c cs ih =>
                intro ds h
                simp only [cellsM] at h
                split at h
                · rename_i z hz
                  simp only [Option.map_eq_some_iff] at h
                  obtain ⟨ds1, h1, _⟩ := h
                  simp only [List.all_cons, ih h1, Bool.and_true]
                  cases c <;> simp [cellM] at hz <;> rfl
                · cases h
            exact this _ hds
          obtain ⟨c1, c2, c3⟩ := (evX_rel hi hx).cells hcell
          obtain ⟨Fs, l1, l2, l3, l4⟩ := cellsM_rel hi _ c1 hds
          have hFb : ∀ z ∈ Fs.flatten.map Prod.fst, ∃ r ∈ rowsOf (evX s y).cells, γ.ω z = .row r := fun z hz => by
            obtain ⟨be, hbe, rfl⟩ := List.mem_map.1 hz
            obtain ⟨G, hG, hbe⟩ := List.mem_flatten.1 hbe
            obtain ⟨r, hr, h1, _⟩ := l2 G hG be hbe
            exact ⟨r, hr, h1⟩
          have hcall := hmf _ _ _ _ _ hmfe w γ.h ((fr f N).eval x) _ Fs l1 (fun hag => by
              obtain ⟨vs, e⟩ := c3 hag
              rw [e]
              simp [Value.cells]) (fun hag => by rw [c2 hag]) hqw (l3 hnd) (fun G hG be hbe => by
              obtain ⟨r, _, _, h1, h2⟩ := l2 G hG be hbe
              exact ⟨h1, h2⟩) hi.hnew
          refine o_call (x_call (callFunc_run hfn hbd hnm) rfl (a2 rfl hqv)) hcall fun e w' hp => ?_
          obtain ⟨rfl, hqw', hr', _, hch⟩ := hp
          refine ⟨_, rfl, ?_⟩
          have hadv : Adv γ (fun o => ∃ i ∈ rowsOf (evX s y).cells, o = .row i) w w' := {
            os := hch.os, tape := hch.tape, output := hch.output, size := hch.size
            block := fun z hz hn => hch.block z hz (fun hF => by
              obtain ⟨r, hr, h1⟩ := hFb z hF
              exact hn ⟨r, hr, h1⟩)
            cell := fun z j hj => by
              rcases Nat.lt_or_ge z w.heap.size with hl | hl
              · exact hch.cell z j hl hj
              · have := hi.hnew z hl; omega
            thaw := hch.thaw, kthaw := hch.kthaw }
          have hlk : ∀ r ∈ rowsOf (evX s y).cells, look (dropRows s (rowsOf (evX s y).cells)).rw r = none := fun r hr => by rw [look_dropRows, if_pos hr]
          have i0 : Inv γ h0 io w0 (dropRows s (rowsOf (evX s y).cells)) f w := hi.sub (fun e c hl => by rw [(dropRows_sl _ _).1] at hl; exact hl) (fun e c hl => by rw [(dropRows_sl _ _).2] at hl; exact hl) (fun e c hl => by
            rw [look_dropRows] at hl
            split at hl
            · cases hl
            · exact hl)
          have i1 := i0.adv hadv (by rintro ⟨r, _, h⟩; cases h) (fun b h => by obtain ⟨r, _, h⟩ := h; cases h) (fun r h => by obtain ⟨r', hr', h⟩ := h; cases h; exact hlk r hr')
          obtain ⟨m1, m2, m3⟩ := l4 w' ds' _ acc hr' hch.kthaw hch.size hb
          have i2 : Inv γ h0 io w0 acc f w' := { i1 with
            sl := fun e c hl => i1.sl e c (by rw [← m1]; exact hl)
            bx := fun e c hl => i1.bx e c (by rw [← m2]; exact hl)
            rw := fun r z hl => by
              rcases m3 r z hl with h | ⟨_, h⟩
              · exact i1.rw r z h
              · exact h }
          refine hK γ _ w' (i2.put d _ _ (rp_int hqw')) ⟨⟨hadv.os, hadv.tape, hadv.output, hadv.size, fun z hz hn => hadv.block z hz (fun h => hn ?_), hadv.cell, hadv.thaw, hadv.kthaw⟩, fun _ _ => rfl, fun _ => Nat.le_refl _, .put⟩
          obtain ⟨r, hr, h⟩ := h
          exact ⟨r, hr, .inr h⟩
        · cases he
      · cases he
    · cases he
  · cases he
end
end Go.Proofs.Ytmaigpiappmpcaa
