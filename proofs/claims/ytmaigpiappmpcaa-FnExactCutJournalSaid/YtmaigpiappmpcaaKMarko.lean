/-
  The machine for marks does what the program does: operations, code, functions (evM_sound). No program is named here.
-/
import Derived.Test.YtmaigpiappmpcaaKMarkc
namespace Go.Proofs.Ytmaigpiappmpcaa
set_option linter.unusedVariables false
set_option linter.unusedSimpArgs false
open Go.RowKit

section
variable {P : Program} {N : Nat} {t : Tree} {own : Bool} {h : Nat → Nat} {F : List Nat} {w0 : World} {m m' : MS} {f : Fm} {w w' : World} {num : Nat → FuncId} {cf : Nat → List A → Option (List A × List A)} {mf : Nat → Bool → List D → Int → Option (List D × Int)} {K' : Fm → World → Prop} {d : Nat} {ty : TypeId} {pos : String} {aft : Array Edge} {gd : Option (Nat × Bool)}

theorem MT.at_ (hm : MT t w m.es) {i o : Nat} {x : D} (hx : m.at_ i o = some x) {xs : List Value} (hr : RpL w m.es.flatten xs t.Fs) : ∃ e v, nth m.es i = some e ∧ o + 1 ≤ t.k ∧ (e.drop o).take 1 = [x] ∧ xs[i * t.k + o]? = some v ∧ (xs.drop (i * t.k + o)).take 1 = [v] ∧ t.pl[i * t.k + o]? = some (D.plain x) ∧ 0 < t.n := by
  obtain ⟨h1, h2, h3, _⟩ := hm
  unfold MS.at_ at hx
  split at hx
  · rename_i e he
    have hel : e.length = t.k := h2 e (List.mem_of_getElem? (by rw [← nth_get]; exact he))
    rw [nth_get] at hx
    have ho := (List.getElem?_eq_some_iff.1 hx).1
    have e1 : (e.drop o).take 1 = [x] := by rw [List.take_one, List.head?_drop, hx]; rfl
    obtain ⟨f1, f2⟩ := flat_sub m.es i o 1 e h2 he (by omega)
    rw [e1] at f1
    have hl := (RpL.length _ hr).1
    have hlt : i * t.k + o < xs.length := by omega
    have hpos : 0 < t.n := by
      rw [← h1]
      have := (List.getElem?_eq_some_iff.1 (by rw [← nth_get]; exact he : m.es[i]? = some e)).1
      omega
    refine ⟨e, xs[i * t.k + o], he, by omega, e1, by simp [hlt], ?_, ?_, hpos⟩
    · rw [List.take_one, List.head?_drop]; simp [hlt]
    · rw [← h3, List.getElem?_map]
      have : m.es.flatten[i * t.k + o]? = some x := by
        rw [List.take_one, List.head?_drop] at f1
        cases hh : m.es.flatten[i * t.k + o]? with
        | none => rw [hh] at f1; cases f1
        | some y => rw [hh] at f1; simp at f1; rw [f1]
      rw [this]; rfl
  · cases hx

theorem m1_sound (hcf : ∀ g a r o, cf g a = some (r, o) → CallOk P (num g) a r o) (hmf : ∀ g ag ds q ds' q', mf g ag ds q = some (ds', q') → MarkOk P (num g) ag ds q ds' q') (hi : MInv t h F w0 m f w) (hk : Tok t own h F w0) {op : Op} {kop : KO} (hop : (if kop.pure_ then okP P N op kop else okN P N num op (some d) kop) = true) (he : evM1 cf mf t.k m d kop = some m')
    (hK : ∀ f' w', MInv t h F w0 m' f' w' → K' f' w') : Op1 P N ⟨some d, op, ty, pos, aft, gd⟩ f w K' := by
  have valS : ∀ {c : MC} {v : Value}, m' = m.putS d c → SpR t w c v → (execOp (fr f N).eval ⟨some d, op, ty, pos, aft, gd⟩).run P w = .ok (.value v) w → Op1 P N ⟨some d, op, ty, pos, aft, gd⟩ f w K' := by
    intro c v e hv hr
    exact o_val hr (hK _ _ (by rw [e]; exact hi.putS hv))
  have valC : ∀ {c : C} {v : Value}, m' = m.put d c → CR (γM h F) w c v → (execOp (fr f N).eval ⟨some d, op, ty, pos, aft, gd⟩).run P w = .ok (.value v) w → Op1 P N ⟨some d, op, ty, pos, aft, gd⟩ f w K' := by
    intro c v e hv hr
    exact o_val hr (hK _ _ (by rw [e]; exact hi.put hv))
  unfold evM1 at he
  split at he
  · rename_i y
    simp only [KO.pure_, if_true] at hop
    have key : ∃ x, okX N x y = true ∧ (execOp (fr f N).eval ⟨some d, op, ty, pos, aft, gd⟩).run P w = .ok (.value ((fr f N).eval x)) w := by
      unfold okP at hop
      split at hop <;> first | (cases hop; done) | skip
      all_goals first
        | (rename_i x y' heq; cases heq; exact ⟨x, hop, x_move rfl⟩)
        | (rename_i x y' heq; cases heq; exact ⟨x, hop, x_assign rfl⟩)
        | (rename_i heq; cases heq)
        | skip
    obtain ⟨x, hx, hr⟩ := key
    split at he
    · rename_i c hc
      simp only [Option.some.injEq] at he
      exact valS he.symm (spx_rel hi hx hc) hr
    · simp only [Option.some.injEq] at he
      exact valC he.symm (evX_rel hi.inv hx) hr
  · rename_i y
    simp only [KO.pure_, if_true] at hop
    split at he
    · rename_i hc
      simp only [Option.some.injEq] at he
      cases op <;> first | (exfalso; simp [okP] at hop; done) | skip
      rename_i c0
      simp only [okP] at hop
      split at hop
      · rename_i x T hc1 hc2 hc3
        simp only [Bool.and_eq_true] at hop
        obtain ⟨h1, h2⟩ := hop
        obtain ⟨cal, args, ats⟩ := c0
        simp only at hc1 hc2 hc3
        subst hc1
        have ea : args = #[x] := by rw [← hc2]
        have et : ats = #[T] := by rw [← hc3]
        subst ea et
        obtain ⟨A, c, hv, _, hmx⟩ := spx_rel hi h1 hc
        unfold isSl at h2
        split at h2
        · rename_i E hu
          refine valC he.symm ?_ (x_len hu hv)
          rw [hi.mt.1]
          exact rp_int (i64_wrap (by simp [maxLen] at hmx; omega))
        · cases h2
      · cases hop
    · cases he
  · rename_i k' y j
    simp only [KO.pure_, if_true] at hop
    split at he
    · rename_i n hc hn
      split at he
      · rename_i hcc
        obtain ⟨rfl, hn0, hnl⟩ := hcc
        simp only [Option.some.injEq] at he
        cases op <;> first | (exfalso; simp [okP] at hop; done) | skip
        rename_i T x ix
        simp only [okP, Bool.and_eq_true] at hop
        obtain ⟨⟨hx, hj⟩, hty⟩ := hop
        have hrj := evX_rel hi.inv hj
        rw [hn] at hrj
        obtain ⟨hjv, _⟩ := cr_int hrj
        obtain ⟨A, c, hv, hA, _⟩ := spx_rel hi hx hc
        unfold sliceB at hty
        split at hty
        · rename_i E hu
          simp only [beq_iff_eq] at hty
          have hA' : A = some ⟨t.g, t.p, none⟩ := by
            rcases hA with h | h
            · have := hi.mt.1; omega
            · exact h
          refine valS he.symm ?_ (x_index' hu (fun w => run_sizeOf hty w) hv hA' hjv (i := n.toNat) (by omega) (by rw [← hi.mt.1]; exact hnl))
          simp only [SpR, Nat.add_zero]
        · cases hty
      · cases he
    · cases he
  · rename_i o y
    simp only [KO.pure_, if_true] at hop
    split at he
    · rename_i i p hc
      simp only [Option.some.injEq] at he
      cases op <;> first | (exfalso; simp [okP] at hop; done) | skip
      rename_i T x fi
      simp only [okP, Bool.and_eq_true] at hop
      obtain ⟨hx, hty⟩ := hop
      have hv := spx_rel hi hx hc
      simp only [SpR] at hv
      unfold fieldB at hty
      split at hty
      · rename_i fs hu
        split at hty
        · rename_i fd hfd
          simp only [Bool.and_eq_true, beq_iff_eq] at hty
          obtain ⟨ho, hsz⟩ := hty
          split at hsz
          · rename_i n hn
            simp only [Nat.blt_eq] at hsz
            obtain ⟨q, rfl⟩ : ∃ q, n = q + 1 := ⟨n - 1, by omega⟩
            refine valS he.symm ?_ (x_field hu hfd (fun w => run_sizeOf hn w) ho hv)
            simp only [SpR]
            rw [Nat.add_assoc, Nat.add_assoc]
          · cases hsz
        · cases hty
      · cases hty
    · cases he
  · rename_i n y
    simp only [KO.pure_, if_true] at hop
    split at he
    · rename_i i o hc
      cases op <;> first | (exfalso; simp [okP] at hop; done) | skip
      rename_i T x
      simp only [okP, Bool.and_eq_true] at hop
      obtain ⟨hx, hty⟩ := hop
      have hv := spx_rel hi hx hc
      simp only [SpR] at hv
      obtain ⟨h1, h2, h3, xs, hr, hL, hV⟩ := hi.mt
      split at he
      · rename_i hn
        subst hn
        simp only [if_true, beq_iff_eq] at hty
        split at he
        · rename_i lk lf les hat
          simp only [Option.some.injEq] at he
          obtain ⟨e, v, q1, q2, q3, q4, q5, q6, q7⟩ := hi.mt.at_ hat hr
          refine valS he.symm ?_ (x_load (v := v) (fun w => run_isAgg hty w) hv (hL _ v q4))
          simp only [SpR]
          rw [← hV.1 _ q6]; exact q4
        · cases he
      · rename_i hn
        simp only [if_neg hn, Bool.and_eq_true, beq_iff_eq] at hty
        split at he
        · rename_i e hne
          split at he
          · rename_i hle
            simp only [Option.some.injEq] at he
            have hel : e.length = t.k := h2 e (List.mem_of_getElem? (by rw [← nth_get]; exact hne))
            obtain ⟨f1, f2⟩ := flat_sub m.es i o n e h2 hne (by omega)
            have hl := (RpL.length _ hr).1
            have hlies : Lies w t.g (t.p + (i * t.k + o)) ((xs.drop (i * t.k + o)).take n) := hL.sub _ _
            have hlen : ((xs.drop (i * t.k + o)).take n).length = n := by simp; omega
            refine valS he.symm ?_ (x_loadN (fun w => run_isAgg hty.1 w) (fun w => run_sizeOf hty.2 w) hv hlen hlies)
            have hpos : 0 < t.n := by
              rw [← h1]
              have := (List.getElem?_eq_some_iff.1 (by rw [← nth_get]; exact hne : m.es[i]? = some e)).1
              omega
            exact ⟨hpos, _, rfl, hlen, hlies⟩
          · cases he
        · cases he
    · cases he
  · rename_i g xs
    simp only [KO.pure_, Bool.false_eq_true, if_false] at hop
    cases op <;> first | (exfalso; simp [okN] at hop; done) | skip
    rename_i c0
    simp only [okN] at hop
    split at hop
    · rename_i F0 hc1
      simp only [Bool.and_eq_true, beq_iff_eq] at hop
      obtain ⟨⟨rfl, hcal⟩, hxs⟩ := hop
      obtain ⟨cal, args, ats⟩ := c0
      simp only at hc1 hxs
      subst hc1
      split at he
      · rename_i y y2
        split at he
        · rename_i c hc
          obtain ⟨l, hl⟩ : ∃ l, args.toList = l := ⟨_, rfl⟩
          rw [hl] at hxs
          match l, hxs with
          | [], h => simp [okXs] at h
          | [_], h => simp [okXs] at h
          | _ :: _ :: _ :: _, h => simp [okXs] at h
          | [x, x2], hxs =>
            simp only [okXs, Bool.and_eq_true] at hxs
            have ea : args = #[x, x2] := by rw [← hl]
            subst ea
            have hsp := spx_rel hi hxs.1 hc
            unfold evMm at he
            split at he
            · rename_i i o q hq
              have hr2 := evX_rel hi.inv hxs.2.1
              rw [hq] at hr2
              obtain ⟨hqv, hqw⟩ := cr_int hr2
              split at he
              · rename_i lk lf les hat
                split at he
                · rename_i x1 q1 hm1
                  simp only [Option.some.injEq] at he
                  subst he
                  obtain ⟨_, _, _, xs0, hr0, _, _⟩ := hi.mt
                  obtain ⟨e, v0, p1, p2, p3, p4, p5, p6, p7⟩ := hi.mt.at_ hat hr0
                  have hMk := hmf _ _ _ _ _ _ hm1
                  rw [← p3] at hMk
                  refine m_range hi hk p1 p2 hMk hcal (a2 rfl hqv) hqw (fun xs hx hL hV => ⟨fun h => by (cases h), fun _ => ?_⟩) hK
                  obtain ⟨e', v', r1, r2, r3, r4, r5, r6, r7⟩ := hi.mt.at_ hat hx
                  rw [r5]
                  simp only [SpR] at hsp
                  have := hV.1 _ r6
                  rw [r4, hsp] at this
                  rw [Option.some.inj this]
                · cases he
              · cases he
            · rename_i i o n q hq
              have hr2 := evX_rel hi.inv hxs.2.1
              rw [hq] at hr2
              obtain ⟨hqv, hqw⟩ := cr_int hr2
              split at he
              · rename_i e hne
                split at he
                · rename_i ds' q1 hm1
                  split at he
                  · rename_i hle
                    simp only [Option.some.injEq] at he
                    subst he
                    obtain ⟨h1, h2, _⟩ := hi.mt
                    have hel : e.length = t.k := h2 e (List.mem_of_getElem? (by rw [← nth_get]; exact hne))
                    refine m_range hi hk hne (by omega) (hmf _ _ _ _ _ _ hm1) hcal (a2 rfl hqv) hqw (fun xs hx hL hV => ⟨fun _ => ?_, fun h => by (cases h)⟩) hK
                    simp only [SpR] at hsp
                    obtain ⟨_, vs, hv, hvl, hvL⟩ := hsp
                    rw [hv]
                    obtain ⟨f1, f2⟩ := flat_sub m.es i o n e h2 hne (by omega)
                    have hl := (RpL.length _ hx).1
                    congr 2
                    apply List.ext_getElem?
                    intro z
                    by_cases hz : z < n
                    · have hz1 : z < vs.length := by omega
                      have hz2 : i * t.k + o + z < xs.length := by omega
                      have c1 := hvL z vs[z] (by simp [hz1])
                      have c2 := hL (i * t.k + o + z) xs[i * t.k + o + z] (by simp [hz2])
                      rw [Nat.add_assoc t.p, c2] at c1
                      have c3 := Option.some.inj c1
                      simp [List.getElem?_take, hz, List.getElem?_drop, hz1, hz2, c3]
                    · rw [List.getElem?_eq_none (by omega), List.getElem?_eq_none (by simp; omega)]
                  · cases he
                · cases he
              · cases he
            · cases he
        · exact m_plain hcf hi hk hcal hxs he hK
      · exact m_plain hcf hi hk hcal hxs he hK
    · cases hop
  · split at he
    · rename_i hp
      simp only [hp, if_true] at hop
      simp only [Option.map_eq_some_iff] at he
      obtain ⟨c, hc, he⟩ := he
      obtain ⟨v, k1, k2⟩ := pure_sound (dst := some d) (ty := ty) (pos := pos) (aft := aft) (gd := gd) hi.inv hop hc
      exact valC he.symm k1 (k2 w (fun _ => Sames.refl _ _ _))
    · cases he

theorem m0_sound (hi : MInv t h F w0 m f w) (hk : Tok t own h F w0) {op : Op} {kop : KO} (hop : (if kop.pure_ then false else okN P N num op none kop) = true) (he : evM0 own m kop = some m')
    (hK : ∀ f' w', MInv t h F w0 m' f' w' → K' f' w') : Op1 P N ⟨none, op, ty, pos, aft, gd⟩ f w K' := by
  unfold evM0 at he
  split at he
  · rename_i n a b
    simp only [KO.pure_, Bool.false_eq_true, if_false] at hop
    split at he
    · rename_i i o x hc hb
      split at he
      · rename_i c hat
        split at he
        · rename_i hcc
          obtain ⟨rfl, hown, hpc, hpv⟩ := hcc
          simp only [Option.some.injEq] at he
          subst he
          cases op <;> first | (exfalso; simp [okN] at hop; done) | skip
          rename_i T xa xv
          simp only [okN, Bool.and_eq_true, beq_iff_eq] at hop
          obtain ⟨⟨hT, hxa⟩, hxv⟩ := hop
          have hv := spx_rel hi hxa hc
          simp only [SpR] at hv
          have hr := evX_rel hi.inv hxv
          rw [hb] at hr
          simp only [CR] at hr
          obtain ⟨G, hG, _⟩ := hr
          obtain ⟨h1, h2, h3, xs, hx, hL, hV⟩ := hi.mt
          obtain ⟨e, u, q1, q2, q3, q4, q5, q6, q7⟩ := hi.mt.at_ hat hx
          have hgF : t.g ∈ F := by
            rcases (hk.own hown).1 with h | h
            · omega
            · exact h
          have hcell := hL _ u q4
          have hfz := hi.inv.kthaw _ (hk.zero _ hgF).2.1 (t.p + (i * t.k + o))
          refine o_skip (x_storeC (fun w => run_sizeOf hT w) hv rfl hG.isOne hcell hfz) (hK _ _ ?_)
          generalize hval : (fr f N).eval xv = val at *
          obtain ⟨hG', rfl⟩ := hG.plainR hpv (w.setCell ⟨t.g, t.p + (i * t.k + o), none⟩ val)
          generalize hj : i * t.k + o = j at *
          have ha : Adv (γM h F) (fun o => o = .lim) w (w.setCell ⟨t.g, t.p + j, none⟩ val) := {
            os := rfl, tape := rfl, output := rfl
            size := by rw [setCell_size]; exact Nat.le_refl _
            block := fun g hg hn => setCell_heap _ _ _ _ (fun e => hn (by rw [e]; simp [hgF]))
            cell := fun g z hz => by
              by_cases hgg : g = t.g
              · subst hgg
                have := (hk.zero _ hgF).1
                simp only at hz
                omega
              · exact World.cell?_of_block (w := w) (setCell_heap _ _ _ _ hgg)
            thaw := fun g hg z => by rw [setCell_frozen]; exact frozen_out hg z
            kthaw := fun g hg z => by rw [setCell_frozen]; exact hg z }
          have hel : e.length = t.k := h2 e (List.mem_of_getElem? (by rw [← nth_get]; exact q1))
          have hflat : (m.es.set i (splC e o [x])).flatten = splC m.es.flatten j [x] := by
            rw [flat_spl m.es i o e [x] h2 q1 (by simpa using q2), hj]
          obtain ⟨f1, f2⟩ := flat_sub m.es i o 1 e h2 q1 q2
          rw [hj] at f1 f2
          obtain ⟨l1, l2⟩ := RpL.length _ hx
          have hjl : j < xs.length := by omega
          have hmt : MT t (w.setCell ⟨t.g, t.p + j, none⟩ val) (m.es.set i (splC e o [x])) := by
            refine ⟨by simp [h1], fun y hy => ?_, ?_, splC xs j [val], ?_, ?_, ?_, fun hro => by rw [(hk.own hown).2] at hro; cases hro⟩
            · rcases List.mem_or_eq_of_mem_set hy with hy | rfl
              · exact h2 y hy
              · rw [splC_length _ _ _ (by simpa using (by omega))]; exact hel
            · have hpe : [x].map D.plain = ((m.es.flatten.map D.plain).drop j).take 1 := by
                rw [← List.map_drop, ← List.map_take, f1, q3]
                simp [hpc, hpv]
              rw [hflat, map_splC, hpe, splC_same _ _ _ (by rw [List.length_map]; exact f2)]
              exact h3
            · rw [hflat]
              have hFj : (t.Fs.drop j).take 1 = [[]] := by
                have := RpL.take _ 1 (RpL.drop _ j hx)
                rw [f1, q3, q5] at this
                simp only [RpL] at this
                obtain ⟨v1, vs1, F1, Fs1, e1, e2, hR, _, rfl⟩ := this
                rw [e2, (hR.plainR hpc w).2]
              have hk1 : RpL (w.setCell ⟨t.g, t.p + j, none⟩ val) m.es.flatten xs t.Fs := RpL.keep _ hx (fun G hG be hb => setCell_heap _ _ _ _ (hk.fs G hG be hb).2)
              have := RpL.spl j hk1 (show RpL (w.setCell ⟨t.g, t.p + j, none⟩ val) [x] [val] [[]] by simp only [RpL]; exact ⟨val, [], [], [], rfl, rfl, hG', rfl, rfl⟩)
              rw [← hFj, splC_same t.Fs j 1 (by omega)] at this
              exact this
            · intro z y hz
              have hz' := hz
              simp only [splC, List.length_singleton] at hz
              by_cases hzj : z = j
              · subst hzj
                have e1 : y = val := by
                  rw [List.append_assoc, List.getElem?_append_right (by simp; omega)] at hz
                  simp [Nat.min_eq_left (by omega : z ≤ xs.length)] at hz
                  exact hz.symm
                subst e1
                exact setCell_same _ _ _ _ hcell
              · rw [setCell_cell _ _ _ _ (by omega)]
                refine hL z y ?_
                rw [List.append_assoc] at hz
                rcases Nat.lt_or_ge z j with hlt | hge
                · rw [List.getElem?_append_left (by simp; omega), List.getElem?_take, if_pos hlt] at hz
                  exact hz
                · rw [List.getElem?_append_right (by simp; omega), List.length_take, Nat.min_eq_left (by omega), List.getElem?_append_right (by simp; omega), List.getElem?_drop] at hz
                  simp only [List.length_singleton] at hz
                  rw [show j + 1 + (z - j - 1) = z by omega] at hz
                  exact hz
            · intro z hz
              have hzj : z ≠ j := fun e => by
                subst e
                rw [q6, hpc] at hz
                cases hz
              rw [← hV.1 z hz]
              simp only [splC, List.length_singleton, List.append_assoc]
              rcases Nat.lt_or_ge z j with hlt | hge
              · rw [List.getElem?_append_left (by simp; omega), List.getElem?_take, if_pos hlt]
              · rw [List.getElem?_append_right (by simp; omega), List.length_take, Nat.min_eq_left (by omega), List.getElem?_append_right (by simp; omega), List.getElem?_drop]
                simp only [List.length_singleton]
                rw [show j + 1 + (z - j - 1) = z by omega]
          have i1 := hi.go (sp' := m.sp.map fun p => (p.1, p.2.noSub)) ha hmt (fun d c hl => ?_)
          · simp only [MS.noSub, MS.set, q1]
            exact i1
          · have key : ∀ l : List (Nat × MC), look (l.map fun p => (p.1, p.2.noSub)) d = (look l d).map MC.noSub := by
              intro l
              induction l with
              | nil => rfl
              | cons p l ih =>
                simp only [List.map_cons, look, ih]
                split <;> rfl
            rw [key] at hl
            simp only [Option.map_eq_some_iff] at hl
            obtain ⟨c', hl, rfl⟩ := hl
            cases c' with
            | sub i o n => exact .inl rfl
            | _ => exact .inr ⟨hl, fun h => by simp [MC.noSub, MC.isSub] at h⟩
        · cases he
      · cases he
    · cases he
  · cases he
end
end Go.Proofs.Ytmaigpiappmpcaa
