/-
  The machine's append. No program is named here.
-/
import Derived.Test.YtmaigpiappmpcaaKOpz
namespace Go.Proofs.Ytmaigpiappmpcaa
set_option linter.unusedVariables false
set_option linter.unusedSimpArgs false
open Go.RowKit

section
variable {P : Program} {γ : Gh} {h0 : Nat → Nat} {io : List Nat} {w0 : World} {s s' : St} {f : Fm} {w : World} {N : Nat} {ty : TypeId} {pos : String} {aft : Array Edge} {gd : Option (Nat × Bool)} {K : Fm → World → Prop}
  {cf : Nat → List A → Option (List A × List A)} {mf : Nat → Bool → List D → Int → Option (List D × Int)}

theorem appSrc_rel (hi : Inv γ h0 io w0 s f w) {c : C} {u : Value} (hc : CR γ w c u) {k : Nat} {fl : Bool} {es : List (List D)} {dp : Bool} {s1 : St} (he : appSrc s k fl c = some (es, dp, s1)) :
    ∃ γ1 G news, Inv γ1 h0 io w0 s1 f w ∧ RpE w es news G ∧ Emb γ w dp G γ1 ∧ (∀ e ∈ es, e.length = k) ∧ (fl = true → flat es) ∧ ((es.length = 0 ∧ ∃ A c, u = .slice A 0 c) ∨ ∃ b o c, u = .slice (some ⟨b, o, none⟩) es.length c ∧ Lies w b o news) := by
  cases c with
  | d x =>
    cases x with
    | list k' fl' es' =>
      simp only [appSrc] at he
      split at he
      · rename_i hk
        obtain ⟨rfl, rfl⟩ := hk
        simp only [Option.some.injEq, Prod.mk.injEq] at he
        obtain ⟨rfl, rfl, rfl⟩ := he
        simp only [CR, Rp] at hc
        obtain ⟨F, ⟨A, n, c, q1, q2, q3, q4, q5, q6, q7, q8⟩, hset⟩ := hc
        rcases q8 with ⟨q8, rfl⟩ | ⟨h1, b, o, xs, G, rfl, rfl, a2, a3⟩
        · have : es' = [] := List.eq_nil_of_length_eq_zero (by omega)
          subst this
          exact ⟨γ, [], [], hi, by simp [RpE], ⟨rfl, rfl, fun _ => Nat.le_refl _, fun _ h => by simp at h, fun _ => by simp, fun _ h => ⟨h, rfl⟩, fun _ => .inl rfl⟩, q7, q5, .inl ⟨rfl, A, c, by rw [q1, q8]⟩⟩
        · refine ⟨γ, G, xs, hi, a2, ⟨rfl, rfl, fun _ => Nat.le_refl _, fun be hb => .inl (hset be (by simp [hb])), fun hf => ?_, fun _ h => ⟨h, rfl⟩, fun _ => .inl rfl⟩, q7, q5, .inr ⟨b, o, c, by rw [q1, q2], a3⟩⟩
          have : G = [] := a2.plain (q5 hf)
          subst this
          simp
      · cases he
    | _ => simp [appSrc] at he
  | nil k' fl' =>
    simp only [appSrc, Option.some.injEq, Prod.mk.injEq] at he
    obtain ⟨rfl, rfl, rfl⟩ := he
    simp only [CR] at hc
    exact ⟨γ, [], [], hi, by simp [RpE], ⟨rfl, rfl, fun _ => Nat.le_refl _, fun _ h => by simp at h, fun _ => by simp, fun _ h => ⟨h, rfl⟩, fun _ => .inl rfl⟩, fun _ h => by simp at h, fun _ => flat_nil, .inl ⟨rfl, none, 0, hc.1⟩⟩
  | ref q =>
    simp only [appSrc] at he
    split at he
    · rename_i x hx
      split at he
      · rename_i hk
        obtain ⟨rfl, rfl⟩ := hk
        simp only [Option.some.injEq, Prod.mk.injEq] at he
        obtain ⟨rfl, rfl, rfl⟩ := he
        obtain ⟨γ1, G1, i1, b1, sl1, m1, r1, s1', d1, o1, k1, w1⟩ := hi.take hx
        simp only [CR] at hc
        simp only [Rp] at r1
        obtain ⟨A, n, c, q1, q2, q3, q4, q5, q6, q7, q8⟩ := r1
        have limk : ∀ g, γ.ω g = .lim → γ1.ω g = .lim ∧ γ1.h g = γ.h g := fun g hg => by
          have := k1 g (by rw [hg]; simp)
          exact ⟨this.1.trans hg, this.2⟩
        rcases q8 with ⟨q8, rfl⟩ | ⟨h1, b, o, xs, G, rfl, rfl, a2, a3⟩
        · have : x.es = [] := List.eq_nil_of_length_eq_zero (by omega)
          rw [this]
          exact ⟨γ1, [], [], i1, by simp [RpE], ⟨b1, sl1, m1, fun _ h => by simp at h, fun _ => by simp, limk, w1⟩, fun _ h => by simp at h, fun _ => flat_nil, .inl ⟨rfl, A, c, by rw [hc.1, q1, q8]⟩⟩
        · refine ⟨γ1, G, xs, i1, a2, ⟨b1, sl1, m1, fun be hb => ?_, fun hf => ?_, limk, w1⟩, q7, q5, .inr ⟨b, o, c, by rw [hc.1, q1, q2], a3⟩⟩
          · cases hd : (x.deep && !x.fz) with
            | true => exact .inr ((d1 hd).2 be (by simp [hb]))
            | false => exact .inl (s1' hd be (by simp [hb]))
          · rw [Bool.or_eq_true] at hf
            rcases hf with hf | hf
            · obtain ⟨n1, l1⟩ := d1 hf
              refine ⟨(List.nodup_cons.1 n1).2, fun be hb => ⟨l1 be (by simp [hb]), ?_⟩⟩
              rcases o1 be (by simp [hb]) with h | h
              · rw [h]; simp
              · simp [h] at hf
            · have : G = [] := a2.plain (q5 hf)
              subst this
              simp
      · cases he
    · cases he
  | _ => simp [appSrc] at he

theorem look_drop {α : Type} (l : List (Nat × α)) (r : Nat) : drp (drp l r) r = drp l r := by simp [drp, List.filter_filter]
theorem dropRow_new (s : St) (r : Nat) (x : Row) : (s.dropRow r).newRow r x = s.newRow r x := by
  simp [St.newRow, St.setRow, St.dropRow, St.kill, look_drop]

theorem n_app (hi : Inv γ h0 io w0 s f w) {T E : TypeId} {k by_ : Nat} {fl : Bool} {x y : Operand} {a b : KX} {d : Nat} {i : TypeInfo} {z : Value} (hU : P.underlying T = some (.slice E)) (hI : P.info? E = some i) (hz : i.zero = some z) (hsz : i.size = k) (hby : i.bytes = by_) (hzs : z.cells.size = k) (hk0 : 0 < k)
    (hx : okX N x a = true) (hy : okX N y b = true) (he : evN cf mf s (some d) (.app k by_ fl a b) = some s') (h : ∀ γ' f' w', Inv γ' h0 io w0 s' f' w' → Tr (some d) (touch s (some d) (.app k by_ fl a b)) γ w γ' w' f f' → K f' w') :
    Op1 P N ⟨some d, .call { callee := .builtin .append, args := #[x, y], argTypes := #[T, T] }, ty, pos, aft, gd⟩ f w K := by
  have hpx := evX_rel hi hx
  have hpy := evX_rel hi hy
  simp only [evN] at he
  split at he
  · cases he
  · rename_i es dp s1 hsrc
    obtain ⟨γ1, G2, news, i1, r2, e1, hk2, hf2, hu⟩ := appSrc_rel hi hpy hsrc
    have hnl : news.length = es.length * k := RpE.length es r2 hk2
    have hn1 := r2.isOne
    have hrun : ∀ {v' w'}, (Builtin.append_ #[T, T] ty #[(fr f N).eval x, (fr f N).eval y]).run P w = .ok v' w' → (execOp (fr f N).eval ⟨some d, .call { callee := .builtin .append, args := #[x, y], argTypes := #[T, T] }, ty, pos, aft, gd⟩).run P w = .ok (.value v') w' := by
      intro v' w' hr
      simp [execOp, resolve, invoke, builtin, hr]
    split at he
    · -- onto nil
      rename_i k' fl' hxa
      rw [hxa] at hpx
      simp only [CR] at hpx
      split at he
      · rename_i hc
        obtain ⟨rfl, rfl, c3, c4⟩ := hc
        simp only [Option.some.injEq] at he
        subst he
        obtain ⟨v', w', hr, hout⟩ := run_app (P := P) (w := w) (ty := ty) (k := k') (by_ := by_) hU hI hz hsz hby hzs hk0 (v := (fr f N).eval x) (n := 0) (xs := []) (by simp) (.inl ⟨hpx.1, rfl⟩) (u := (fr f N).eval y) (m := es.length) hnl hu hn1 (by omega) (by simpa using c3)
        refine o_val' (hrun hr) ?_
        rcases hout with ⟨h1, rfl, rfl⟩ | ⟨g, cap, T', cur, h1, _⟩ | ⟨cap, cs, rfl, h2, h3, h4, h5, h6, h7, h8⟩
        · have hes : es = [] := List.eq_nil_of_length_eq_zero h1
          subst hes
          have hR : RowR γ1.h w' ⟨[], k', fl', dp, true, false⟩ ((fr f N).eval x) [] := ⟨none, 0, 0, hpx.1, rfl, Nat.le_refl _, by simp [maxLen], hk0, fun _ h => by simp at h, fun _ => flat_nil, .inl ⟨rfl, rfl, rfl⟩⟩
          obtain ⟨γ', j1, j2, j3, j4, _⟩ := i1.addRow (r := d) hR (by simp) (fun _ h => by simp at h)
          exact h γ' _ w' (j1.put d (.ref d) _ (by simp only [CR, j2]; exact ⟨trivial, none, 0, 0, hpx.1⟩)) ⟨Adv.refl _ _ _, fun x _ => by rw [j3, e1.β], fun g => by rw [j4]; exact e1.h g, .put⟩
        · rw [hpx.1] at h1; cases h1
        · simp only [Nat.zero_add, List.nil_append] at h2 h8 ⊢
          obtain ⟨γ', j1, j2, j3, j4⟩ := i1.newRow h5 h6 (n := es.length) (c := cap) h4 r2 h8 rfl h2 h3 h7 hk0 hk2 hf2 e1 d
          exact h γ' _ w' (j1.put d (.ref d) _ (by simp only [CR, j2]; exact ⟨trivial, _, _, _, rfl⟩)) ⟨adv_bel hi h5 _, fun x _ => by rw [j3, e1.β], fun g => Nat.le_trans (e1.h g) (j4 g), .put⟩
      · cases he
    · rename_i r hxa
      rw [hxa] at hpx
      simp only [CR] at hpx
      split at he
      · rename_i row hl
        split at he
        · rename_i hc
          obtain ⟨rfl, rfl, happ, c3, c4⟩ := hc
          simp only [Option.some.injEq] at he
          subst he
          obtain ⟨γ2, A, n, c, i2, b2, sl2, hh2, o2, l2, q1, q2, q3, q4, q5, q6, q7, q8⟩ := i1.openRow hl
          rw [e1.sl] at q1
          have hxv : (fr f N).eval x = .slice A n c := hpx.1.trans q1
          have hrX : r ∈ touch s (some d) (.app row.k by_ row.fl a b) := by simp [touch, hxa, rowsOf]
          have hek : ∀ e ∈ row.es ++ es, e.length = row.k := fun e he => by
            rcases List.mem_append.1 he with he | he
            · exact q6 e he
            · exact hk2 e he
          have hff : row.fl = true → flat (row.es ++ es) := fun hf e he => by
            rcases List.mem_append.1 he with he | he
            · exact q7 hf e he
            · exact hf2 hf e he
          have lim2 : ∀ g, Lim γ1 w g → Lim γ2 w g := fun g hg => ⟨by rw [o2 _ (by rw [hg.1]; simp)]; exact hg.1, by rw [hh2]; exact hg.2.1, hg.2.2⟩
          rcases q8 with ⟨rfl, rfl⟩ | ⟨g, o, xs, G, rfl, a2, a3, a4, a5, a6, a7, a8, a9, a10, a11, a12⟩
          · -- the row is nil still
            have hn0 : n = 0 := by omega
            subst hn0
            have hre : row.es = [] := List.eq_nil_of_length_eq_zero q2.symm
            obtain ⟨v', w', hr, hout⟩ := run_app (P := P) (w := w) (ty := ty) (k := row.k) (by_ := by_) hU hI hz hsz hby hzs hk0 (v := (fr f N).eval x) (n := 0) (xs := []) (by simp) (.inl ⟨hxv, rfl⟩) (u := (fr f N).eval y) (m := es.length) hnl hu hn1 (by omega) (by rw [hre] at c3; simpa using c3)
            refine o_val' (hrun hr) ?_
            rcases hout with ⟨h1, rfl, rfl⟩ | ⟨g, cap, T', cur, h1, _⟩ | ⟨cap, cs, rfl, h2, h3, h4, h5, h6, h7, h8⟩
            · have hes : es = [] := List.eq_nil_of_length_eq_zero h1
              subst hes
              have hR : RowR γ2.h w' { row with es := row.es ++ [], deep := row.deep && dp } ((fr f N).eval x) [] := ⟨none, 0, 0, hxv, by simp [hre], Nat.le_refl _, by simp [maxLen], q5, hek, hff, .inl ⟨rfl, rfl, rfl⟩⟩
              obtain ⟨γ', j1, j2, j3, j4, _⟩ := i2.addRow (r := r) hR (by simp) (fun _ h => by simp at h)
              rw [dropRow_new] at j1
              exact h γ' _ w' (j1.put d (.ref r) _ (by simp only [CR, j2]; exact ⟨trivial, none, 0, 0, hxv⟩)) ⟨Adv.refl _ _ _, fun x _ => by rw [j3, b2, e1.β], fun g => by rw [j4, hh2]; exact e1.h g, .put⟩
            · rw [hxv] at h1; cases h1
            · simp only [Nat.zero_add, List.nil_append] at h2 h8 ⊢
              have i3 := i2.bel h5
              have hlies : Lies w' w.heap.size 0 news := by
                intro j u hu
                rw [Nat.zero_add, h6.cell]
                rw [← h8, List.getElem?_take] at hu
                split at hu
                · exact hu
                · cases hu
              have hlt := RpE.lt es r2
              obtain ⟨γ', j1, j2, j3, j4, _⟩ := i3.closeRow (r := r) (x := { row with es := row.es ++ es, deep := row.deep && dp }) (n := es.length) (c := cap) (g := w.heap.size) (o := 0) (by simp [hre]) h2 h3 q5 hek hff (by omega) (.inr (i2.ω_new (Nat.le_refl _))) (.inl hi.size) (h5.thaw _ (Nat.le_refl _)) (by simp only [hre, List.nil_append]; exact r2.bel h5) hlies (by rw [i2.hnew _ (Nat.le_refl _)]; omega) (fun _ => i2.hnew _ (Nat.le_refl _)) (fun _ => ⟨rfl, E, cs, h6, h7⟩)
                (fun be hb => by
                  rcases e1.some_ be hb with h9 | h9
                  · exact .inl (by rw [hh2]; exact h9)
                  · have := lim2 _ h9
                    exact .inr ⟨⟨this.1, this.2.1, (adv_bel hi h5 (fun _ => False)).kthaw _ this.2.2⟩, by have := hlt be hb; omega⟩)
                (fun hd => by
                  have hdp : dp = true := by
                    have hd' : (row.deep && dp) = true := hd
                    simp at hd'; exact hd'.2
                  obtain ⟨n1, l1⟩ := e1.deep hdp
                  refine ⟨List.nodup_cons.2 ⟨fun hm => ?_, n1⟩, fun be hb => ?_⟩
                  · obtain ⟨be, hb, e⟩ := List.mem_map.1 hm
                    have := hlt be hb
                    omega
                  · have := lim2 _ (l1 be hb).1
                    exact ⟨this.1, this.2.1, (adv_bel hi h5 (fun _ => False)).kthaw _ this.2.2⟩)
              rw [dropRow_new] at j1
              exact h γ' _ w' (j1.put d (.ref r) _ (by simp only [CR, j2]; exact ⟨trivial, _, _, _, rfl⟩)) ⟨adv_bel hi h5 _, fun x _ => by rw [j3, b2, e1.β], fun g => by have := j4 g; rw [hh2] at this; exact Nat.le_trans (e1.h g) this, .put⟩
          · obtain ⟨rfl, T', vs, hB, hvl⟩ := a10 happ
            have hxl : xs.length = n * row.k := by rw [RpE.length _ a6 q6, q2]
            have htk : vs.take (n * row.k) = xs := by
              rw [← hxl]
              apply List.ext_getElem?
              intro j
              rw [List.getElem?_take]
              by_cases hj : j < xs.length
              · rw [if_pos hj]
                have h7 := a7 j xs[j] (by simp [hj])
                rw [Nat.zero_add, hB.cell] at h7
                rw [h7]; simp [hj]
              · rw [if_neg hj, List.getElem?_eq_none (by omega)]
            have hlt1 := RpE.lt _ a6
            have hlt2 := RpE.lt _ r2
            obtain ⟨v', w', hr, hout⟩ := run_app (P := P) (w := w) (ty := ty) (k := row.k) (by_ := by_) hU hI hz hsz hby hzs hk0 (v := (fr f N).eval x) (n := n) (xs := xs) hxl (.inr ⟨g, c, T', vs, hxv, hB, q3, q4, hvl, htk⟩) (u := (fr f N).eval y) (m := es.length) hnl hu hn1 (by omega) (by rw [q2]; exact c3)
            have hγω : γ.ω g = .row r := by
              rcases e1.own g with h | h | h
              · rw [← h]; exact a3
              · rw [a3] at h; cases h
              · rw [a3] at h; cases h
            have hrE : RpE w (row.es ++ es) (xs ++ news) (G ++ G2) := RpE.append _ a6 r2
            -- what is held, in nobody's hands or settled
            have some2 : ∀ be ∈ G ++ G2, be.2 ≤ γ2.h be.1 ∨ (Lim γ2 w be.1 ∧ be.1 ≠ g) := by
              intro be hb
              rcases List.mem_append.1 hb with hb | hb
              · rw [hh2]; exact a11 be hb
              · rcases e1.some_ be hb with h9 | h9
                · exact .inl (by rw [hh2]; exact h9)
                · exact .inr ⟨lim2 _ h9, fun e => by have := h9.1; rw [e, a3] at this; cases this⟩
            have deep2 : (row.deep && dp) = true → (g :: (G ++ G2).map Prod.fst).Nodup ∧ ∀ be ∈ G ++ G2, Lim γ2 w be.1 := by
              intro hd
              rw [Bool.and_eq_true] at hd
              obtain ⟨n1, l1⟩ := e1.deep hd.2
              obtain ⟨n2, l2'⟩ := a12 hd.1
              refine ⟨?_, fun be hb => ?_⟩
              · rw [List.map_append, ← List.cons_append, List.nodup_append]
                refine ⟨n2, n1, ?_⟩
                intro y hy y' hy' e
                subst e
                obtain ⟨be1, hb1, e8⟩ := List.mem_map.1 hy'
                have u2 := (l1 be1 hb1).1.1
                rcases List.mem_cons.1 hy with rfl | hy
                · rw [e8, a3] at u2; cases u2
                · obtain ⟨be, hb, rfl⟩ := List.mem_map.1 hy
                  rw [e8, (l2' be hb).2] at u2; cases u2
              · rcases List.mem_append.1 hb with hb | hb
                · exact (l2' be hb).1
                · exact lim2 _ (l1 be hb).1
            refine o_val' (hrun hr) ?_
            rcases hout with ⟨h1, rfl, rfl⟩ | ⟨g', cap, T'', cur, h1, h2, h3, h4, h5, h6, h7, rfl⟩ | ⟨cap, cs, rfl, h2, h3, h4, h5, h6, h7, h8⟩
            · have hes : es = [] := List.eq_nil_of_length_eq_zero h1
              subst hes
              simp only [RpE] at r2
              obtain ⟨rfl, rfl⟩ := r2
              simp only [List.append_nil] at hrE some2 deep2 hek hff
              obtain ⟨γ', j1, j2, j3, j4, _⟩ := i2.closeRow (r := r) (x := { row with es := row.es ++ [], deep := row.deep && dp }) (n := n) (c := c) (g := g) (o := 0) (by simp [q2]) q3 q4 q5 (by simpa using hek) (by simpa using hff) a2 (.inl a4) (i2.own g (by rw [a4]; simp)).2 a5 (by simpa using hrE) a7 (by rw [hh2]; exact a8) (fun hf => by rw [hh2]; exact a9 hf) (fun _ => ⟨rfl, T', vs, hB, hvl⟩) some2 deep2
              rw [dropRow_new] at j1
              exact h γ' _ w' (j1.put d (.ref r) _ (by simp only [CR, j2, hxv]; exact ⟨trivial, _, _, _, rfl⟩)) ⟨Adv.refl _ _ _, fun x _ => by rw [j3, b2, e1.β], fun g => by have := j4 g; rw [hh2] at this; exact Nat.le_trans (e1.h g) this, .put⟩
            · rw [hxv] at h1
              simp only [Value.slice.injEq, Option.some.injEq, Addr.mk.injEq, and_true] at h1
              obtain ⟨rfl, _, rfl⟩ := h1
              subst h3
              have hcv : cur = vs := by
                unfold Blk at h2 hB
                rw [hB] at h2
                simp only [Option.some.injEq, Obj.cells.injEq, and_true] at h2
                have := h2.1
                simpa using this.symm
              subst hcv
              have hoff := Off.setB w g (splice cur (n * row.k) news).toArray T''
              have hfit : n * row.k + news.length ≤ cur.length := by rw [hnl, hvl, ← Nat.add_mul]; exact Nat.mul_le_mul_right _ h4
              have hcells : ∀ j, j < n * row.k → (setB w g (.cells (splice cur (n * row.k) news).toArray T'' (0, 0))).cell? ⟨g, j, none⟩ = w.cell? ⟨g, j, none⟩ := by
                intro j hj
                rw [(hB.setSame T'' (splice cur (n * row.k) news)).cell, hB.cell]
                unfold splice
                rw [List.append_assoc, List.getElem?_append_left (by simp; omega), List.getElem?_take, if_pos hj]
              have i3 := i2.adv (adv_off i2 hoff (M := fun o => o = .lim) a4 (fun j hj => hcells j (by rw [hh2] at hj; omega))) (by simp) (fun b hb => by cases hb) (fun r hr => by cases hr)
              have hadv : Adv γ (fun o => ∃ i ∈ touch s (some d) (.app row.k by_ row.fl a b), o = .box i ∨ o = .row i) w _ := adv_off hi hoff ⟨r, hrX, .inr hγω⟩ (fun j hj => hcells j (by have := e1.h g; omega))
              have hrE' : RpE (setB w g (.cells (splice cur (n * row.k) news).toArray T'' (0, 0))) (row.es ++ es) (xs ++ news) (G ++ G2) := by
                refine hrE.keep _ fun be hb j hj => ?_
                by_cases h8 : be.1 = g
                · rw [h8]
                  rcases some2 be hb with h9 | h9
                  · rw [h8, hh2] at h9; exact hcells j (by omega)
                  · exact absurd h8 h9.2
                · exact World.cell?_of_block (w := w) (hoff.block _ h8)
              have hlies : Lies (setB w g (.cells (splice cur (n * row.k) news).toArray T'' (0, 0))) g 0 (xs ++ news) := by
                have h9 := (hB.setSame T'' (splice cur (n * row.k) news)).lies
                intro j u hu
                refine h9 j u ?_
                have e5 : splice cur (n * row.k) news = (xs ++ news) ++ cur.drop (n * row.k + news.length) := by unfold splice; rw [htk]
                rw [e5, List.getElem?_append_left (List.getElem?_eq_some_iff.1 hu).1]
                exact hu
              have thaw1 : ∀ y, Thaw w y → Thaw (setB w g (.cells (splice cur (n * row.k) news).toArray T'' (0, 0))) y := hadv.kthaw
              obtain ⟨γ', j1, j2, j3, j4, _⟩ := i3.closeRow (r := r) (x := { row with es := row.es ++ es, deep := row.deep && dp }) (n := n + es.length) (c := c) (g := g) (o := 0) (by simp [q2]) h4 q4 q5 hek hff (by rw [size_setB]; exact a2) (.inl a4) (i2.own g (by rw [a4]; simp)).2 hoff.fz hrE' hlies (by rw [hh2]; exact Nat.le_trans a8 (Nat.add_le_add_left (Nat.mul_le_mul_right row.k (show n ≤ n + es.length by omega)) 0)) (fun hf => by rw [hh2]; exact a9 hf) (fun _ => ⟨rfl, T'', _, hB.setSame T'' _, by rw [splice_len hfit]; exact hvl⟩)
                (fun be hb => by
                  rcases some2 be hb with h9 | h9
                  · exact .inl h9
                  · exact .inr ⟨⟨h9.1.1, h9.1.2.1, thaw1 _ h9.1.2.2⟩, h9.2⟩)
                (fun hd => ⟨(deep2 hd).1, fun be hb => by have := (deep2 hd).2 be hb; exact ⟨this.1, this.2.1, thaw1 _ this.2.2⟩⟩)
              rw [dropRow_new] at j1
              exact h γ' _ _ (j1.put d (.ref r) _ (by simp only [CR, j2]; exact ⟨trivial, _, _, _, rfl⟩)) ⟨hadv, fun x _ => by rw [j3, b2, e1.β], fun g => by have := j4 g; rw [hh2] at this; exact Nat.le_trans (e1.h g) this, .put⟩
            · have i3 := i2.bel h5
              have hlies : Lies w' w.heap.size 0 (xs ++ news) := by
                intro j u hu
                rw [Nat.zero_add, h6.cell]
                rw [← h8, List.getElem?_take] at hu
                split at hu
                · exact hu
                · cases hu
              have hlt : ∀ be ∈ G ++ G2, be.1 < w.heap.size := RpE.lt _ hrE
              have thaw1 := (adv_bel hi h5 (fun _ => False)).kthaw
              obtain ⟨γ', j1, j2, j3, j4, _⟩ := i3.closeRow (r := r) (x := { row with es := row.es ++ es, deep := row.deep && dp }) (n := n + es.length) (c := cap) (g := w.heap.size) (o := 0) (by simp [q2]) h2 h3 q5 hek hff (by omega) (.inr (i2.ω_new (Nat.le_refl _))) (.inl hi.size) (h5.thaw _ (Nat.le_refl _)) (hrE.bel h5) hlies (by rw [i2.hnew _ (Nat.le_refl _)]; omega) (fun _ => i2.hnew _ (Nat.le_refl _)) (fun _ => ⟨rfl, E, cs, h6, h7⟩)
                (fun be hb => by
                  rcases some2 be hb with h9 | h9
                  · exact .inl h9
                  · exact .inr ⟨⟨h9.1.1, h9.1.2.1, thaw1 _ h9.1.2.2⟩, by have := hlt be hb; omega⟩)
                (fun hd => by
                  refine ⟨List.nodup_cons.2 ⟨fun hm => ?_, (List.nodup_cons.1 (deep2 hd).1).2⟩, fun be hb => by have := (deep2 hd).2 be hb; exact ⟨this.1, this.2.1, thaw1 _ this.2.2⟩⟩
                  obtain ⟨be, hb, e⟩ := List.mem_map.1 hm
                  have := hlt be hb
                  omega)
              rw [dropRow_new] at j1
              exact h γ' _ w' (j1.put d (.ref r) _ (by simp only [CR, j2]; exact ⟨trivial, _, _, _, rfl⟩)) ⟨adv_bel hi h5 _, fun x _ => by rw [j3, b2, e1.β], fun g => by have := j4 g; rw [hh2] at this; exact Nat.le_trans (e1.h g) this, .put⟩
        · cases he
      · cases he
    · cases he
def okOX (N : Nat) : Option Operand → Option KX → Bool
  | none, none => true
  | some x, some y => okX N x y
  | _, _ => false
theorem optI_rel (hi : Inv γ h0 io w0 s f w) {o : Option Operand} {kx : Option KX} {z m : Nat} (hok : okOX N o kx = true) (he : optI s kx z = some m) : Bnd (fr f N).eval o z m := by
  cases o with
  | none =>
    cases kx with
    | none => simp only [optI, Option.some.injEq] at he; simp only [Bnd]; exact he.symm
    | some y => simp [okOX] at hok
  | some x =>
    cases kx with
    | none => simp [okOX] at hok
    | some y =>
      simp only [okOX] at hok
      have hr := evX_rel hi hok
      simp only [optI] at he
      split at he
      · rename_i n hn
        rw [hn] at hr
        obtain ⟨hv, _⟩ := cr_int hr
        split at he
        · rename_i h0
          simp only [Option.some.injEq] at he
          subst he
          simp only [Bnd, hv]
          congr 1
          omega
        · cases he
      · cases he
theorem n_cut (hi : Inv γ h0 io w0 s f w) {T E : TypeId} {k : Nat} {x : Operand} {lo hi' : Option Operand} {a : KX} {b c : Option KX} {d : Nat} (hU : P.underlying T = some (.slice E)) (hz : sizeB P E = some k)
    (hx : okX N x a = true) (hlo : okOX N lo b = true) (hhi : okOX N hi' c = true) (he : evN cf mf s (some d) (.cut k a b c) = some s') (h : ∀ γ' f' w', Inv γ' h0 io w0 s' f' w' → Tr (some d) (touch s (some d) (.cut k a b c)) γ w γ' w' f f' → K f' w') :
    Op1 P N ⟨some d, .slice T x lo hi' none, ty, pos, aft, gd⟩ f w K := by
  have hpx := evX_rel hi hx
  simp only [evN] at he
  split at he
  · rename_i k' fl hxa
    rw [hxa] at hpx
    simp only [CR] at hpx
    split at he
    · rename_i l u hl hu
      split at he
      · rename_i hc
        obtain ⟨rfl, rfl, rfl⟩ := hc
        simp only [Option.some.injEq] at he
        subst he
        have hr := x_slice2 (w := w) (dst := some d) (ty := ty) (pos := pos) (aft := aft) (gd := gd) hU (fun w => run_sizeOf hz w) hpx.1 (optI_rel hi hlo hl) (optI_rel hi hhi hu) (Nat.le_refl _) (Nat.le_refl _)
        refine o_val' hr ?_
        exact h γ _ w (hi.put d (.nil k' fl) _ (by simp only [CR]; simp [hpx.2])) ⟨Adv.refl _ _ _, fun _ _ => rfl, fun _ => Nat.le_refl _, .put⟩
      · cases he
    · cases he
  · rename_i r hxa
    rw [hxa] at hpx
    simp only [CR] at hpx
    split at he
    · rename_i row hl
      split at he
      · rename_i l u hlo' hhi''
        split at he
        · rename_i hc
          obtain ⟨rfl, c1, c2, hfz⟩ := hc
          simp only [Option.some.injEq] at he
          subst he
          obtain ⟨γ2, A, n, c, i2, b2, sl2, hh2, o2, l2, q1, q2, q3, q4, q5, q6, q7, q8⟩ := hi.openRow hl
          have hxv : (fr f N).eval x = .slice A n c := hpx.1.trans q1
          have hr := x_slice2 (w := w) (dst := some d) (ty := ty) (pos := pos) (aft := aft) (gd := gd) hU (fun w => run_sizeOf hz w) hxv (optI_rel hi hlo hlo') (by rw [q2]; exact optI_rel hi hhi hhi'') c1 (by omega)
          have hlen : ((row.es.take u).drop l).length = u - l := by simp; omega
          have hmem : ∀ e ∈ (row.es.take u).drop l, e ∈ row.es := fun e he => List.mem_of_mem_take (List.mem_of_mem_drop he)
          have hek : ∀ e ∈ (row.es.take u).drop l, e.length = row.k := fun e he => q6 e (hmem e he)
          have hff : row.fl = true → flat ((row.es.take u).drop l) := fun hf e he => q7 hf e (hmem e he)
          refine o_val' hr ?_
          rcases q8 with ⟨rfl, rfl⟩ | ⟨g, o, xs, G, rfl, a2, a3, a4, a5, a6, a7, a8, a9, a10, a11, a12⟩
          · have hu0 : u = 0 := by omega
            subst hu0
            have hl0 : l = 0 := by omega
            subst hl0
            have hR : RowR γ2.h w { row with es := (row.es.take 0).drop 0, app := row.app && b.isNone } (.slice none 0 0) [] := ⟨none, 0, 0, rfl, by simp, Nat.le_refl _, by simp [maxLen], q5, hek, hff, .inl ⟨rfl, rfl, rfl⟩⟩
            obtain ⟨γ', j1, j2, j3, j4, _⟩ := i2.addRow (r := r) hR (by simp) (fun _ h => by simp at h)
            rw [dropRow_new] at j1
            exact h γ' _ w (j1.put d (.ref r) _ (by simp only [CR, j2]; simp)) ⟨Adv.refl _ _ _, fun x _ => by rw [j3, b2], fun g => by rw [j4, hh2]; exact Nat.le_refl _, .put⟩
          · rw [← List.take_append_drop u row.es] at a6
            obtain ⟨v1, v2, F1, F2, rfl, rfl, k1, _⟩ := RpE.append_inv _ a6
            rw [← List.take_append_drop l (row.es.take u)] at k1
            obtain ⟨u1, u2, G1, G2, rfl, rfl, m1, m2⟩ := RpE.append_inv _ k1
            have hu1 : u1.length = l * row.k := by
              rw [RpE.length _ m1 (fun e he => q6 e (List.mem_of_mem_take (List.mem_of_mem_take he)))]
              simp only [List.length_take]
              rw [Nat.min_eq_left (by rw [Nat.min_eq_left (by omega)]; exact c1)]
            have hlies : Lies w g (if c = l then o else o + l * row.k) u2 := by
              intro j y hy
              split
              · rename_i hcl
                have : u2.length = 0 := by
                  rw [RpE.length _ m2 hek, hlen, show u - l = 0 by omega, Nat.zero_mul]
                have := (List.getElem?_eq_some_iff.1 hy).1
                omega
              · have := a7 (l * row.k + j) y (by
                  rw [List.append_assoc, List.getElem?_append_right (by omega), hu1, Nat.add_sub_cancel_left, List.getElem?_append_left (List.getElem?_eq_some_iff.1 hy).1]
                  exact hy)
                rw [show o + (l * row.k + j) = o + l * row.k + j by omega] at this
                exact this
            have hsub : ∀ be ∈ G2, be ∈ G1 ++ G2 ++ F2 := fun be hb => by simp [hb]
            obtain ⟨γ', j1, j2, j3, j4, _⟩ := i2.closeRow (r := r) (x := { row with es := (row.es.take u).drop l, app := row.app && b.isNone }) (n := u - l) (c := c - l) (g := g) (o := if c = l then o else o + l * row.k) hlen.symm (by omega) (by omega) q5 hek hff a2 (.inl a4) (i2.own g (by rw [a4]; simp)).2 a5 m2 hlies (by rw [hh2, a9 hfz]; omega) (fun _ => by rw [hh2]; exact a9 hfz)
              (fun happ => by
                simp only [Bool.and_eq_true, Option.isNone_iff_eq_none] at happ
                have hb0 : l = 0 := by
                  have := hlo'
                  rw [happ.2] at this
                  simp only [optI, Option.some.injEq] at this
                  exact this.symm
                obtain ⟨p1, p2⟩ := a10 happ.1
                subst hb0
                refine ⟨by simp [p1], ?_⟩
                simpa using p2)
              (fun be hb => by rw [hh2]; exact a11 be (hsub be hb))
              (fun hd => by
                obtain ⟨d1, d2⟩ := a12 hd
                refine ⟨?_, fun be hb => (d2 be (hsub be hb)).1⟩
                rw [List.nodup_cons] at d1 ⊢
                refine ⟨fun hm => d1.1 ?_, ?_⟩
                · obtain ⟨be, hb, e⟩ := List.mem_map.1 hm
                  exact List.mem_map.2 ⟨be, hsub be hb, e⟩
                · have := d1.2
                  rw [List.map_append, List.map_append, List.nodup_append, List.nodup_append] at this
                  exact this.1.2.1)
            rw [dropRow_new] at j1
            have hv : (Value.slice (if c = l then some ⟨g, o, none⟩ else (some (⟨g, o, none⟩ : Addr)).map (fun z => z.add (l * row.k))) (u - l) (c - l)) = .slice (some ⟨g, if c = l then o else o + l * row.k, none⟩) (u - l) (c - l) := by
              split <;> simp [add_mk]
            rw [hv]
            exact h γ' _ w (j1.put d (.ref r) _ (by simp only [CR, j2]; exact ⟨trivial, _, _, _, rfl⟩)) ⟨Adv.refl _ _ _, fun x _ => by rw [j3, b2], fun g => by have := j4 g; rw [hh2] at this; exact this, .put⟩
        · cases he
      · cases he
    · cases he
  · cases he
end
end Go.Proofs.Ytmaigpiappmpcaa
