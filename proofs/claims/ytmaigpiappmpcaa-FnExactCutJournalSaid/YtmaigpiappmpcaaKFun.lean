/-
  A function of K does what the program's function does (evF_sound). No program is named here.
-/
import Derived.Test.YtmaigpiappmpcaaKCode
namespace Go.Proofs.Ytmaigpiappmpcaa
set_option linter.unusedVariables false
set_option linter.unusedSimpArgs false
open Go.RowKit

def okR1 (P : Program) (N : Nat) : ResultVar → KR → Bool
  | .tmp t, .t d => t == d && Nat.blt t N
  | .cell a T, .c d n => a == d && Nat.blt a N && (if n = 0 then aggB P T == some false else aggB P T == some true && sizeB P T == some n)
  | _, _ => false
def okRs (P : Program) (N : Nat) : List ResultVar → List KR → Bool
  | [], [] => true
  | r :: rs, k :: ks => okR1 P N r k && okRs P N rs ks
  | _, _ => false
def okF (P : Program) (num : Nat → FuncId) (f : Nat) (kf : KF) : Bool :=
  match P.funcs[num f]? with
  | some fn => match fn.body with
    | some c => okC P fn.ntmps num kf.body c && Nat.ble kf.np fn.ntmps && okRs P fn.ntmps fn.results.toList kf.res
    | none => false
  | none => false

/-- the value of a result variable -/
def resOne (tmps : Array Value) : ResultVar → Sem Value
  | .tmp t => pure (tmps.getD t undef)
  | .cell a t => do loadVar t (← asAddr (tmps.getD a undef))

section
variable {P : Program} {γ : Gh} {h0 : Nat → Nat} {io : List Nat} {w0 : World} {s s' : St} {f : Fm} {w : World} {N : Nat} {num : Nat → FuncId}

theorem resA_rel (hi : Inv γ h0 io w0 s f w) {rv : ResultVar} {kr : KR} {a : A} {l : List Nat} (hok : okR1 P N rv kr = true) (he : resA s kr = some (a, l)) :
    ∃ u F, (resOne (fr f N).tmps rv).run P w = .ok u w ∧ AR γ.h w a u F ∧ (∀ g ∈ F, ∃ r ∈ l, γ.ω g = .row r) ∧ (l.Nodup → F.Nodup) := by
  cases rv with
  | tmp t =>
    cases kr with
    | c d n => simp [okR1] at hok
    | t d =>
      simp only [okR1, Bool.and_eq_true, beq_iff_eq] at hok
      obtain ⟨rfl, ht⟩ := hok
      have hlt : t < N := by simpa using ht
      simp only [resA, Option.map_eq_some_iff, Prod.mk.injEq] at he
      obtain ⟨vs, hvs, rfl, rfl⟩ := he
      obtain ⟨k1, k2, k3⟩ := (hi.get t).cells (wr_cell hvs)
      obtain ⟨F, x1, x2, x3⟩ := wr_rel hi _ k1 hvs
      refine ⟨f t, F, by simp [resOne, fr, hlt], ?_, x2, x3⟩
      simp only [AR]
      refine ⟨_, x1, fun hag => ?_, fun hag => by rw [k2 hag]⟩
      obtain ⟨us, e⟩ := k3 hag
      rw [e]
      simp [Value.cells]
  | cell a0 T =>
    cases kr with
    | t d => simp [okR1] at hok
    | c d n =>
      simp only [okR1, Bool.and_eq_true, beq_iff_eq] at hok
      obtain ⟨⟨rfl, ht⟩, hty⟩ := hok
      have hlt : a0 < N := by simpa using ht
      simp only [resA] at he
      split at he
      · rename_i b hb
        have hg := hi.get a0
        rw [hb] at hg
        simp only [CR] at hg
        split at he
        · rename_i cs hl
          obtain ⟨T', vs, h1, h2, h3⟩ := hi.bx b cs hl
          have hlies : Lies w (γ.β b) 0 vs := h1.lies
          split at he
          · rename_i hn
            subst hn
            simp only [if_true, beq_iff_eq] at hty
            split at he
            · rename_i c
              simp only [Option.map_eq_some_iff, Prod.mk.injEq] at he
              obtain ⟨rs, hrs, rfl, rfl⟩ := he
              obtain ⟨F, x1, x2, x3⟩ := wr_rel hi _ h2 hrs
              have hvl := h2.length
              obtain ⟨v, rfl⟩ := List.length_eq_one_iff.1 hvl
              have hc := hlies 0 v rfl
              simp only [Nat.zero_add] at hc
              refine ⟨v, F, ?_, ?_, x2, x3⟩
              · simp [resOne, fr, hlt, hg, asAddr, loadVar, run_isAgg hty, load, Sem.run, hc]
              · simp only [AR]
                exact ⟨[v], x1, fun h => by simp at h, fun _ => rfl⟩
            · cases he
          · rename_i hn
            simp only [if_neg hn, Bool.and_eq_true, beq_iff_eq] at hty
            split at he
            · rename_i hcl
              simp only [Option.map_eq_some_iff, Prod.mk.injEq] at he
              obtain ⟨rs, hrs, rfl, rfl⟩ := he
              obtain ⟨F, x1, x2, x3⟩ := wr_rel hi _ h2 hrs
              have hvl := h2.length
              have h0' := run_loadCellsFrom (P := P) (w := w) (b := γ.β b) (o := 0) vs 0 #[] (by simpa using hlies)
              have hvn : vs.length = n := by omega
              rw [hvn] at h0'
              refine ⟨.agg vs.toArray, F, ?_, ?_, x2, x3⟩
              · simp [resOne, fr, hlt, hg, asAddr, loadVar, run_isAgg hty.1, run_sizeOf hty.2, loadCells, h0']
              · simp only [AR]
                exact ⟨vs, x1, fun _ => rfl, fun h => by simp at h⟩
            · cases he
        · cases he
      · cases he

theorem resAs_rel (hi : Inv γ h0 io w0 s f w) : ∀ (rvs : List ResultVar) (krs : List KR) {as : List A} {l : List Nat}, okRs P N rvs krs = true → resAs s krs = some (as, l) →
    ∃ us F, (rvs.mapM (resOne (fr f N).tmps)).run P w = .ok us w ∧ ARs γ.h w as us F ∧ (∀ g ∈ F, ∃ r ∈ l, γ.ω g = .row r) ∧ (l.Nodup → F.Nodup)
  | [], [], as, l, _, he => by
    simp only [resAs, Option.some.injEq, Prod.mk.injEq] at he
    obtain ⟨rfl, rfl⟩ := he
    exact ⟨[], [], by simp, by simp [ARs], fun _ h => by simp at h, fun _ => by simp⟩
  | [], _ :: _, _, _, h, _ => by simp [okRs] at h
  | _ :: _, [], _, _, h, _ => by simp [okRs] at h
  | rv :: rvs, kr :: krs, as, l, h, he => by
    simp only [okRs, Bool.and_eq_true] at h
    simp only [resAs] at he
    split at he
    · rename_i a l1 h1
      simp only [Option.map_eq_some_iff] at he
      obtain ⟨⟨as', l2⟩, h2, h3⟩ := he
      simp only [Prod.mk.injEq] at h3
      obtain ⟨rfl, rfl⟩ := h3
      obtain ⟨u, F1, r1, x1, y1, z1⟩ := resA_rel hi h.1 h1
      obtain ⟨us, F2, r2, x2, y2, z2⟩ := resAs_rel hi rvs krs h.2 h2
      refine ⟨u :: us, F1 ++ F2, by simp [r1, r2], ?_, fun g hg => ?_, fun hn => ?_⟩
      · simp only [ARs]
        exact ⟨u, us, F1, F2, rfl, rfl, x1, x2⟩
      · rcases List.mem_append.1 hg with hg | hg
        · obtain ⟨r, hr, h4⟩ := y1 g hg
          exact ⟨r, by simp [hr], h4⟩
        · obtain ⟨r, hr, h4⟩ := y2 g hg
          exact ⟨r, by simp [hr], h4⟩
      · rw [List.nodup_append] at hn
        rw [List.nodup_append]
        refine ⟨z1 hn.1, z2 hn.2.1, ?_⟩
        intro a ha b hb e
        subst e
        obtain ⟨r, hr, h4⟩ := y1 a ha
        obtain ⟨q, hq, h5⟩ := y2 a hb
        rw [h4] at h5
        cases h5
        exact hn.2.2 r hr r hq rfl
    · cases he

theorem outAs_rel (hi : Inv γ h0 io w0 s f w) {w1 : World} {h1 : Nat → Nat} : ∀ (as : List A) {vs : List Value} {F0 : List Nat} (p : Nat) {outs : List A} {l : List Nat}, outAs s p as = some (outs, l) → ARs h1 w1 as vs F0 → (∀ i cs g, as[i]? = some (.box cs) → vs[i]? = some (.pointer (some ⟨g, 0, none⟩)) → γ.β (900 + (p + i)) = g) →
    ∃ F, ARs γ.h w outs (outVals as vs) F ∧ (∀ g ∈ F, (∃ r ∈ l, γ.ω g = .row r) ∨ ∃ i, p ≤ i ∧ γ.ω g = .box (900 + i)) ∧ (l.Nodup → F.Nodup)
  | [], vs, F0, p, outs, l, he, ha, _ => by
    simp only [outAs, Option.some.injEq, Prod.mk.injEq] at he
    obtain ⟨rfl, rfl⟩ := he
    exact ⟨[], by simp [ARs, outVals], fun _ h => by simp at h, fun _ => by simp⟩
  | .val ag cs :: as, vs, F0, p, outs, l, he, ha, hβ => by
    simp only [ARs] at ha
    obtain ⟨v, vs', F1, F2, rfl, rfl, _, ha⟩ := ha
    simp only [outAs, outA, Option.map_eq_some_iff] at he
    obtain ⟨⟨l', r'⟩, h2, h3⟩ := he
    simp only [List.nil_append, Prod.mk.injEq] at h3
    obtain ⟨rfl, rfl⟩ := h3
    obtain ⟨F, x1, x2, x3⟩ := outAs_rel hi as (p + 1) h2 ha (fun i cs' g h4 h5 => by
      rw [show p + 1 + i = p + (i + 1) from by omega]
      exact hβ (i + 1) cs' g (by simpa using h4) (by simpa using h5))
    refine ⟨F, by simpa only [outVals] using x1, fun g hg => ?_, x3⟩
    rcases x2 g hg with h | ⟨i, h4, h5⟩
    · exact .inl h
    · exact .inr ⟨i, by omega, h5⟩
  | .box cs :: as, vs, F0, p, outs, l, he, ha, hβ => by
    simp only [ARs, AR] at ha
    obtain ⟨v, vs', F1, F2, rfl, rfl, ⟨g0, T0, us0, F0', rfl, _⟩, ha⟩ := ha
    simp only [outAs, outA] at he
    split at he
    · rename_i l1 r1 hh
      split at hh
      · rename_i bcs hl
        simp only [Option.map_eq_some_iff, Prod.mk.injEq] at hh
        obtain ⟨rs, hrs, rfl, rfl⟩ := hh
        simp only [Option.map_eq_some_iff] at he
        obtain ⟨⟨l', r'⟩, h2, h3⟩ := he
        simp only [Prod.mk.injEq] at h3
        obtain ⟨rfl, rfl⟩ := h3
        have hb0 := hβ 0 cs g0 rfl rfl
        rw [Nat.add_zero] at hb0
        obtain ⟨T, us, k1, k2, k3⟩ := hi.bx (900 + p) bcs hl
        obtain ⟨Fr, y1, y2, y3⟩ := wr_rel hi _ k2 hrs
        obtain ⟨F, x1, x2, x3⟩ := outAs_rel hi as (p + 1) h2 ha (fun i cs' g h4 h5 => by
          rw [show p + 1 + i = p + (i + 1) from by omega]
          exact hβ (i + 1) cs' g (by simpa using h4) (by simpa using h5))
        rw [hb0] at k1 k3
        refine ⟨(g0 :: Fr) ++ F, ?_, fun g hg => ?_, fun hn => ?_⟩
        · simp only [outVals, List.cons_append, List.nil_append, ARs]
          refine ⟨_, _, g0 :: Fr, F, rfl, rfl, ?_, x1⟩
          simp only [AR]
          exact ⟨g0, T, us, Fr, rfl, k1, hi.hbox _ _ k3, rfl, y1⟩
        · rcases List.mem_append.1 hg with hg | hg
          · rcases List.mem_cons.1 hg with rfl | hg
            · exact .inr ⟨p, Nat.le_refl _, k3⟩
            · obtain ⟨r, hr, h4⟩ := y2 g hg
              exact .inl ⟨r, by simp [hr], h4⟩
          · rcases x2 g hg with ⟨r, hr, h4⟩ | ⟨i, h4, h5⟩
            · exact .inl ⟨r, by simp [hr], h4⟩
            · exact .inr ⟨i, by omega, h5⟩
        · rw [List.nodup_append] at hn
          rw [List.nodup_append]
          refine ⟨List.nodup_cons.2 ⟨fun hm => ?_, y3 hn.1⟩, x3 hn.2.1, ?_⟩
          · obtain ⟨r, _, h4⟩ := y2 _ hm
            rw [k3] at h4; cases h4
          · intro a ha' b hb e
            subst e
            rcases List.mem_cons.1 ha' with rfl | ha'
            · rcases x2 _ hb with ⟨r, _, h4⟩ | ⟨i, h4, h5⟩
              · rw [k3] at h4; cases h4
              · rw [k3] at h5
                simp only [Own.box.injEq] at h5
                omega
            · obtain ⟨r, hr, h4⟩ := y2 a ha'
              rcases x2 a hb with ⟨q, hq, h5⟩ | ⟨i, _, h5⟩
              · rw [h4] at h5; cases h5; exact hn.2.2 r hr r hq rfl
              · rw [h4] at h5; cases h5
      · cases hh
    · cases he

theorem results_run {fn : Func} {us : List Value} (h : (fn.results.toList.mapM (resOne (fr f N).tmps)).run P w = .ok us w) : ∃ v, (results fn (fr f N).tmps).run P w = .ok v w ∧ RetV us v := by
  have h' : (fn.results.mapM (resOne (fr f N).tmps)).run P w = .ok us.toArray w := by
    rw [Array.mapM_eq_mapM_toList]
    simp [h]
  have e : results fn (fr f N).tmps = (do
      let vs ← fn.results.mapM (resOne (fr f N).tmps)
      pure (if h : vs.size = 1 then vs[0] else .tuple vs)) := by
    unfold results
    congr 1
  rw [e]
  simp only [Sem.run_bind, h', Result.andThen_ok, Sem.run_pure]
  by_cases hl : us.length = 1
  · obtain ⟨v, rfl⟩ := List.length_eq_one_iff.1 hl
    exact ⟨v, by simp, .inl rfl⟩
  · exact ⟨.tuple us.toArray, by simp [hl], .inr ⟨hl, rfl⟩⟩
end

/-- the body of a function, whatever is known of the functions that it calls -/
theorem fun_sound {P : Program} {num : Nat → FuncId} {cf : Nat → List A → Option (List A × List A)} {mf : Nat → Bool → List D → Int → Option (List D × Int)} (hm : P.follows .mixedOrders = true) (hcf : ∀ g a r o, cf g a = some (r, o) → CallOk P (num g) a r o) (hmf : ∀ g ag ds q ds' q', mf g ag ds q = some (ds', q') → MarkOk P (num g) ag ds q ds' q') {n f : Nat} {kf : KF} (hok : okF P num f kf = true) {args rs outs : List A} (he : runF cf mf n kf args = some (rs, outs)) : CallOk P (num f) args rs outs := by
      unfold runF at he
      split at he
      · rename_i hnp
        unfold okF at hok
        split at hok
        · rename_i fn hfn
          split at hok
          · rename_i c hc
            simp only [Bool.and_eq_true] at hok
            obtain ⟨⟨hok1, hok2⟩, hok3⟩ := hok
            intro w h vs F hA hnd hlt hnew
            have hvl : vs.length = args.length := by
              clear hok1 hok2 hok3 he hnp hnd hlt
              induction args generalizing vs F with
              | nil => simp only [ARs] at hA; simp [hA.1]
              | cons a as ih =>
                simp only [ARs] at hA
                obtain ⟨v, vs', F1, F2, rfl, rfl, _, hA⟩ := hA
                simp [ih _ _ hA]
            refine enter (N := fn.ntmps) hfn hc rfl (by simp only [List.size_toArray, hvl, hnp]; exact hok2) ?_
            have i0 : Inv ⟨h, fun _ => 0, fun _ => undef, fun g => if g ∈ F then .lim else .free⟩ h F w ⟨[], [], []⟩ (fun i => vs.toArray.getD i undef) w := {
              sl := fun d c hl => by simp [look] at hl
              bx := fun d c hl => by simp [look] at hl
              rw := fun d c hl => by simp [look] at hl
              own := fun g hg => by
                by_cases hF : g ∈ F
                · exact ⟨hlt g hF, .inr hF⟩
                · simp [hF] at hg
              hbox := fun g b hg => by dsimp only at hg; split at hg <;> cases hg
              hnew := hnew, os := rfl, tape := rfl, output := rfl, size := Nat.le_refl _, frame := fun _ _ _ => rfl, cell := fun _ _ _ _ => rfl, mono := fun _ _ => Nat.le_refl _, hold := fun _ _ _ => rfl, thaw := fun g hg j => frozen_out hg j, kthaw := fun _ h => h }
            obtain ⟨γ1, i1, e1, p1, x1⟩ := enterAs_rel args 0 i0 hA hnd (fun g hg => ⟨.inr (by simp [hg]), hlt g hg, .inr hg⟩) (fun i v hv => by
              rw [Nat.zero_add]
              have := (List.getElem?_eq_some_iff.1 hv)
              obtain ⟨hil, hiv⟩ := this
              simp [hil, hiv])
            have fin : ∀ (s : St) f' w', leave kf args s = some (rs, outs) → InvC γ1.β h F w s f' w' → ∃ v, (results fn (fr f' fn.ntmps).tmps).run P w' = .ok v w' ∧ ∃ v' us F1 F2 h', Ending.returned v = .returned v' ∧ RetV us v' ∧ ARs h' w' rs us F1 ∧ ARs h' w' outs (outVals args vs) F2 ∧ (F1 ++ F2).Nodup ∧ (∀ g ∈ F1 ++ F2, (w.heap.size ≤ g ∨ g ∈ F) ∧ g < w'.heap.size) ∧ Chg h F w w' h' := by
              intro s f' w' hlv ⟨γ, hi, hb⟩
              unfold leave at hlv
              split at hlv
              · rename_i rs' l outs' l' hr1 hr2
                split at hlv
                · rename_i hn
                  rw [nodupB_iff] at hn
                  simp only [Option.some.injEq, Prod.mk.injEq] at hlv
                  obtain ⟨rfl, rfl⟩ := hlv
                  obtain ⟨us, F1, k1, k2, k3, k4⟩ := resAs_rel hi fn.results.toList kf.res hok3 hr1
                  obtain ⟨F2, y1, y2, y3⟩ := outAs_rel hi args 0 hr2 hA (fun i cs g h4 h5 => by
                    rw [hb _ (by omega)]
                    exact x1 i cs g h4 h5)
                  obtain ⟨v, z1, z2⟩ := results_run k1
                  rw [List.nodup_append] at hn
                  refine ⟨v, z1, v, us, F1, F2, γ.h, rfl, z2, k2, y1, ?_, fun g hg => ?_, ⟨hi.os, hi.tape, hi.output, hi.size, hi.frame, hi.cell, hi.mono, hi.hold, hi.hnew, hi.thaw, hi.kthaw⟩⟩
                  · rw [List.nodup_append]
                    refine ⟨k4 hn.1, y3 hn.2.1, ?_⟩
                    intro a ha b hb' e
                    subst e
                    obtain ⟨r, hr, h4⟩ := k3 a ha
                    rcases y2 a hb' with ⟨q, hq, h5⟩ | ⟨i, _, h5⟩
                    · rw [h4] at h5; cases h5; exact hn.2.2 r hr r hq rfl
                    · rw [h4] at h5; cases h5
                  · have hne : γ.ω g ≠ .free := by
                      rcases List.mem_append.1 hg with hg | hg
                      · obtain ⟨r, _, h4⟩ := k3 g hg
                        rw [h4]; simp
                      · rcases y2 g hg with ⟨r, _, h4⟩ | ⟨i, _, h4⟩ <;> rw [h4] <;> simp
                    exact ⟨(hi.own g hne).2, (hi.own g hne).1⟩
                · cases hlv
              · cases hlv
            split at he
            · rename_i s hev
              refine w_mono (code_sound (β0 := γ1.β) hm hcf hmf n kf.body c hok1 hev ⟨γ1, i1, fun _ _ => rfl⟩) (fun f' w' hk => fin s f' w' he hk.2) (fun i f' w' hk => by cases hk.1) (fun f' w' hk => by cases hk.1)
            · rename_i s hev
              refine w_mono (code_sound (β0 := γ1.β) hm hcf hmf n kf.body c hok1 hev ⟨γ1, i1, fun _ _ => rfl⟩) (fun f' w' hk => by cases hk.1) (fun i f' w' hk => by cases hk.1) (fun f' w' hk => fin s f' w' he hk.2)
            · cases he
          · cases hok
        · cases hok
      · cases he

theorem evF_sound {P : Program} {num : Nat → FuncId} {T : Nat → Option KF} (hm : P.follows .mixedOrders = true) (hT : ∀ f kf, T f = some kf → okF P num f kf = true) :
    ∀ (n f : Nat) (args rs outs : List A), evF T n f args = some (rs, outs) → CallOk P (num f) args rs outs
  | 0, f, args, rs, outs, he => by simp [evF] at he
  | n + 1, f, args, rs, outs, he => by
    simp only [evF] at he
    split at he
    · cases he
    · rename_i kf hkf
      exact fun_sound hm (fun g a r o => evF_sound hm hT n g a r o) (fun g ag ds q ds' q' h => by cases h) (hT f kf hkf) he
end Go.Proofs.Ytmaigpiappmpcaa
