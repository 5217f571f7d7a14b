/-
  The machine for marks does what the program does: code and functions (evM_sound). No program is named here.
-/
import Derived.Test.YtmaigpiappmpcaaKMarko
namespace Go.Proofs.Ytmaigpiappmpcaa
set_option linter.unusedVariables false
set_option linter.unusedSimpArgs false
open Go.RowKit

section
variable {P : Program} {N : Nat} {t : Tree} {own : Bool} {h : Nat → Nat} {F : List Nat} {w0 : World} {num : Nat → FuncId} {cf : Nat → List A → Option (List A × List A)} {mf : Nat → Bool → List D → Int → Option (List D × Int)}

theorem ms_sound (hcf : ∀ g a r o, cf g a = some (r, o) → CallOk P (num g) a r o) (hmf : ∀ g ag ds q ds' q', mf g ag ds q = some (ds', q') → MarkOk P (num g) ag ds q ds' q') (hk : Tok t own h F w0) {ops : Array Oper} {Kn : Fm → World → Prop} :
    ∀ (os : List Oper) (is : List KI) {m m' : MS} {f : Fm} {w : World}, okOs P N num ops os is = true → evMs cf mf own t.k is m = some m' → MInv t h F w0 m f w → (∀ f' w', MInv t h F w0 m' f' w' → Kn f' w') → Ls P N ops Kn os f w
  | [], [], m, m', f, w, _, he, hi, hK => by
    simp only [evMs, Option.some.injEq] at he
    subst he
    exact l_nil (hK f w hi)
  | [], _ :: _, _, _, _, _, h, _, _, _ => by simp [okOs] at h
  | _ :: _, [], _, _, _, _, h, _, _, _ => by simp [okOs] at h
  | ⟨dst, op, ty, pos, aft, gd⟩ :: os, ⟨d, kop, kgd⟩ :: is, m, m', f, w, hok, he, hi, hK => by
    simp only [okOs, Bool.and_eq_true, okI, beq_iff_eq] at hok
    obtain ⟨⟨⟨⟨rfl, hd⟩, hg⟩, hop⟩, hrest⟩ := hok
    simp only [evMs] at he
    split at he
    · rename_i m1 h1
      unfold evMI at h1
      cases kgd with
      | some x => cases h1
      | none =>
        cases gd with
        | some x => simp [okG] at hg
        | none =>
          refine l_op wn ?_
          simp only at h1
          cases dst with
          | some d =>
            simp only at h1
            refine m1_sound hcf hmf hi hk ?_ h1 (fun f' w' hi' => ms_sound hcf hmf hk os is hrest he hi' hK)
            split at hop
            · rename_i hp; simp only [hp, if_true]; simp only [Option.isSome_some, Bool.true_and] at hop; exact hop
            · rename_i hp; simp only [hp]; exact hop
          | none =>
            simp only at h1
            refine m0_sound (num := num) hi hk ?_ h1 (fun f' w' hi' => ms_sound hcf hmf hk os is hrest he hi' hK)
            split at hop
            · simp at hop
            · rename_i hp; simp only [hp]; exact hop
    · cases he

theorem MInv.keep {m : MS} {f : Fm} {w : World} (hi : MInv t h F w0 m f w) (kp : Keep) : MInv t h F w0 (m.keep kp) f w :=
  ⟨hi.inv.sub (fun d c hl => look_keep _ _ d c hl) (fun d c hl => look_keep _ _ d c hl) (fun d c hl => look_keep _ _ d c hl), hi.mt, fun d c hl => hi.sp d c (look_keep _ _ d c hl), hi.lt⟩

theorem mcode_sound (hcf : ∀ g a r o, cf g a = some (r, o) → CallOk P (num g) a r o) (hmf : ∀ g ag ds q ds' q', mf g ag ds q = some (ds', q') → MarkOk P (num g) ag ds q ds' q') (hk : Tok t own h F w0) (n : Nat) : ∀ (k : K) (c : Code) {m : MS} {f : Fm} {w : World} {e : Ex} {m' : MS}, okC P N num k c = true → evMC cf mf own t.k n k m = some (e, m') → MInv t h F w0 m f w →
    W P N c (fun f w => e = .norm ∧ MInv t h F w0 m' f w) (fun i f w => e = .exit i ∧ MInv t h F w0 m' f w) (fun f w => e = .ret ∧ MInv t h F w0 m' f w) f w
  | .skip, c, m, f, w, e, m', hok, he, hi => by
    cases c <;> simp [okC] at hok
    simp only [evMC, Option.some.injEq, Prod.mk.injEq] at he
    obtain ⟨rfl, rfl⟩ := he
    exact w_skip ⟨rfl, hi⟩
  | .reg is kp, c, m, f, w, e, m', hok, he, hi => by
    cases c with
    | region id ops draw =>
      cases draw with
      | true => simp [okC] at hok
      | false =>
        simp only [okC] at hok
        simp only [evMC] at he
        split at he
        · rename_i m1 h1
          simp only [Option.some.injEq, Prod.mk.injEq] at he
          obtain ⟨rfl, rfl⟩ := he
          have hl := ms_sound (Kn := fun f w => Ex.norm = .norm ∧ MInv t h F w0 (m1.keep kp) f w) hcf hmf hk ops.toList is hok h1 hi (fun f' w' hi' => ⟨rfl, hi'.keep kp⟩)
          obtain ⟨l⟩ := ops
          exact w_region (l := l) hl
        · cases he
    | _ => simp [okC] at hok
  | .drw is kp, c, m, f, w, e, m', hok, he, hi => by simp [evMC] at he
  | .seq a b, c, m, f, w, e, m', hok, he, hi => by
    cases c with
    | seq ca cb =>
      simp only [okC, Bool.and_eq_true] at hok
      simp only [evMC] at he
      refine w_seq ?_
      split at he
      · rename_i m1 h1
        refine w_mono (mcode_sound hcf hmf hk n a ca hok.1 h1 hi) (fun f w hk' => mcode_sound hcf hmf hk n b cb hok.2 he hk'.2) (fun i f w hk' => ?_) (fun f w hk' => ?_)
        · cases hk'.1
        · cases hk'.1
      · rename_i hne
        refine w_mono (mcode_sound hcf hmf hk n a ca hok.1 he hi) (fun f w hk' => ?_) (fun i f w hk' => hk') (fun f w hk' => hk')
        obtain ⟨rfl, _⟩ := hk'
        exact absurd he (hne m')
    | _ => simp [okC] at hok
  | .cond x a b, c, m, f, w, e, m', hok, he, hi => by
    cases c with
    | cond y ca cb =>
      simp only [okC, Bool.and_eq_true] at hok
      obtain ⟨⟨h1, h2⟩, h3⟩ := hok
      simp only [evMC] at he
      have hv := evX_rel hi.inv h1
      split at he
      · rename_i b0 ht
        rw [ht] at hv
        have hv := cr_bool hv
        cases b0 with
        | true => exact w_if_t hv (mcode_sound hcf hmf hk n a ca h2 (by simpa using he) hi)
        | false => exact w_if_f hv (mcode_sound hcf hmf hk n b cb h3 (by simpa using he) hi)
      · cases he
    | _ => simp [okC] at hok
  | .block i a, c, m, f, w, e, m', hok, he, hi => by
    cases c with
    | block j ca =>
      simp only [okC, Bool.and_eq_true, beq_iff_eq] at hok
      obtain ⟨rfl, hok⟩ := hok
      simp only [evMC] at he
      refine w_block ?_
      split at he
      · rename_i i' m1 h1
        refine w_mono (mcode_sound hcf hmf hk n a ca hok h1 hi) (fun f w hk' => by cases hk'.1) (fun q f w hk' => ?_) (fun f w hk' => by cases hk'.1)
        obtain ⟨e1, hk'⟩ := hk'
        cases e1
        split at he
        · rename_i hii
          simp only [Option.some.injEq, Prod.mk.injEq] at he
          obtain ⟨rfl, rfl⟩ := he
          rw [if_pos hii]; exact ⟨rfl, hk'⟩
        · rename_i hii
          simp only [Option.some.injEq, Prod.mk.injEq] at he
          obtain ⟨rfl, rfl⟩ := he
          rw [if_neg hii]; exact ⟨rfl, hk'⟩
      · rename_i hne
        refine w_mono (mcode_sound hcf hmf hk n a ca hok he hi) (fun f w hk' => hk') (fun q f w hk' => ?_) (fun f w hk' => hk')
        obtain ⟨rfl, _⟩ := hk'
        exact absurd he (hne q m')
    | _ => simp [okC] at hok
  | .loop a, c, m, f, w, e, m', hok, he, hi => by
    cases c with
    | loop ca =>
      simp only [okC] at hok
      simp only [evMC] at he
      refine w_loop (fun z f w => ∃ m, MInv t h F w0 m f w ∧ iterM (evMC cf mf own t.k n a) z m = some (e, m')) n ⟨m, hi, he⟩ ?_
      rintro z f w ⟨m, hi, he⟩
      cases z with
      | zero => simp [iterM] at he
      | succ z =>
        simp only [iterM] at he
        split at he
        · rename_i m1 h1
          refine w_mono (mcode_sound hcf hmf hk n a ca hok h1 hi) (fun f w hk' => ⟨z, by omega, m1, hk'.2, he⟩) (fun i f w hk' => by cases hk'.1) (fun f w hk' => by cases hk'.1)
        · rename_i hne
          refine w_mono (mcode_sound hcf hmf hk n a ca hok he hi) (fun f w hk' => ?_) (fun i f w hk' => hk') (fun f w hk' => hk')
          obtain ⟨rfl, _⟩ := hk'
          exact absurd he (hne m')
    | _ => simp [okC] at hok
  | .exit i, c, m, f, w, e, m', hok, he, hi => by
    cases c <;> simp [okC] at hok
    subst hok
    simp only [evMC, Option.some.injEq, Prod.mk.injEq] at he
    obtain ⟨rfl, rfl⟩ := he
    exact w_exit ⟨rfl, hi⟩
  | .ret, c, m, f, w, e, m', hok, he, hi => by
    cases c <;> simp [okC] at hok
    simp only [evMC, Option.some.injEq, Prod.mk.injEq] at he
    obtain ⟨rfl, rfl⟩ := he
    exact w_ret ⟨rfl, hi⟩
  | .share r a, c, m, f, w, e, m', hok, he, hi => by simp [evMC] at he
  | .dat d a, c, m, f, w, e, m', hok, he, hi => by simp [evMC] at he
end

theorem outM_split {r : Nat} {x : Option (Ex × MS)} {es : List (List D)} {q : Int} (h : outM r x = some (es, q)) : ∃ e m, x = some (e, m) ∧ (e = .norm ∨ e = .ret) ∧ m.s.get r = .d (.int .i64 q) ∧ m.es = es := by
  unfold outM at h
  split at h
  · rename_i m
    split at h
    · rename_i q' hq
      simp only [Option.some.injEq, Prod.mk.injEq] at h
      obtain ⟨rfl, rfl⟩ := h
      exact ⟨_, m, rfl, .inl rfl, hq, rfl⟩
    · cases h
  · rename_i m
    split at h
    · rename_i q' hq
      simp only [Option.some.injEq, Prod.mk.injEq] at h
      obtain ⟨rfl, rfl⟩ := h
      exact ⟨_, m, rfl, .inr rfl, hq, rfl⟩
    · cases h
  · cases h
theorem Inv.chg {h : Nat → Nat} {F : List Nat} {w0 : World} {s : St} {f : Fm} {w : World} (hi : Inv (γM h F) h F w0 s f w) : Chg h F w0 w h :=
  ⟨hi.os, hi.tape, hi.output, hi.size, hi.frame, hi.cell, hi.mono, hi.hold, hi.hnew, hi.thaw, hi.kthaw⟩
theorem flat_pl {es : List (List D)} (h : ∀ b ∈ es.flatten.map D.plain, b = true) : flat es := fun e he x hx => h _ (List.mem_map_of_mem (List.mem_flatten.2 ⟨e, he, hx⟩))

theorem evM_sound {P : Program} {num : Nat → FuncId} {T : Nat → Option KF} (hm : P.follows .mixedOrders = true) (hT : ∀ f kf, T f = some kf → okF P num f kf = true) :
    ∀ (n f : Nat) (ag : Bool) (ds : List D) (q : Int) (ds' : List D) (q' : Int), evM T n f ag ds q = some (ds', q') → MarkOk P (num f) ag ds q ds' q'
  | 0, f, ag, ds, q, ds', q', he => by simp [evM] at he
  | n + 1, f, ag, ds, q, ds', q', he => by
    have hcf : ∀ g a r o, evF T n g a = some (r, o) → CallOk P (num g) a r o := fun g a r o => evF_sound hm hT n g a r o
    have hmf : ∀ g ag ds q ds' q', evM T n g ag ds q = some (ds', q') → MarkOk P (num g) ag ds q ds' q' := fun g ag ds q ds' q' => evM_sound hm hT n g ag ds q ds' q'
    simp only [evM] at he
    split at he
    · rename_i body r hkf
      have hok := hT f _ hkf
      unfold okF at hok
      split at hok
      · rename_i fn hfn
        split at hok
        · rename_i c hc
          simp only [Bool.and_eq_true] at hok
          obtain ⟨⟨hok1, hok2⟩, hok3⟩ := hok
          intro w h v vs Fs hr hag1 hag2 hq hnd hz hnew
          have hlt : ∀ g ∈ Fs.flatten.map Prod.fst, g < w.heap.size := fun g hg => by
            obtain ⟨be, hb, rfl⟩ := List.mem_map.1 hg
            exact RpC.lt _ (RpL.toC _ hr) be hb
          have hzero : ∀ g ∈ Fs.flatten.map Prod.fst, h g = 0 ∧ Thaw w g ∧ g < w.heap.size := fun g hg => by
            have hl := hlt g hg
            obtain ⟨be, hb, rfl⟩ := List.mem_map.1 hg
            obtain ⟨G, hG, hb⟩ := List.mem_flatten.1 hb
            exact ⟨(hz G hG be hb).1, (hz G hG be hb).2, hl⟩
          refine enter (N := fn.ntmps) hfn hc rfl hok2 ?_
          have i0 : Inv (γM h (Fs.flatten.map Prod.fst)) h (Fs.flatten.map Prod.fst) w ⟨[], [], []⟩ (fun i => #[v, .int .i64 q].getD i undef) w := {
            sl := fun d c hl => by simp [look] at hl
            bx := fun d c hl => by simp [look] at hl
            rw := fun d c hl => by simp [look] at hl
            own := fun g hg => by
              by_cases hF : g ∈ Fs.flatten.map Prod.fst
              · exact ⟨hlt g hF, .inr hF⟩
              · simp only [if_neg hF] at hg; exact absurd rfl hg
            hbox := fun g b hg => by dsimp only at hg; split at hg <;> cases hg
            hnew := hnew, os := rfl, tape := rfl, output := rfl, size := Nat.le_refl _, frame := fun _ _ _ => rfl, cell := fun _ _ _ _ => rfl, mono := fun _ _ => Nat.le_refl _, hold := fun _ _ _ => rfl, thaw := fun g hg j => frozen_out hg j, kthaw := fun _ h => h }
          have i1 : Inv (γM h (Fs.flatten.map Prod.fst)) h (Fs.flatten.map Prod.fst) w ⟨[(1, .d (.int .i64 q))], [], []⟩ (fun i => #[v, .int .i64 q].getD i undef) w := i0.put' 1 _ (rp_int hq)
          -- the result
          have hres : fn.results = #[.tmp r] ∧ Nat.blt r fn.ntmps = true := by
            obtain ⟨rs⟩ : ∃ rs, rs = fn.results.toList := ⟨_, rfl⟩
            match hl : fn.results.toList, hok3 with
            | [], h => rw [hl] at hok3; simp [okRs] at hok3
            | _ :: _ :: _, h => rw [hl] at hok3; simp [okRs] at hok3
            | [x], h =>
              rw [hl] at hok3
              simp only [okRs, Bool.and_true] at hok3
              cases x with
              | cell a T => simp [okR1] at hok3
              | tmp a =>
                simp only [okR1, Bool.and_eq_true, beq_iff_eq] at hok3
                obtain ⟨rfl, h2⟩ := hok3
                exact ⟨by rw [← Array.toArray_toList (xs := fn.results), hl], h2⟩
          split at he
          · rename_i hag
            subst hag
            have hva := hag1 rfl
            split at he
            · rename_i b is kp body'
              split at he
              · rename_i m1 hev1
                split at he
                · rename_i cells' q1 hout
                  simp only [Option.some.injEq, Prod.mk.injEq] at he
                  obtain ⟨rfl, rfl⟩ := he
                  obtain ⟨ex, m', hev, hex, hget, hes⟩ := outM_split hout
                  cases c with
                  | seq ca cb =>
                    simp only [okC, Bool.and_eq_true] at hok1
                    obtain ⟨hoka, hokb⟩ := hok1
                    cases ca with
                    | region id ops draw =>
                      cases draw with
                      | true => simp [okC] at hoka
                      | false =>
                        simp only [okC] at hoka
                        refine w_seq ?_
                        obtain ⟨l⟩ := ops
                        refine w_region (l := l) ?_
                        cases l with
                        | nil => simp [okOs] at hoka
                        | cons o1 os =>
                          obtain ⟨dst, op, ty, pos, aft, gd⟩ := o1
                          simp only [okOs, Bool.and_eq_true, okI, beq_iff_eq] at hoka
                          obtain ⟨⟨⟨⟨rfl, hd⟩, hg⟩, hop⟩, hrest⟩ := hoka
                          cases gd with
                          | some x => simp [okG] at hg
                          | none =>
                            simp only [KO.pure_, Bool.false_eq_true, if_false] at hop
                            cases op <;> first | (exfalso; simp [okN] at hop; done) | skip
                            rename_i T0 x0
                            simp only [okN] at hop
                            have hx0 : (fr (fun i => #[v, .int .i64 q].getD i undef) fn.ntmps).eval x0 = v := by
                              cases x0 <;> simp only [okX, Bool.and_eq_true, beq_iff_eq, Bool.false_eq_true] at hop
                              obtain ⟨rfl, hN⟩ := hop
                              rw [fr_eval _ (by simpa using hN)]
                              rfl
                            refine l_op wn ?_
                            have hrun : (execOp (fr (fun i => #[v, .int .i64 q].getD i undef) fn.ntmps).eval ⟨some b, .box T0 x0, ty, pos, aft, none⟩).run P w = .ok (.value (.pointer (some ⟨w.heap.size, 0, none⟩))) (w.alloc (.cells vs.toArray T0)) := by
                              have h0 : (execOp (fr (fun i => #[v, .int .i64 q].getD i undef) fn.ntmps).eval ⟨some b, .box T0 x0, ty, pos, aft, none⟩).run P w = .ok (.value (.pointer (some ⟨w.heap.size, 0, none⟩))) (w.alloc (.cells ((fr (fun i => #[v, .int .i64 q].getD i undef) fn.ntmps).eval x0).cells.toList.toArray T0)) := by
                                simp [execOp, Instr.box, newVar, newRow, newObj, Sem.run]
                              rw [hx0] at h0
                              have h3 : v.cells.toList.toArray = vs.toArray := by rw [hva]; simp [Value.cells]
                              rw [h3] at h0
                              exact h0
                            refine o_new hrun fun w1 hs1 hk1 hB => ?_
                            obtain ⟨l1, l2⟩ := RpL.length _ hr
                            have htok : Tok ⟨w.heap.size, 0, ds.length, 1, Fs, vs, ds.map D.plain, true⟩ false h (Fs.flatten.map Prod.fst) w := ⟨fun G hG be hb => by
                                have hm1 : be.1 ∈ Fs.flatten.map Prod.fst := List.mem_map_of_mem (List.mem_flatten.2 ⟨G, hG, hb⟩)
                                have := hlt _ hm1
                                exact ⟨hm1, fun e => by simp only at e; omega⟩, hnd, hzero, fun h => by cases h⟩
                            have hkr : RpL w1 ds vs Fs := RpL.keep _ hr (fun G hG be hb => hk1.block _ (hlt _ (List.mem_map_of_mem (List.mem_flatten.2 ⟨G, hG, hb⟩))))
                            have iw : Inv (γM h (Fs.flatten.map Prod.fst)) h (Fs.flatten.map Prod.fst) w ⟨[(1, .d (.int .i64 q))], [], []⟩ (fun i => #[v, .int .i64 q].getD i undef) w1 := i1.bel hk1
                            have hmi0 : MInv ⟨w.heap.size, 0, ds.length, 1, Fs, vs, ds.map D.plain, true⟩ h (Fs.flatten.map Prod.fst) w ⟨⟨[(1, .d (.int .i64 q))], [], []⟩, [], [ds]⟩ (fun i => #[v, .int .i64 q].getD i undef) w1 :=
                              ⟨iw, ⟨rfl, fun e he => (by simp at he; simp [he]), by simp, vs, by simpa using hkr, hB.lies, fun _ _ => rfl, fun _ => rfl⟩, fun d c hl => by simp [look] at hl, .inr (by simp only; omega)⟩
                            have hmi1 := hmi0.putS (d := b) (c := .ep 0 0) (v := .pointer (some ⟨w.heap.size, 0, none⟩)) (by simp [SpR])
                            refine ms_sound hcf hmf htok os is hrest hev1 hmi1 fun f2 w2 hi2 => ?_
                            have hbody := mcode_sound (P := P) (N := fn.ntmps) (num := num) hcf hmf htok n body' cb hokb hev (hi2.keep kp)
                            have done : ∀ f' w', MInv ⟨w.heap.size, 0, ds.length, 1, Fs, vs, ds.map D.plain, true⟩ h (Fs.flatten.map Prod.fst) w m' f' w' → ∃ u, (results fn (fr f' fn.ntmps).tmps).run P w' = .ok u w' ∧ Ending.returned u = .returned (.int .i64 q1) ∧ IntKind.i64.wrap q1 = q1 ∧ RpL w' cells' vs Fs ∧ cells'.map D.plain = ds.map D.plain ∧ Chg h (Fs.flatten.map Prod.fst) w w' h := by
                              intro f' w' hi'
                              have hg := hi'.inv.get r
                              rw [hget] at hg
                              obtain ⟨g1, g2⟩ := cr_int hg
                              obtain ⟨m1', m2', m3', xs', m4', m5', m6', m7'⟩ := hi'.mt
                              rw [hes] at m3' m4'
                              have e1 := m7' rfl
                              simp only at e1
                              subst e1
                              refine ⟨_, r_tmp hres.1 g1 hres.2, rfl, g2, by simpa using m4', by simpa using m3', hi'.inv.chg⟩
                            refine w_mono hbody (fun f' w' hk' => done f' w' hk'.2) (fun i f' w' hk' => ?_) (fun f' w' hk' => done f' w' hk'.2)
                            rcases hex with rfl | rfl <;> cases hk'.1
                    | _ => simp [okC] at hoka
                  | _ => simp [okC] at hok1
                · cases he
              · cases he
            · cases he
          · rename_i hag
            have hag : ag = false := by simpa using hag
            subst hag
            split at he
            · rename_i k fl es
              split at he
              · rename_i es' q1 hout
                simp only [Option.some.injEq, Prod.mk.injEq] at he
                obtain ⟨rfl, rfl⟩ := he
                obtain ⟨ex, m', hev, hex, hget, rfl⟩ := outM_split hout
                have hv := hag2 rfl
                subst hv
                simp only [RpL] at hr
                obtain ⟨v', _, F1, _, hvv, rfl, hrp, rfl, rfl⟩ := hr
                simp only [List.cons.injEq, and_true] at hvv
                subst hvv
                simp only [List.flatten_cons, List.flatten_nil, List.append_nil] at *
                have hrp0 := hrp
                simp only [Rp] at hrp
                obtain ⟨A, n0, cc, hvA, hn0, hnc, hcm, hfl, hkp, hks, hcase⟩ := hrp
                -- what the loop leaves
                have fin : ∀ (t : Tree), Tok t true h (F1.map Prod.fst) w → t.k = k → MInv t h (F1.map Prod.fst) w ⟨⟨[(1, .d (.int .i64 q))], [], []⟩, [(0, .lst)], es⟩ (fun i => #[v, .int .i64 q].getD i undef) w →
                    (∀ f' w', MInv t h (F1.map Prod.fst) w m' f' w' → Rp w' (.list k fl m'.es) v F1) → W P fn.ntmps c (fun f w' => ∃ u, (results fn (fr f fn.ntmps).tmps).run P w' = .ok u w' ∧ Ending.returned u = .returned (.int .i64 q1) ∧ IntKind.i64.wrap q1 = q1 ∧ RpL w' [.list k fl m'.es] [v] [F1] ∧ [D.list k fl m'.es].map D.plain = [D.list k fl es].map D.plain ∧ Chg h (F1.map Prod.fst) w w' h) (fun _ _ _ => False) (fun f w' => ∃ u, (results fn (fr f fn.ntmps).tmps).run P w' = .ok u w' ∧ Ending.returned u = .returned (.int .i64 q1) ∧ IntKind.i64.wrap q1 = q1 ∧ RpL w' [.list k fl m'.es] [v] [F1] ∧ [D.list k fl m'.es].map D.plain = [D.list k fl es].map D.plain ∧ Chg h (F1.map Prod.fst) w w' h) (fun i => #[v, .int .i64 q].getD i undef) w := by
                  intro t htok htk hmi hback
                  subst htk
                  have hbody := mcode_sound (P := P) (N := fn.ntmps) (num := num) hcf hmf htok n body c hok1 hev hmi
                  have done : ∀ f' w', MInv t h (F1.map Prod.fst) w m' f' w' → ∃ u, (results fn (fr f' fn.ntmps).tmps).run P w' = .ok u w' ∧ Ending.returned u = .returned (.int .i64 q1) ∧ IntKind.i64.wrap q1 = q1 ∧ RpL w' [.list t.k fl m'.es] [v] [F1] ∧ [D.list t.k fl m'.es].map D.plain = [D.list t.k fl es].map D.plain ∧ Chg h (F1.map Prod.fst) w w' h := by
                    intro f' w' hi'
                    have hg := hi'.inv.get r
                    rw [hget] at hg
                    obtain ⟨g1, g2⟩ := cr_int hg
                    refine ⟨_, r_tmp hres.1 g1 hres.2, rfl, g2, ?_, rfl, hi'.inv.chg⟩
                    simp only [RpL]
                    exact ⟨v, [], F1, [], rfl, rfl, hback f' w' hi', rfl, rfl⟩
                  refine w_mono hbody (fun f' w' hk' => done f' w' hk'.2) (fun i f' w' hk' => ?_) (fun f' w' hk' => done f' w' hk'.2)
                  rcases hex with rfl | rfl <;> cases hk'.1
                rcases hcase with ⟨hn00, hF0⟩ | ⟨hnp, b, o, xs, G, hA, hF1, hE, hL⟩
                · subst hF0
                  have hes : es = [] := List.length_eq_zero_iff.1 (by omega)
                  subst hes
                  refine fin ⟨0, 0, k, 0, [], [], [], false⟩ ⟨fun G hG => by simp at hG, by simp, fun g hg => by simp at hg, fun _ => ⟨.inl rfl, rfl⟩⟩ rfl ⟨i1, ⟨rfl, fun e he => by simp at he, rfl, [], by simp [RpL], fun j u hu => by simp at hu, fun j hj => by simp at hj, fun h => by cases h⟩, fun d c hl => ?_, .inl rfl⟩ (fun f' w' hi' => ?_)
                  · simp only [look] at hl
                    split at hl
                    · rename_i hd
                      subst hd
                      simp only [Option.some.injEq] at hl
                      subst hl
                      simp only [SpR]
                      exact ⟨A, cc, by simpa [hn00] using hvA, .inl trivial, Nat.zero_le _⟩
                    · cases hl
                  · have : m'.es = [] := List.length_eq_zero_iff.1 hi'.mt.1
                    rw [this]
                    simp only [Rp]
                    exact ⟨A, n0, cc, hvA, by simpa using hn0, hnc, hcm, fun _ => flat_nil, hkp, fun e he => by simp at he, .inl ⟨hn00, trivial⟩⟩
                · subst hF1
                  obtain ⟨Gs, rfl, hGs⟩ := RpL.ofC _ (RpE.toFlat _ hE)
                  simp only [List.map_cons] at hnd hzero i1 fin
                  obtain ⟨hb1, hb2⟩ := List.nodup_cons.1 hnd
                  refine fin ⟨b, o, k, n0, Gs, xs, es.flatten.map D.plain, false⟩ ⟨fun G hG be hb => ?_, hb2, hzero, fun _ => ⟨.inr (by simp), rfl⟩⟩ rfl ⟨i1, ⟨hn0.symm, hks, rfl, xs, hGs, hL, fun _ _ => rfl, fun h => by cases h⟩, fun d c hl => ?_, .inr (hlt b (by simp))⟩ (fun f' w' hi' => ?_)
                  · have hm1 : be.1 ∈ Gs.flatten.map Prod.fst := List.mem_map_of_mem (List.mem_flatten.2 ⟨G, hG, hb⟩)
                    exact ⟨List.mem_cons_of_mem _ hm1, fun e => hb1 ((show be.1 = b from e) ▸ hm1)⟩
                  · simp only [look] at hl
                    split at hl
                    · rename_i hd
                      subst hd
                      simp only [Option.some.injEq] at hl
                      subst hl
                      simp only [SpR]
                      exact ⟨A, cc, by simpa using hvA, .inr hA, by omega⟩
                    · cases hl
                  · obtain ⟨m1, m2, m3, xs', m4, m5, m6⟩ := hi'.mt
                    simp only [Rp]
                    refine ⟨A, n0, cc, hvA, m1.symm, hnc, hcm, fun hf => ?_, hkp, m2, .inr ⟨hnp, b, o, xs', Gs.flatten, hA, rfl, RpE.ofFlat _ (RpL.toC _ m4), m5⟩⟩
                    refine flat_pl fun x hx => ?_
                    simp only at m3
                    rw [m3] at hx
                    obtain ⟨y, hy, rfl⟩ := List.mem_map.1 hx
                    obtain ⟨e, he, hy⟩ := List.mem_flatten.1 hy
                    exact hfl hf e he y hy
              · cases he
            · cases he
        · cases hok
      · cases hok
    · cases he
end Go.Proofs.Ytmaigpiappmpcaa
