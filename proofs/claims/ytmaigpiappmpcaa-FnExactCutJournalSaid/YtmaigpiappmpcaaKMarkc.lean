/-
  The machine for marks does what the program does: calls and stores. No program is named here.
-/
import Derived.Test.YtmaigpiappmpcaaKMarks
namespace Go.Proofs.Ytmaigpiappmpcaa
set_option linter.unusedVariables false
set_option linter.unusedSimpArgs false
open Go.RowKit

section
variable {P : Program} {N : Nat} {t : Tree} {own : Bool} {h : Nat → Nat} {F : List Nat} {w0 : World} {m : MS} {f : Fm} {w w' : World}

theorem adv_chg (hi : Inv (γM h F) h F w0 m.s f w) {Fb : List Nat} {h' : Nat → Nat} (hc : Chg h Fb w w' h') (hs : ∀ g ∈ Fb, g ∈ F) : Adv (γM h F) (fun o => o = .lim) w w' where
  os := hc.os
  tape := hc.tape
  output := hc.output
  size := hc.size
  block g hg hn := hc.block g hg (fun hm => hn (by simp [hs g hm]))
  cell g j hj := by
    rcases Nat.lt_or_ge g w.heap.size with hl | hl
    · exact hc.cell g j hl hj
    · have := hi.hnew g hl
      simp only at this hj
      omega
  thaw := hc.thaw
  kthaw := hc.kthaw

theorem map_splC {α β : Type} (f : α → β) (l ns : List α) (o : Nat) : (splC l o ns).map f = splC (l.map f) o (ns.map f) := by
  simp [splC, List.map_append, List.map_take, List.map_drop]
theorem mem_take_drop {α : Type} (l : List α) (j n : Nat) : l = l.take j ++ ((l.drop j).take n ++ l.drop (j + n)) := by
  rw [show l.drop (j + n) = (l.drop j).drop n by rw [List.drop_drop], List.take_append_drop, List.take_append_drop]
/-- a range of cells is marked -/
theorem MT.mark (hm : MT t w m.es) (hk : Tok t own h F w0) {i o n : Nat} {e : List D} (he : nth m.es i = some e) (hn : o + n ≤ t.k) {ds' : List D} {h' : Nat → Nat} {xs : List Value} (hx : RpL w m.es.flatten xs t.Fs) (hL : Lies w t.g t.p xs) (hV : (∀ j : Nat, t.pl[j]? = some false → xs[j]? = t.hv[j]?) ∧ (t.ro = true → xs = t.hv))
    (hg : t.n = 0 ∨ t.g < w.heap.size) (hF : ∀ g ∈ F, g < w.heap.size)
    (hr : RpL w' ds' ((xs.drop (i * t.k + o)).take n) ((t.Fs.drop (i * t.k + o)).take n)) (hp : ds'.map D.plain = ((e.drop o).take n).map D.plain) (hc : Chg h (((t.Fs.drop (i * t.k + o)).take n).flatten.map Prod.fst) w w' h') : MT t w' (m.es.set i (splC e o ds')) ∧ (t.n = 0 ∨ w'.heap[t.g]? = w.heap[t.g]?) := by
  obtain ⟨h1, h2, h3, _⟩ := hm
  obtain ⟨f1, f2⟩ := flat_sub m.es i o n e h2 he hn
  have hel : e.length = t.k := h2 e (List.mem_of_getElem? (by rw [← nth_get]; exact he))
  have hdl : ds'.length = n := by
    have := congrArg List.length hp
    simp only [List.length_map, List.length_take, List.length_drop] at this
    omega
  obtain ⟨l1, l2⟩ := RpL.length _ hx
  generalize hj : i * t.k + o = j at *
  have hmid : ∀ G ∈ (t.Fs.drop j).take n, G ∈ t.Fs := fun G hG => List.mem_of_mem_drop (List.mem_of_mem_take hG)
  have hgb : t.n = 0 ∨ w'.heap[t.g]? = w.heap[t.g]? := by
    rcases hg with hg | hg
    · exact .inl hg
    · refine .inr (hc.block _ hg ?_)
      intro hm
      obtain ⟨be, hb, e⟩ := List.mem_map.1 hm
      obtain ⟨G, hG, hb⟩ := List.mem_flatten.1 hb
      exact (hk.fs G (hmid G hG) be hb).2 e
  have hnd := hk.nd
  rw [mem_take_drop t.Fs j n] at hnd
  simp only [List.flatten_append, List.map_append] at hnd
  have hout : ∀ G, (G ∈ t.Fs.take j ∨ G ∈ t.Fs.drop (j + n)) → ∀ be ∈ G, w'.heap[be.1]? = w.heap[be.1]? := by
    intro G hG be hb
    have hGF : G ∈ t.Fs := by
      rcases hG with hG | hG
      · exact List.mem_of_mem_take hG
      · exact List.mem_of_mem_drop hG
    refine hc.block _ (hF _ (hk.fs G hGF be hb).1) ?_
    intro hm
    rw [List.nodup_append] at hnd
    obtain ⟨_, hnd2, hdis⟩ := hnd
    rw [List.nodup_append] at hnd2
    rcases hG with hG | hG
    · exact hdis be.1 (List.mem_map_of_mem (List.mem_flatten.2 ⟨G, hG, hb⟩)) be.1 (List.mem_append.2 (.inl hm)) rfl
    · exact hnd2.2.2 be.1 hm be.1 (List.mem_map_of_mem (List.mem_flatten.2 ⟨G, hG, hb⟩)) rfl
  have hflat : (m.es.set i (splC e o ds')).flatten = splC m.es.flatten j ds' := by
    rw [flat_spl m.es i o e ds' h2 he (by omega), hj]
  have hall : RpL w' (splC m.es.flatten j ds') xs t.Fs := by
    have a1 := RpL.keep _ (RpL.take _ j hx) (fun G hG => hout G (.inl hG))
    have a2 := RpL.keep _ (RpL.drop _ (j + n) hx) (fun G hG => hout G (.inr hG))
    have a3 := RpL.append _ (RpL.append _ a1 hr) a2
    have e1 : xs.take j ++ (xs.drop j).take n ++ xs.drop (j + n) = xs := by rw [List.append_assoc]; exact (mem_take_drop xs j n).symm
    have e2 : t.Fs.take j ++ (t.Fs.drop j).take n ++ t.Fs.drop (j + n) = t.Fs := by rw [List.append_assoc]; exact (mem_take_drop t.Fs j n).symm
    rw [e1, e2] at a3
    unfold splC
    rw [hdl]
    exact a3
  refine ⟨⟨by simp [h1], fun y hy => ?_, ?_, xs, by rw [hflat]; exact hall, ?_, hV⟩, hgb⟩
  · rcases List.mem_or_eq_of_mem_set hy with hy | rfl
    · exact h2 y hy
    · rw [splC_length _ _ _ (by omega)]; exact hel
  · rw [hflat, map_splC, hp, ← f1, List.map_take, List.map_drop, splC_same _ _ _ (by rw [List.length_map]; exact f2)]
    exact h3
  · rcases hgb with hg0 | hgb
    · rw [flat_len _ h2, h1, hg0, Nat.zero_mul] at l1
      have : xs = [] := List.length_eq_zero_iff.1 l1
      subst this
      intro j u hu
      simp at hu
    · exact hL.keep hgb

theorem plainA_rel (hi : Inv (γM h F) h F w0 m.s f w) : ∀ (cs : List C) {as : List A} {vs : List Value}, plainA cs = some as → CRs (γM h F) w cs vs → ARs h w as vs []
  | [], as, vs, hp, hc => by
    simp only [plainA, Option.some.injEq] at hp
    subst hp
    simp only [CRs] at hc
    simp [ARs, hc]
  | c :: cs, as, vs, hp, hc => by
    unfold plainA at hp
    split at hp
    · rename_i e; cases e
    · rename_i x cs' heq
      simp only [List.cons.injEq] at heq
      obtain ⟨rfl, rfl⟩ := heq
      split at hp
      · simp only [Option.map_eq_some_iff] at hp
        obtain ⟨as', hp, rfl⟩ := hp
        simp only [CRs, CR] at hc
        obtain ⟨v, vs', rfl, ⟨G, h1, h2⟩, h3⟩ := hc
        simp only [ARs]
        refine ⟨v, vs', [], [], rfl, rfl, ?_, plainA_rel hi cs hp h3⟩
        simp only [AR, RVRs, RVR]
        exact ⟨[v], ⟨v, [], [], [], rfl, rfl, ⟨rfl, G, h1, h2⟩, rfl, rfl⟩, (fun h => by cases h), fun _ => rfl⟩
      · cases hp
    · cases hp
theorem Rp.plainR {d : D} {v : Value} {G : Fp} (h : Rp w d v G) (hp : D.plain d = true) (w' : World) : Rp w' d v [] ∧ G = [] := by
  cases d with
  | list k fl es => simp [D.plain] at hp
  | int k n => simp only [Rp] at h ⊢; exact ⟨⟨h.1, trivial, h.2.2⟩, h.2.1⟩
  | bool b => simp only [Rp] at h ⊢; exact ⟨⟨h.1, trivial⟩, h.2⟩
  | str s => simp only [Rp] at h ⊢; exact ⟨⟨h.1, trivial, h.2.2⟩, h.2.1⟩

variable {num : Nat → FuncId} {cf : Nat → List A → Option (List A × List A)} {mf : Nat → Bool → List D → Int → Option (List D × Int)} {K' : Fm → World → Prop} {d : Nat} {ty : TypeId} {pos : String} {aft : Array Edge} {gd : Option (Nat × Bool)} {m' : MS}

theorem callee_run {F0 : FuncId} (hc : okCallee P F0 = true) (args : Array Value) (w : World) : (callFunc F0 args).run P w = .ok (.enter F0 args) w := by
  unfold okCallee at hc
  split at hc
  · rename_i fn hfn
    simp only [Bool.and_eq_true, Bool.not_eq_true'] at hc
    exact callFunc_run hfn hc.1 hc.2 args w
  · cases hc
/-- a call of a function that only reckons -/
theorem m_plain (hcf : ∀ g a r o, cf g a = some (r, o) → CallOk P (num g) a r o) (hi : MInv t h F w0 m f w) (hk : Tok t own h F w0) {g : Nat} {as : Array Operand} {ts : Array TypeId} {xs : List KX} (hc : okCallee P (num g) = true) (hx : okXs N as.toList xs = true) (he : evMp cf m d g xs = some m')
    (hK : ∀ f' w', MInv t h F w0 m' f' w' → K' f' w') : Op1 P N ⟨some d, .call { callee := .value (.func (num g)), args := as, argTypes := ts }, ty, pos, aft, gd⟩ f w K' := by
  unfold evMp at he
  split at he
  · rename_i cas hcas
    split at he
    · rename_i r hcfe
      split at he
      · rename_i hpl
        simp only [Option.some.injEq] at he
        subst he
        have hcr := okXs_rel hi.inv _ _ hx
        have hA := plainA_rel hi.inv _ hcas hcr
        have hcall := hcf _ _ _ _ hcfe w h _ [] hA (by simp) (fun g hg => by simp at hg) hi.inv.hnew
        have hvs : as.map (fr f N).eval = (as.toList.map (fr f N).eval).toArray := by apply Array.ext'; rw [Array.toList_map]
        refine o_call (x_call (callee_run hc) rfl hvs) hcall fun e w' hp => ?_
        obtain ⟨v, us, F1, F2, h', rfl, hret, hrs, _, _, _, hch⟩ := hp
        refine ⟨v, rfl, hK _ _ ?_⟩
        simp only [ARs, AR, RVRs, RVR] at hrs
        obtain ⟨u, us', G1, G2, rfl, _, ⟨vs, ⟨v1, vs1, H1, H2, rfl, _, ⟨_, G, hG, _⟩, rfl, _⟩, _, hv⟩, rfl, _⟩ := hrs
        have e1 := hv trivial
        simp only [List.cons.injEq, and_true] at e1
        subst e1
        have e2 : v = v1 := by
          rcases hret with h | ⟨h, _⟩
          · simp only [List.cons.injEq, and_true] at h; exact h.symm
          · exact absurd rfl h
        subst e2
        have ha := adv_chg hi.inv hch (fun g hg => by simp at hg)
        have hsame : ∀ g, g < w.heap.size → w'.heap[g]? = w.heap[g]? := fun g hg => hch.block g hg (by simp)
        have hgb : t.n = 0 ∨ w'.heap[t.g]? = w.heap[t.g]? := hi.lt.imp id (hsame _)
        have i1 := hi.go (sp' := m.sp) ha (hi.mt.keep (fun G hG be hb => hsame _ (hi.inv.limlt (hk.fs G hG be hb).1)) hgb) (fun d c hl => .inr ⟨hl, fun hs => by
          cases c with
          | sub i o n =>
            have := (hi.sp d _ hl).1
            rcases hgb with h | h
            · omega
            · exact h
          | _ => simp [MC.isSub] at hs⟩)
        refine i1.put ?_
        simp only [CR]
        exact ⟨[], (hG.plainR hpl w').1, fun be hb => by simp at hb⟩
      · cases he
    · cases he
  · cases he

/-- a call that marks a range of cells -/
theorem m_range {ag : Bool} {q q' : Int} {ds' : List D} {g i o n : Nat} {e : List D} {v : Value} (hi : MInv t h F w0 m f w) (hk : Tok t own h F w0) (he : nth m.es i = some e) (hn : o + n ≤ t.k) (hM : MarkOk P (num g) ag ((e.drop o).take n) q ds' q')
    {as : Array Operand} {ts : Array TypeId} (hc : okCallee P (num g) = true) (hvs : as.map (fr f N).eval = #[v, .int .i64 q]) (hq : IntKind.i64.wrap q = q)
    (hv : ∀ xs : List Value, RpL w m.es.flatten xs t.Fs → Lies w t.g t.p xs → (∀ j : Nat, t.pl[j]? = some false → xs[j]? = t.hv[j]?) ∧ (t.ro = true → xs = t.hv) → (ag = true → v = .agg ((xs.drop (i * t.k + o)).take n).toArray) ∧ (ag = false → (xs.drop (i * t.k + o)).take n = [v]))
    (hK : ∀ f' w', MInv t h F w0 ((m.set i o ds').put d (.d (.int .i64 q'))) f' w' → K' f' w') : Op1 P N ⟨some d, .call { callee := .value (.func (num g)), args := as, argTypes := ts }, ty, pos, aft, gd⟩ f w K' := by
  obtain ⟨h1, h2, h3, xs, hx, hL, hV⟩ := hi.mt
  obtain ⟨f1, f2⟩ := flat_sub m.es i o n e h2 he hn
  obtain ⟨v1, v2⟩ := hv xs hx hL hV
  have hr := RpL.take _ n (RpL.drop _ (i * t.k + o) hx)
  rw [f1] at hr
  have hmid : ∀ G ∈ (t.Fs.drop (i * t.k + o)).take n, G ∈ t.Fs := fun G hG => List.mem_of_mem_drop (List.mem_of_mem_take hG)
  have hnd := hk.nd
  rw [mem_take_drop t.Fs (i * t.k + o) n] at hnd
  simp only [List.flatten_append, List.map_append] at hnd
  rw [List.nodup_append] at hnd
  have hnd2 := hnd.2.1
  rw [List.nodup_append] at hnd2
  have hcall := hM w h v _ _ hr v1 v2 hq hnd2.1 (fun G hG be hb => by
    have := hk.zero _ (hk.fs G (hmid G hG) be hb).1
    exact ⟨this.1, hi.inv.kthaw _ this.2.1⟩) hi.inv.hnew
  refine o_call (x_call (callee_run hc) rfl hvs) hcall fun e' w' hp => ?_
  obtain ⟨rfl, hq', hr', hp', hch⟩ := hp
  refine ⟨_, rfl, hK _ _ ?_⟩
  have hsub : ∀ g ∈ ((t.Fs.drop (i * t.k + o)).take n).flatten.map Prod.fst, g ∈ F := fun g hg => by
    obtain ⟨be, hb, rfl⟩ := List.mem_map.1 hg
    obtain ⟨G, hG, hb⟩ := List.mem_flatten.1 hb
    exact (hk.fs G (hmid G hG) be hb).1
  have ha := adv_chg hi.inv hch hsub
  obtain ⟨hmt, hgb⟩ := hi.mt.mark hk he hn hx hL hV hi.lt (fun g hg => hi.inv.limlt hg) hr' hp' hch
  have i1 := hi.go (sp' := m.sp) ha hmt (fun d c hl => .inr ⟨hl, fun hs => by
    cases c with
    | sub i o n =>
      have := (hi.sp d _ hl).1
      rcases hgb with h | h
      · omega
      · exact h
    | _ => simp [MC.isSub] at hs⟩)
  have i2 := i1.put (d := d) (rp_int hq')
  simp only [MS.set, he]
  exact i2
end
end Go.Proofs.Ytmaigpiappmpcaa
