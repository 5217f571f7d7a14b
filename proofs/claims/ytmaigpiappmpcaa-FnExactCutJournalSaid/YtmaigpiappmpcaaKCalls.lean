/-
  The machine's call. No program is named here.
-/
import Derived.Test.YtmaigpiappmpcaaKCaller
namespace Go.Proofs.Ytmaigpiappmpcaa
set_option linter.unusedVariables false
set_option linter.unusedSimpArgs false
open Go.RowKit

theorem look_dropRows : ∀ (rs : List Nat) (s : St) (q : Nat), look (dropRows s rs).rw q = if q ∈ rs then none else look s.rw q
  | [], s, q => by simp [dropRows]
  | r :: rs, s, q => by
    simp only [dropRows, look_dropRows rs, St.dropRow, look_drp, List.mem_cons]
    by_cases h : q ∈ rs
    · simp [h]
    · by_cases h2 : r = q
      · simp [h2]
      · simp [h, h2, Ne.symm h2]
theorem dropRows_sl : ∀ (rs : List Nat) (s : St), (dropRows s rs).sl = s.sl ∧ (dropRows s rs).bx = s.bx
  | [], s => ⟨rfl, rfl⟩
  | r :: rs, s => by simp only [dropRows]; exact dropRows_sl rs (s.dropRow r)
theorem look_dropBoxes : ∀ (rs : List Nat) (s : St) (q : Nat), look (dropBoxes s rs).bx q = if q ∈ rs then none else look s.bx q
  | [], s, q => by simp [dropBoxes]
  | r :: rs, s, q => by
    simp only [dropBoxes, look_dropBoxes rs, look_drp, List.mem_cons]
    by_cases h : q ∈ rs
    · simp [h]
    · by_cases h2 : r = q
      · simp [h2]
      · simp [h, h2, Ne.symm h2]
theorem dropBoxes_sl : ∀ (rs : List Nat) (s : St), (dropBoxes s rs).sl = s.sl ∧ (dropBoxes s rs).rw = s.rw
  | [], s => ⟨rfl, rfl⟩
  | r :: rs, s => by simp only [dropBoxes]; exact dropBoxes_sl rs _

theorem Adv.weaken {γ γ' : Gh} {M M' : Own → Prop} {w w' : World} (h : Adv γ M w w') (hM : ∀ g, M (γ.ω g) → M' (γ'.ω g)) (hh : ∀ g, γ'.h g ≤ γ.h g) : Adv γ' M' w w' :=
  ⟨h.os, h.tape, h.output, h.size, fun g hg hn => h.block g hg (fun hm => hn (hM g hm)), fun g j hj => h.cell g j (Nat.lt_of_lt_of_le hj (hh g)), h.thaw, h.kthaw⟩

theorem callFunc_run {P : Program} {F : FuncId} {fn : Func} (hf : P.funcs[F]? = some fn) (hb : fn.body.isSome = true) (hn : (fn.name == "runtime.NumGoroutine") = false) (args : Array Value) (w : World) : (callFunc F args).run P w = .ok (.enter F args) w := by
  have hn' : ¬ fn.name = "runtime.NumGoroutine" := by simpa using hn
  have hb' : ¬ fn.body = none := by cases h : fn.body <;> simp_all
  simp [callFunc, hf, hn', hb']

theorem boxes_live {s : St} : ∀ (cs : List C) {as : List A}, toAs s cs = some as → ∀ b ∈ boxesOf cs, ∃ bcs, look s.bx b = some bcs
  | [], _, _, b, hb => by simp [boxesOf] at hb
  | c :: cs, as, h, b, hb => by
    simp only [toAs] at h
    split at h
    · rename_i a ha
      simp only [Option.map_eq_some_iff] at h
      obtain ⟨as', h, _⟩ := h
      by_cases hp : ∃ b', c = .ptr b' 0
      · obtain ⟨b', rfl⟩ := hp
        simp only [boxesOf, List.mem_cons] at hb
        rcases hb with rfl | hb
        · simp only [toA] at ha
          split at ha
          · rename_i bcs hbl; exact ⟨bcs, hbl⟩
          · cases ha
        · exact boxes_live cs h b hb
      · have hbo : boxesOf (c :: cs) = boxesOf cs := by
          unfold toA at ha
          split at ha
          · rename_i b'; exact absurd ⟨b', rfl⟩ hp
          · simp only [Option.map_eq_some_iff] at ha
            obtain ⟨rs, hrs, _⟩ := ha
            have hcell := rd_cell hrs
            cases c <;> simp_all [boxesOf, C.cells, C.cell]
        rw [hbo] at hb
        exact boxes_live cs h b hb
    · cases h

section
variable {P : Program} {γ : Gh} {h0 : Nat → Nat} {io : List Nat} {w0 : World} {s s' : St} {f : Fm} {w : World} {N : Nat} {ty : TypeId} {pos : String} {aft : Array Edge} {gd : Option (Nat × Bool)} {K : Fm → World → Prop}
  {cf : Nat → List A → Option (List A × List A)} {mf : Nat → Bool → List D → Int → Option (List D × Int)}

theorem n_call (hi : Inv γ h0 io w0 s f w) {F0 : FuncId} {fn : Func} (hfn : P.funcs[F0]? = some fn) (hbd : fn.body.isSome = true) (hnm : (fn.name == "runtime.NumGoroutine") = false) {as : Array Operand} {xs : List KX} {ts : Array TypeId} {gn : Nat} (hx : okXs N as.toList xs = true)
    (hcf : ∀ a r o, cf gn a = some (r, o) → CallOk P F0 a r o) {dst : Option Nat} (he : evN cf mf s dst (.call gn xs) = some s') (h : ∀ γ' f' w', Inv γ' h0 io w0 s' f' w' → Tr dst (touch s dst (.call gn xs)) γ w γ' w' f f' → K f' w') :
    Op1 P N ⟨dst, .call { callee := .value (.func F0), args := as, argTypes := ts }, ty, pos, aft, gd⟩ f w K := by
  simp only [evN, evCall] at he
  split at he
  · cases he
  · rename_i cas hcas
    split at he
    · rename_i hnd
      simp only [Bool.and_eq_true] at hnd
      obtain ⟨⟨hnd1, hnd2⟩, hnd3⟩ := hnd
      rw [nodupB_iff] at hnd1 hnd2
      split at he
      · cases he
      · rename_i rs outs hcfe
        split at he
        · rename_i hshort
          simp only [Option.some.injEq] at he
          generalize hcs : xs.map (evX s) = cs at *
          have hcr : CRs γ w cs (as.toList.map (fr f N).eval) := by rw [← hcs]; exact okXs_rel hi _ _ hx
          generalize hvs : as.toList.map (fr f N).eval = vs at *
          obtain ⟨γs, iS, bS, slS, mS, gS, wS, e1, e2, e3⟩ := hi.shareR (lentAll cs)
          have hmv : ∀ r ∈ movedAll s cs, r ∉ lentAll cs := by
            intro r hr hl
            have := List.all_eq_true.1 hnd3 r hr
            simp [hl] at this
          obtain ⟨F, rA, dA, lA, pA⟩ := args_rel iS bS slS mS e2 gS e3 cs hcr hcas (fun r hr => hr) hmv hnd1 hnd2
          have ltF : ∀ g ∈ F, g < w.heap.size := fun g hg => by
            rcases lA g hg with ⟨r, _, h1⟩ | ⟨b, _, h1, _⟩ <;> exact (iS.own g (by rw [h1]; simp)).1
          have hcall := hcf _ _ _ hcfe w γs.h vs F rA dA ltF iS.hnew
          have hvs' : as.map (fr f N).eval = vs.toArray := by rw [← hvs]; apply Array.ext'; rw [Array.toList_map]
          have hr := x_call (ρ := (fr f N).eval) (dst := dst) (ty := ty) (pos := pos) (aft := aft) (gd := gd) (w := w) (ts := ts) (callFunc_run hfn hbd hnm) rfl hvs'
          unfold Op1 Oper.wp
          rw [hr, Oper.upon_enter]
          refine Calls.mono hcall fun e w' hp => ?_
          obtain ⟨v, us, F1, F2, h', rfl, hret, hrs, houts, hnd12, hF12, hch⟩ := hp
          -- the state that goes on: with the lent rows shared, or not
          have key : ∀ (γX : Gh) (sX : St), Inv γX h0 io w0 sX f w → γX.β = γ.β → (∀ g, γ.h g ≤ γX.h g) → (∀ g, γX.h g ≤ γs.h g) → (∀ g ∈ F, (∃ r ∈ movedAll s cs, γX.ω g = .row r) ∨ ∃ b ∈ boxesOf cs, γX.ω g = .box b ∧ g = γX.β b) → (∀ g, (∃ r ∈ movedAll s cs, γX.ω g = .row r) → ∃ r ∈ movedAll s cs, γ.ω g = .row r) → (∀ g, (∃ b ∈ boxesOf cs, γX.ω g = .box b) → ∃ b ∈ boxesOf cs, γ.ω g = .box b) → sX.bx = s.bx →
              ((rs.all A.closed = true ∧ outs.all A.closed = true) ∨ ∀ g, g < w.heap.size → g ∉ F → γs.h g ≤ γX.h g) →
              ∃ f', (fr f N).put dst v = fr f' N ∧ K f' w' ∨ (resCells (dst.getD 0) 0 rs (wback (dropBoxes (dropRows sX (movedAll s cs)) (boxesOf cs)) cs outs)).2.put dst (match (resCells (dst.getD 0) 0 rs (wback (dropBoxes (dropRows sX (movedAll s cs)) (boxesOf cs)) cs outs)).1 with | [c] => c | l => .tup l) ≠ s' := by
            intro γX sX iX bX mX mX2 lX ownR ownB ebx hcl
            by_cases hse : (resCells (dst.getD 0) 0 rs (wback (dropBoxes (dropRows sX (movedAll s cs)) (boxesOf cs)) cs outs)).2.put dst (match (resCells (dst.getD 0) 0 rs (wback (dropBoxes (dropRows sX (movedAll s cs)) (boxesOf cs)) cs outs)).1 with | [c] => c | l => .tup l) = s'
            · have i1 : Inv γX h0 io w0 (dropBoxes (dropRows sX (movedAll s cs)) (boxesOf cs)) f w := iX.sub
                (fun d c hl => by rw [(dropBoxes_sl _ _).1, (dropRows_sl _ _).1] at hl; exact hl)
                (fun d c hl => by
                  rw [look_dropBoxes, (dropRows_sl _ _).2] at hl
                  split at hl
                  · cases hl
                  · exact hl)
                (fun d c hl => by
                  rw [(dropBoxes_sl _ _).2, look_dropRows] at hl
                  split at hl
                  · cases hl
                  · exact hl)
              obtain ⟨hadv, γ1, i2, b2, sl2, m2, k2, n2, o2, x2, f2⟩ := i1.after (mv := movedAll s cs) (bs := boxesOf cs) hch mX2 (fun g hg => by
                  rcases lX g hg with h1 | ⟨b, hb, h1, _⟩
                  · exact .inl h1
                  · exact .inr ⟨b, hb, h1⟩) (fun r hr => by rw [(dropBoxes_sl _ _).2, look_dropRows, if_pos hr]) (fun b hb => by rw [look_dropBoxes, if_pos hb]) (fun g hg b hb => by
                  rcases lX g hg with ⟨r, _, h1⟩ | ⟨b', hb', h1, h2⟩
                  · rw [h1] at hb; cases hb
                  · have h3 := pA b' hb'
                    rw [bS, ← bX, ← h2] at h3
                    exact (houts.ptr g h3).1)
              have heq : ∀ g ∈ F1 ++ F2, γ1.h g = h' g := fun g hg => n2 g (hF12 g hg).1
              have hle : (rs.all A.closed = true ∧ outs.all A.closed = true) ∨ ∀ g, h' g ≤ γ1.h g := by
                rcases hcl with hcl | hcl
                · exact .inl hcl
                · refine .inr fun g => ?_
                  rcases Nat.lt_or_ge g w.heap.size with h1 | h1
                  · by_cases h2 : g ∈ F
                    · rw [n2 g (.inr h2)]; exact Nat.le_refl _
                    · rw [k2 g h1 h2, hch.hold g h1 h2]; exact hcl g h1 h2
                  · rw [n2 g (.inl h1)]; exact Nat.le_refl _
              have houts1 : ARs γ1.h w' outs (outVals cas vs) F2 := houts.re (fun g hg => heq g (by simp [hg])) (hle.imp (fun h => h.2) id)
              have hrs1 : ARs γ1.h w' rs us F1 := hrs.re (fun g hg => heq g (by simp [hg])) (hle.imp (fun h => h.1) id)
              have goodF : ∀ g ∈ F1 ++ F2, (γ1.ω g = .free ∨ γ1.ω g = .lim ∨ Value.pointer (some ⟨g, 0, none⟩) ∈ outVals cas vs) ∧ g < w'.heap.size ∧ (w0.heap.size ≤ g ∨ g ∈ io) := by
                intro g hg
                obtain ⟨h1, h2⟩ := hF12 g hg
                rcases h1 with h1 | h1
                · exact ⟨.inl (f2 g h1), h2, .inl (Nat.le_trans hi.size h1)⟩
                · rcases lX g h1 with h3 | ⟨b, hb, h3, h4⟩
                  · have ho := o2 g h1 h3
                    exact ⟨.inr (.inl ho), h2, (i2.own g (by rw [ho]; simp)).2⟩
                  · have ho := x2 g b h3
                    refine ⟨.inr (.inr ?_), h2, (i2.own g (by rw [ho]; simp)).2⟩
                    have h5 := pA b hb
                    rw [bS, ← bX, ← h4] at h5
                    exact h5
              rw [List.nodup_append] at hnd12
              obtain ⟨hn1, hn2, hdis⟩ := hnd12
              obtain ⟨γ2, i3, b3, h3, o3⟩ := wback_rel cs (s' := s) i2 (by rw [b2, bX]; exact hcr.ptrs) hcas houts1 hn2 (fun g hg => goodF g (by simp [hg])) (fun b hb => by
                  obtain ⟨bcs, hbl⟩ := boxes_live cs hcas b hb
                  obtain ⟨T, us', _, _, k3⟩ := iX.bx b bcs (by rw [ebx]; exact hbl)
                  rw [b2]; exact x2 _ b k3)
              obtain ⟨γ3, i4, c4, b4, h4, _⟩ := resCells_rel (d := dst.getD 0) rs 0 i3 (by rw [h3]; exact hrs1) hn1 (fun g hg => by
                  obtain ⟨k1, k2', k3⟩ := goodF g (by simp [hg])
                  have hne : g ∉ F2 := fun h => hdis g hg g h rfl
                  refine ⟨?_, k2', k3⟩
                  rw [o3 g hne]
                  rcases k1 with k1 | k1 | k1
                  · exact .inl k1
                  · exact .inr k1
                  · exact absurd (houts1.ptr g k1).2 hne) (fun a ha => by
                  have hs := List.all_eq_true.1 hshort a ha
                  cases a with
                  | val ag vs => exact ⟨ag, vs, rfl, by simpa [A.short] using hs⟩
                  | box vs => simp [A.short] at hs)
              have hcv : CR γ3 w' (match (resCells (dst.getD 0) 0 rs (wback (dropBoxes (dropRows sX (movedAll s cs)) (boxesOf cs)) cs outs)).1 with | [c] => c | l => .tup l) v := by
                generalize (resCells (dst.getD 0) 0 rs (wback (dropBoxes (dropRows sX (movedAll s cs)) (boxesOf cs)) cs outs)).1 = l at c4
                have hl := c4.length
                rcases hret with rfl | ⟨hne, rfl⟩
                · cases l with
                  | nil => simp at hl
                  | cons c l =>
                    cases l with
                    | nil => exact headD_rel c4
                    | cons c' l => simp at hl
                · split
                  · rename_i c; simp at hl; exact absurd hl hne
                  · simp only [CR]; exact ⟨us, rfl, c4⟩
              have htr : ∀ f' : Fm, FOk dst f f' → Tr dst (touch s dst (.call gn xs)) γ w γ3 w' f f' := fun f' hfo => by
                refine ⟨hadv.weaken (fun g hg => ?_) mX, fun b _ => by rw [b4, b3, b2, bX], fun g => by rw [h4, h3]; exact Nat.le_trans (mX g) (m2 g), hfo⟩
                simp only [touch, hcs, callIds]
                rcases hg with ⟨r, hr, h5⟩ | ⟨b, hb, h5⟩
                · obtain ⟨r', hr', h6⟩ := ownR g ⟨r, hr, h5⟩
                  exact ⟨r', by simp [hr'], .inr h6⟩
                · obtain ⟨b', hb', h6⟩ := ownB g ⟨b, hb, h5⟩
                  exact ⟨b', by simp [hb'], .inl h6⟩
              cases dst with
              | none =>
                refine ⟨f, .inl ⟨rfl, h γ3 f w' ?_ (htr _ .skip)⟩⟩
                rw [← hse]
                exact i4
              | some d =>
                refine ⟨upd f d v, .inl ⟨fr_put f N d v, h γ3 _ w' ?_ (htr _ .put)⟩⟩
                rw [← hse]
                exact i4.put d _ v hcv
            · exact ⟨f, .inr hse⟩
          have lG : ∀ g ∈ F, (∃ r ∈ movedAll s cs, γ.ω g = .row r) ∨ ∃ b ∈ boxesOf cs, γ.ω g = .box b ∧ g = γ.β b := by
            intro g hg
            rcases lA g hg with ⟨r, hr, h1⟩ | ⟨b, hb, h1, h2⟩
            · rcases wS g with h3 | h3 | h3 | ⟨q, hq, h3⟩
              · exact .inl ⟨r, hr, h3.symm.trans h1⟩
              · rw [h1] at h3; cases h3
              · rw [h1] at h3; cases h3
              · rw [h1] at h3; cases h3; exact absurd hq (hmv r hr)
            · rcases wS g with h3 | h3 | h3 | ⟨q, hq, h3⟩
              · exact .inr ⟨b, hb, h3.symm.trans h1, by rw [← bS]; exact h2⟩
              · rw [h1] at h3; cases h3
              · rw [h1] at h3; cases h3
              · rw [h1] at h3; cases h3
          have fin : ∃ f', (fr f N).put dst v = fr f' N ∧ K f' w' := by
            by_cases hcl : (rs.all A.closed && outs.all A.closed) = true
            · rw [if_pos hcl] at he
              rw [Bool.and_eq_true] at hcl
              obtain ⟨f', h1 | h1⟩ := key γ s hi rfl (fun _ => Nat.le_refl _) mS lG (fun _ h => h) (fun _ h => h) rfl (.inl hcl)
              · exact ⟨f', h1⟩
              · exact absurd he h1
            · rw [if_neg hcl] at he
              obtain ⟨f', h1 | h1⟩ := key γs (shareAll s (lentAll cs)) iS bS mS (fun _ => Nat.le_refl _) lA (fun g ⟨r, hr, h1⟩ => by
                  rcases wS g with h3 | h3 | h3 | ⟨q, hq, h3⟩
                  · exact ⟨r, hr, h3.symm.trans h1⟩
                  · rw [h1] at h3; cases h3
                  · rw [h1] at h3; cases h3
                  · rw [h1] at h3; cases h3; exact absurd hq (hmv r hr)) (fun g ⟨b, hb, h1⟩ => by
                  rcases wS g with h3 | h3 | h3 | ⟨q, hq, h3⟩
                  · exact ⟨b, hb, h3.symm.trans h1⟩
                  · rw [h1] at h3; cases h3
                  · rw [h1] at h3; cases h3
                  · rw [h1] at h3; cases h3) e2 (.inr fun _ _ _ => Nat.le_refl _)
              · exact ⟨f', h1⟩
              · exact absurd he h1
          exact fin
        · cases he
    · cases he
end
end Go.Proofs.Ytmaigpiappmpcaa
