/-
  A region that draws its order: a load may be taken first although its cell is written later on, by operations that wait for the load. No program is named here.
-/
import Derived.Test.YtmaigpiappmpcaaStep
namespace Go.Proofs.Ytmaigpiappmpcaa
set_option linter.unusedVariables false
set_option linter.unusedSimpArgs false
open Go.RowKit

/-- none of Ds has come up -/
def noD (Ds : List Nat) (l : Array Bool) : Prop := ∀ m ∈ Ds, l.getD m false = false
/-- what must hold behind the operations: each condition as long as none of its list has come up -/
def Cons (Cl : List (List Nat × (World → Prop))) (l : Array Bool) (w : World) : Prop := ∀ p ∈ Cl, noD p.1 l → p.2 w

theorem getD_set {l : Array Bool} {i m : Nat} (h : (l.setIfInBounds i true).getD m false = false) : l.getD m false = false := by
  cases h2 : l.getD m false with
  | false => rfl
  | true => rw [getD_set_true h2] at h; cases h
theorem noD_set {Ds : List Nat} {l : Array Bool} {i : Nat} (h : noD Ds (l.setIfInBounds i true)) : noD Ds l := fun m hm => getD_set (h m hm)
theorem noD_set' {Ds : List Nat} {l : Array Bool} {i : Nat} (h : noD Ds l) (hi : i ∉ Ds) : noD Ds (l.setIfInBounds i true) := fun m hm => by
  rw [getD_set_ne false (by intro e; subst e; exact hi hm)]; exact h m hm
theorem Cons.set {Cl : List (List Nat × (World → Prop))} {l : Array Bool} {w : World} (h : Cons Cl l w) (i : Nat) : Cons Cl (l.setIfInBounds i true) w := fun p hp hn => h p hp (noD_set hn)
theorem Cons.unset {Cl : List (List Nat × (World → Prop))} {l : Array Bool} {w : World} {i : Nat} (h : Cons Cl (l.setIfInBounds i true) w) (hi : ∀ p ∈ Cl, i ∉ p.1) : Cons Cl l w := fun p hp hn => h p hp (noD_set' hn (hi p hp))

section
variable {P : Program} {ops : Array Oper} {Q : Exit → Act → World → Prop} {md : Region.Mode}

def wpAnyW (P : Program) (md : Region.Mode) (ops : Array Oper) (Q : Exit → Act → World → Prop) (Cl : List (List Nat × (World → Prop))) : Nat → Array Bool → Act → World → Prop
  | 0, listed, a, w => Region.ready md ops listed = [] ∧ Q .normal a w
  | fuel + 1, listed, a, w =>
    (Region.ready md ops listed = [] → Q .normal a w) ∧
    ∀ i ∈ Region.ready md ops listed, wpOp P ops Q i (fun a' w' => Cons Cl (listed.setIfInBounds i true) w' ∧ wpAnyW P md ops Q Cl fuel (listed.setIfInBounds i true) a' w') a w
theorem wpAny_of_W {Cl : List (List Nat × (World → Prop))} : ∀ (fuel : Nat) (listed : Array Bool) (a : Act) (w : World), wpAnyW P md ops Q Cl fuel listed a w → wpAny P md ops Q fuel listed a w
  | 0, _, _, _, h => h
  | fuel + 1, _, _, _, h => ⟨h.1, fun i hi => wpOp_mono (fun a' w' h' => wpAny_of_W fuel _ a' w' h'.2) (h.2 i hi)⟩

/-- each of al waits for i, or for another of al -/
def okD (md : Region.Mode) (ops : Array Oper) (i : Nat) (al : List Nat) : Bool := al.all fun j => match ops[j]? with
  | some o => o.after.any fun e => Region.binds md e && (e.on == i || al.contains e.on)
  | none => false
theorem okD_spec {i : Nat} {al : List Nat} (h : okD md ops i al = true) {listed : Array Bool} (hi : listed.getD i false = false) (hn : noD al listed) {j : Nat} (hj : j ∈ Region.ready md ops listed) : j ∉ al := by
  intro hm
  have h1 := List.all_eq_true.1 h j hm
  obtain ⟨_, o, ho, hall⟩ := mem_ready.1 hj
  rw [ho] at h1
  obtain ⟨e, he, hb⟩ := Array.any_eq_true'.1 h1
  simp only [Bool.and_eq_true, Bool.or_eq_true, beq_iff_eq, List.contains_iff_mem] at hb
  have h2 := hall e he hb.1
  rcases hb.2 with h3 | h3
  · rw [h3, hi] at h2; cases h2
  · rw [hn _ h3] at h2; cases h2

theorem takeW {Cl : List (List Nat × (World → Prop))} {i : Nat} {oi : Oper} {v : Value} {V : World → Prop} {al dn : List Nat} (hi : ops[i]? = some oi) (hsel : ∀ (j : Nat) (o : Oper) cs b, ops[j]? = some o → o.op ≠ .select cs b)
    (hQ : ∀ c a w, Q (.panic c) (a.put oi.dst v) w → Q (.panic c) a w) (hD : okD md ops i al = true) (hdn : ∀ m ∈ dn, m ∈ al) (hid : i ∉ dn) (hCi : ∀ p ∈ Cl, i ∉ p.1) :
    ∀ (fuel : Nat) (listed : Array Bool) (a : Act) (w : World),
      (∀ j oj, ops[j]? = some oj → j ≠ i → listed.getD j true = false → (∀ e ∈ oj.after, Region.binds md e = true → e.on ≠ i) → oi.apart ops oj = true) →
      i ∈ Region.ready md ops listed → noD al listed → YieldsIf P ops V oi v a → V w → Cons Cl listed w →
      wpAnyW P md ops Q ((dn, V) :: Cl) fuel (listed.setIfInBounds i true) (a.put oi.dst v) w → wpAnyW P md ops Q Cl (fuel + 1) listed a w := by
  intro fuel
  have down : ∀ (fuel : Nat) (listed : Array Bool) (a : Act) (w : World), wpAnyW P md ops Q ((dn, V) :: Cl) fuel listed a w → wpAnyW P md ops Q Cl fuel listed a w := by
    intro fuel
    induction fuel with
    | zero => intro listed a w h; exact h
    | succ fuel ih => intro listed a w h; exact ⟨h.1, fun j hj => wpOp_mono (fun a' w' h' => ⟨fun p hp => h'.1 p (by simp [hp]), ih _ a' w' h'.2⟩) (h.2 j hj)⟩
  induction fuel with
  | zero =>
    intro listed a w _ hr hn hy hV hC H
    refine ⟨fun h => (by rw [h] at hr; cases hr), fun j hj => ?_⟩
    by_cases hji : j = i
    · subst hji; exact hy.wpOp hi hV ⟨hC.set j, down _ _ _ _ H⟩
    · have := ready_mono hj hji
      rw [H.1] at this
      cases this
  | succ fuel ih =>
    intro listed a w hfree hr hn hy hV hC H
    refine ⟨fun h => (by rw [h] at hr; cases hr), fun j hj => ?_⟩
    by_cases hji : j = i
    · subst hji; exact hy.wpOp hi hV ⟨hC.set j, down _ _ _ _ H⟩
    · have h1 := H.2 j (ready_mono hj hji)
      obtain ⟨hjun, oj, hoj, hall⟩ := mem_ready.1 hj
      have hiun : listed.getD i false = false := by
        have h0 := (mem_ready.1 hr).1
        rcases Nat.lt_or_ge i listed.size with h' | h'
        · simp [h'] at h0 ⊢; exact h0
        · simp [Array.getElem?_eq_none h'] at h0
      have hja := okD_spec hD hiun hn hj
      have hnot : ∀ e ∈ oj.after, Region.binds md e = true → e.on ≠ i := fun e he hb heq => by
        have h1 := hall e he hb
        rw [heq, hiun] at h1; cases h1
      have h2 := wpOp_putIf (S := V) hoj (hfree j oj hoj hji hjun hnot) (fun cs b => hsel i oi cs b hi) (fun cs b => hsel j oj cs b hoj) hQ hy h1
      have hfree' : ∀ k ok, ops[k]? = some ok → k ≠ i → (listed.setIfInBounds j true).getD k true = false →
          (∀ e ∈ ok.after, Region.binds md e = true → e.on ≠ i) → oi.apart ops ok = true := fun k ok hk hki hun hno => by
        refine hfree k ok hk hki ?_ hno
        by_cases hjk : j = k
        · subst hjk; exact hjun
        · rw [getD_set_ne true hjk] at hun; exact hun
      refine wpOp_mono (fun a' w' h3 => ?_) h2
      obtain ⟨h3, h4, h5⟩ := h3
      have hC' : Cons Cl (listed.setIfInBounds j true) w' := by
        rw [Array.setIfInBounds_comm _ _ (Ne.symm hji)] at h4
        exact Cons.unset (i := i) (fun p hp => h4 p (by simp [hp])) hCi
      have hnj : noD al (listed.setIfInBounds j true) := noD_set' hn hja
      have hV' : V w' := h4 (dn, V) (by simp) (noD_set' (noD_set' (fun m hm => hn m (hdn m hm)) hid) (fun hm => hja (hdn j hm)))
      refine ⟨hC', ih (listed.setIfInBounds j true) a' w' hfree' (ready_mono hr (Ne.symm hji)) hnj h3 hV' hC' ?_⟩
      rw [Array.setIfInBounds_comm _ _ hji]
      exact h5
end

section
variable {P : Program} {N : Nat} {Kn : Fm → World → Prop} {Ke : Nat → Fm → World → Prop} {Kr : Fm → World → Prop} {f : Fm} {w : World} {ops : Array Oper}

/-- an entry of an order: the operation, whether it is quiet, what waits for it, and those of them that are carried out -/
structure Ent where
  i : Nat
  q : Bool
  al : List Nat
  dn : List Nat
inductive ET where
  | nil
  | op (e : Ent) (t : ET)
  | alt (e : Ent) (t r : ET)
def ET.len : ET → Nat
  | .nil => 0
  | .op _ t => t.len + 1
  | .alt _ t _ => t.len + 1
def ET.allE (p : Ent → Bool) : ET → Bool
  | .nil => true
  | .op e t => p e && t.allE p
  | .alt e t r => p e && t.allE p && r.allE p
def ET.heads : ET → List Nat
  | .nil => []
  | .op e _ => [e.i]
  | .alt e _ r => e.i :: r.heads
def chkW (ops : Array Oper) : Bool → ET → Array Bool → Bool
  | top, .nil, listed => top && (Region.ready .any ops listed).isEmpty
  | top, .op e s, listed => (if e.q then top && (Region.ready .any ops listed).contains e.i && Region.free .any ops listed e.i && okD .any ops e.i e.al && e.al.all (fun m => !listed.getD m false) && e.dn.all e.al.contains && !e.dn.contains e.i && s.allE (fun e' => !e'.q || !e.dn.contains e'.i) else !top || Region.ready .any ops listed == [e.i]) && chkW ops true s (listed.setIfInBounds e.i true)
  | top, .alt e s r, listed => (!top || Region.ready .any ops listed == e.i :: r.heads) && !e.q && s.len + 1 == r.len && chkW ops true s (listed.setIfInBounds e.i true) && chkW ops false r listed

def Dv (P : Program) (N : Nat) (ops : Array Oper) (Kn : Fm → World → Prop) : List (List Nat × (World → Prop)) → ET → Array Bool → Fm → World → Prop
  | _, .nil, _, f, w => Kn f w
  | Cl, .op e s, l, f, w => if e.q then
      ∃ o v f' V, ops[e.i]? = some o ∧ YieldsIf P ops V o v (fr f N) ∧ (fr f N).put o.dst v = fr f' N ∧ V w ∧ Dv P N ops Kn ((e.dn, V) :: Cl) s (l.setIfInBounds e.i true) f' w
    else wpOp P ops (pst N Kn (fun _ _ _ => False) (fun _ _ => False)) e.i (fun a' w' => Cons Cl (l.setIfInBounds e.i true) w' ∧ ∃ f', a' = fr f' N ∧ Dv P N ops Kn Cl s (l.setIfInBounds e.i true) f' w') (fr f N) w
  | Cl, .alt e s r, l, f, w => wpOp P ops (pst N Kn (fun _ _ _ => False) (fun _ _ => False)) e.i (fun a' w' => Cons Cl (l.setIfInBounds e.i true) w' ∧ ∃ f', a' = fr f' N ∧ Dv P N ops Kn Cl s (l.setIfInBounds e.i true) f' w') (fr f N) w ∧ Dv P N ops Kn Cl r l f w

theorem dv_both (hs : Region.noSelect ops = true) : ∀ (s : ET) (Cl : List (List Nat × (World → Prop))) (listed : Array Bool) (f : Fm) (w : World) (top : Bool), chkW ops top s listed = true → (∀ p ∈ Cl, s.allE (fun e => !e.q || !p.1.contains e.i) = true) → Cons Cl listed w → Dv P N ops Kn Cl s listed f w →
    (top = true → wpAnyW P .any ops (pst N Kn (fun _ _ _ => False) (fun _ _ => False)) Cl s.len listed (fr f N) w) ∧
    (top = false → ∀ j ∈ s.heads, ∃ n, s.len = n + 1 ∧ wpOp P ops (pst N Kn (fun _ _ _ => False) (fun _ _ => False)) j (fun a' w' => Cons Cl (listed.setIfInBounds j true) w' ∧ wpAnyW P .any ops (pst N Kn (fun _ _ _ => False) (fun _ _ => False)) Cl n (listed.setIfInBounds j true) a' w') (fr f N) w)
  | .nil, Cl, listed, f, w, top, hc, _, _, h => by
    simp only [chkW, Bool.and_eq_true] at hc
    refine ⟨fun _ => ?_, fun ht => (by rw [ht] at hc; cases hc.1)⟩
    have hr : Region.ready .any ops listed = [] := by simpa using hc.2
    exact ⟨hr, f, rfl, h⟩
  | .op e s, Cl, listed, f, w, top, hc, hq, hC, h => by
    simp only [chkW, Bool.and_eq_true] at hc
    obtain ⟨hc1, hc2⟩ := hc
    have hq1 : ∀ p ∈ Cl, (!e.q || !p.1.contains e.i) = true ∧ s.allE (fun e => !e.q || !p.1.contains e.i) = true := fun p hp => by
      have := hq p hp
      simpa only [ET.allE, Bool.and_eq_true] using this
    simp only [Dv] at h
    cases heq : e.q with
    | true =>
      rw [heq] at h hc1
      simp only [if_true, Bool.and_eq_true, Bool.not_eq_true'] at h hc1
      obtain ⟨⟨⟨⟨⟨⟨⟨ht, hr⟩, k1⟩, k2⟩, k3⟩, k4⟩, k5⟩, k6⟩ := hc1
      refine ⟨fun _ => ?_, fun ht' => (by rw [ht] at ht'; cases ht')⟩
      obtain ⟨o, v, f', V, ho, hy, hp, hV, hd⟩ := h
      have hdn : ∀ m ∈ e.dn, m ∈ e.al := fun m hm => by simpa using List.all_eq_true.1 k4 m hm
      have hnal : noD e.al listed := fun m hm => by simpa using List.all_eq_true.1 k3 m hm
      refine takeW ho (Region.noSelect_spec hs) (fun c a w hq => hq.elim) k2 hdn (by simpa using k5) (fun p hp' => by have := (hq1 p hp').1; simpa [heq] using this) s.len listed (fr f N) w (Region.free_spec ho k1) (by simpa using hr) hnal hy hV hC ?_
      rw [hp]
      refine (dv_both hs s _ _ f' w true hc2 (fun p hp' => ?_) (fun p hp' hn => ?_) hd).1 rfl
      · rcases List.mem_cons.1 hp' with rfl | hp'
        · exact k6
        · exact (hq1 p hp').2
      · rcases List.mem_cons.1 hp' with rfl | hp'
        · exact hV
        · exact (hC.set e.i) p hp' hn
    | false =>
      rw [heq] at h hc1
      simp only [Bool.false_eq_true, if_false, Bool.or_eq_true, Bool.not_eq_true', beq_iff_eq] at h hc1
      have step : wpOp P ops (pst N Kn (fun _ _ _ => False) (fun _ _ => False)) e.i (fun a' w' => Cons Cl (listed.setIfInBounds e.i true) w' ∧ wpAnyW P .any ops (pst N Kn (fun _ _ _ => False) (fun _ _ => False)) Cl s.len (listed.setIfInBounds e.i true) a' w') (fr f N) w := by
        refine wpOp_mono ?_ h
        rintro a' w' ⟨hC', f', rfl, hd⟩
        exact ⟨hC', (dv_both hs s Cl _ f' w' true hc2 (fun p hp => (hq1 p hp).2) hC' hd).1 rfl⟩
      refine ⟨fun ht => ⟨fun h0 => ?_, fun j hj => ?_⟩, fun _ j hj => ?_⟩
      · rcases hc1 with h1 | h1
        · rw [ht] at h1; cases h1
        · rw [h1] at h0; cases h0
      · rcases hc1 with h1 | h1
        · rw [ht] at h1; cases h1
        · rw [h1] at hj
          simp only [List.mem_singleton] at hj
          subst hj
          exact step
      · simp only [ET.heads, List.mem_singleton] at hj
        subst hj
        exact ⟨s.len, rfl, step⟩
  | .alt e s r, Cl, listed, f, w, top, hc, hq, hC, h => by
    simp only [chkW, Bool.and_eq_true, Bool.or_eq_true, Bool.not_eq_true', beq_iff_eq] at hc
    obtain ⟨⟨⟨⟨hc1, hc2⟩, hc3⟩, hc4⟩, hc5⟩ := hc
    have hq1 : ∀ p ∈ Cl, s.allE (fun e => !e.q || !p.1.contains e.i) = true ∧ r.allE (fun e => !e.q || !p.1.contains e.i) = true := fun p hp => by
      have := hq p hp
      simp only [ET.allE, Bool.and_eq_true] at this
      exact ⟨this.1.2, this.2⟩
    simp only [Dv] at h
    have all : ∀ j ∈ e.i :: r.heads, wpOp P ops (pst N Kn (fun _ _ _ => False) (fun _ _ => False)) j (fun a' w' => Cons Cl (listed.setIfInBounds j true) w' ∧ wpAnyW P .any ops (pst N Kn (fun _ _ _ => False) (fun _ _ => False)) Cl s.len (listed.setIfInBounds j true) a' w') (fr f N) w := by
      intro j hj
      rcases List.mem_cons.1 hj with rfl | hj
      · refine wpOp_mono ?_ h.1
        rintro a' w' ⟨hC', f', rfl, hd⟩
        exact ⟨hC', (dv_both hs s Cl _ f' w' true hc4 (fun p hp => (hq1 p hp).1) hC' hd).1 rfl⟩
      · obtain ⟨n, hn, hw⟩ := (dv_both hs r Cl listed f w false hc5 (fun p hp => (hq1 p hp).2) hC h.2).2 rfl j hj
        have : n = s.len := by omega
        subst this
        exact hw
    refine ⟨fun ht => ⟨fun h0 => ?_, fun j hj => ?_⟩, fun _ j hj => ⟨s.len, rfl, all j hj⟩⟩
    · rcases hc1 with h1 | h1
      · rw [ht] at h1; cases h1
      · rw [h1] at h0; cases h0
    · rcases hc1 with h1 | h1
      · rw [ht] at h1; cases h1
      · rw [h1] at hj
        exact all j hj

theorem w_drawn {id : Nat} {l : List Oper} (s : ET) (hm : P.follows .mixedOrders = true) (hs : Region.noSelect l.toArray = true) (hn : s.len = l.toArray.size)
    (hc : chkW l.toArray true s (Array.replicate l.toArray.size false) = true) (h : Dv P N l.toArray Kn [] s (Array.replicate l.toArray.size false) f w.drew) : W P N (.region id l.toArray true) Kn Ke Kr f w := by
  have h1 := (dv_both hs s [] _ f w.drew true hc (fun p hp => by simp at hp) (fun p hp => by simp at hp) h).1 rfl
  rw [hn] at h1
  unfold W
  refine wp_mono (wp_region_any hm (wpAny_of_W _ _ _ _ h1)) ?_
  intro e a w hq
  cases e with
  | normal => exact hq
  | exit id => obtain ⟨_, _, h⟩ := hq; exact h.elim
  | ret => obtain ⟨_, _, h⟩ := hq; exact h.elim
  | goto l => exact hq.elim
  | panic c => exact hq.elim
  | outgrown => exact hq.elim

variable {Cl : List (List Nat × (World → Prop))} {s : ET} {e : Ent} {lst : Array Bool} {o : Oper}
theorem v_nil (h : Kn f w) : Dv P N ops Kn Cl .nil lst f w := h
theorem v_op (hq : e.q = false) (hi : ops[e.i]? = some o) (hg : Wants N ops f o.guard) (h : Op1 P N o f w (fun f' w' => Cons Cl (lst.setIfInBounds e.i true) w' ∧ Dv P N ops Kn Cl s (lst.setIfInBounds e.i true) f' w')) : Dv P N ops Kn Cl (.op e s) lst f w := by
  simp only [Dv, hq, Bool.false_eq_true, if_false, wpOp, hi]
  rw [if_pos (show Region.wanted o _ = true from hg)]
  exact .inl (h.toWp fun f' w' hk => ⟨hk.1, f', rfl, hk.2⟩)
theorem v_alt {t : ET} (hi : ops[e.i]? = some o) (hg : Wants N ops f o.guard) (h : Op1 P N o f w (fun f' w' => Cons Cl (lst.setIfInBounds e.i true) w' ∧ Dv P N ops Kn Cl s (lst.setIfInBounds e.i true) f' w')) (h2 : Dv P N ops Kn Cl t lst f w) : Dv P N ops Kn Cl (.alt e s t) lst f w := by
  refine ⟨?_, h2⟩
  simp only [wpOp, hi]
  rw [if_pos (show Region.wanted o _ = true from hg)]
  exact .inl (h.toWp fun f' w' hk => ⟨hk.1, f', rfl, hk.2⟩)
theorem v_q (hq : e.q = true) (hi : ops[e.i]? = some o) {d : Nat} (hd : o.dst = some d) (hg : Wants N ops f o.guard) {v : Value} (V : World → Prop) (hr : ∀ w, V w → (execOp (fr f N).eval o).run P w = .ok (.value v) w) (hV : V w)
    (h : Dv P N ops Kn ((e.dn, V) :: Cl) s (lst.setIfInBounds e.i true) (upd f d v) w) : Dv P N ops Kn Cl (.op e s) lst f w := by
  simp only [Dv, hq, if_true]
  refine ⟨_, v, _, V, hi, .inl ⟨hg, hr⟩, ?_, hV, h⟩
  rw [hd]
  exact fr_put f N d v
variable {d : Nat} {op : Op} {ty : TypeId} {pos : String} {aft : Array Edge} {gd : Option (Nat × Bool)}
theorem v_pass (hq : e.q = true) (hi : ops[e.i]? = some ⟨some d, op, ty, pos, aft, gd⟩) (hg : Wantsnt N ops f gd)
    (h : Dv P N ops Kn ((e.dn, fun _ => True) :: Cl) s (lst.setIfInBounds e.i true) (upd f d undef) w) : Dv P N ops Kn Cl (.op e s) lst f w := by
  simp only [Dv, hq, if_true]
  exact ⟨_, undef, _, fun _ => True, hi, .inr ⟨hg, rfl⟩, fr_put f N d _, trivial, h⟩
theorem v_passn (hq : e.q = false) (hi : ops[e.i]? = some ⟨some d, op, ty, pos, aft, gd⟩) (hg : Wantsnt N ops f gd) (hC : Cons Cl (lst.setIfInBounds e.i true) w)
    (h : Dv P N ops Kn Cl s (lst.setIfInBounds e.i true) (upd f d undef) w) : Dv P N ops Kn Cl (.op e s) lst f w := by
  simp only [Dv, hq, Bool.false_eq_true, if_false, wpOp, hi]
  rw [if_neg (hg.to _ _ _ _ _)]
  exact ⟨hC, _, fr_put f N d _, h⟩
end
end Go.Proofs.Ytmaigpiappmpcaa
