/-
  The steps of a walk whose frame is a function from slots to values: one small law an operation, so that a program can print a walk. No program is named here.
-/
import Derived.Test.YtmaigpiappmpcaaBase
namespace Go.Proofs.Ytmaigpiappmpcaa
set_option linter.unusedVariables false
set_option linter.unusedSimpArgs false
open Go.RowKit

abbrev Fm := Nat → Value
def upd (f : Fm) (d : Nat) (v : Value) : Fm := fun i => cond (Nat.beq i d) v (f i)
def fr (f : Fm) (N : Nat) : Act := ⟨Array.ofFn (fun i : Fin N => f i.val), []⟩

theorem fr_put (f : Fm) (N d : Nat) (v : Value) : (fr f N).put (some d) v = fr (upd f d v) N := by
  have e : (Array.ofFn (fun i : Fin N => f i.val)).setIfInBounds d v = Array.ofFn (fun i : Fin N => upd f d v i.val) := by
    apply Array.ext
    · simp
    · intro i h1 h2
      simp only [Array.size_ofFn] at h2
      rw [Array.getElem_setIfInBounds (by simpa using h2)]
      simp only [Array.getElem_ofFn, upd]
      by_cases h : d = i
      · subst h; simp
      · have h' : Nat.beq i d = false := by
          cases hb : Nat.beq i d
          · rfl
          · exact absurd (Nat.eq_of_beq_eq_true hb).symm h
        simp [h, h']
  exact congrArg (fun t => Act.mk t []) e
theorem fr_eval (f : Fm) {N d : Nat} (hd : d < N) : (fr f N).eval (.tmp d) = f d := by
  simp [fr, Act.eval, hd]
theorem et {f : Fm} {N d : Nat} {v : Value} (h : f d = v) (hd : Nat.blt d N = true := by rfl) : (fr f N).eval (.tmp d) = v := by
  rw [fr_eval f (by simpa using hd)]; exact h
theorem ec {f : Fm} {N : Nat} {v : Value} : (fr f N).eval (.const v) = v := rfl
theorem ef {f : Fm} {N : Nat} {g : FuncId} : (fr f N).eval (.func g) = .func (.func g) #[] #[] := rfl

/-- what holds behind a piece of code, exit by exit; no panic -/
def pst (N : Nat) (Kn : Fm → World → Prop) (Ke : Nat → Fm → World → Prop) (Kr : Fm → World → Prop) : Exit → Act → World → Prop
  | .normal, a, w => ∃ f, a = fr f N ∧ Kn f w
  | .exit id, a, w => ∃ f, a = fr f N ∧ Ke id f w
  | .ret, a, w => ∃ f, a = fr f N ∧ Kr f w
  | _, _, _ => False

def W (P : Program) (N : Nat) (c : Code) (Kn : Fm → World → Prop) (Ke : Nat → Fm → World → Prop) (Kr : Fm → World → Prop) (f : Fm) (w : World) : Prop :=
  c.wp P (pst N Kn Ke Kr) (fr f N) w

/-- a list of operations, in the order of the text -/
def Ls (P : Program) (N : Nat) (ops : Array Oper) (Kn : Fm → World → Prop) (rest : List Oper) (f : Fm) (w : World) : Prop :=
  wpList P ops (pst N Kn (fun _ _ _ => False) (fun _ _ => False)) rest (fr f N) w

/-- the operation's guard lets it run -/
def Wants (N : Nat) (ops : Array Oper) (f : Fm) (g : Option (Nat × Bool)) : Prop :=
  Region.wanted { (default : Oper) with guard := g } (yielded ops (fr f N).tmps) = true

theorem wn {N : Nat} {ops : Array Oper} {f : Fm} : Wants N ops f none := rfl
theorem yielded_fr {N : Nat} {ops : Array Oper} {f : Fm} {j dj : Nat} (hj : (ops[j]?).bind (·.dst) = some dj) (hd : Nat.blt dj N = true) (b : Bool) (hb : f dj = .bool b) : yielded ops (fr f N).tmps j = some b := by
  have hlt : dj < N := by simpa using hd
  simp [yielded, hj, fr, hlt, hb]
theorem yielded_un {N : Nat} {ops : Array Oper} {f : Fm} {j dj : Nat} (hj : (ops[j]?).bind (·.dst) = some dj) (hd : Nat.blt dj N = true) (hb : f dj = undef) : yielded ops (fr f N).tmps j = none := by
  have hlt : dj < N := by simpa using hd
  simp [yielded, hj, fr, hlt, hb, undef]
theorem wy {N : Nat} {ops : Array Oper} {f : Fm} {j dj : Nat} {want : Bool} (hb : f dj = .bool want) (hj : (ops[j]?).bind (·.dst) = some dj := by rfl) (hd : Nat.blt dj N = true := by rfl) : Wants N ops f (some (j, want)) := by
  simp [Wants, Region.wanted, yielded_fr hj hd want hb]
theorem Wants.to {N : Nat} {ops : Array Oper} {f : Fm} {gd : Option (Nat × Bool)} (h : Wants N ops f gd) (dst : Option Tmp) (op : Op) (ty : TypeId) (pos : String) (aft : Array Edge) : Region.wanted ⟨dst, op, ty, pos, aft, gd⟩ (yielded ops (fr f N).tmps) = true := h
def Wantsnt (N : Nat) (ops : Array Oper) (f : Fm) (g : Option (Nat × Bool)) : Prop :=
  Region.wanted { (default : Oper) with guard := g } (yielded ops (fr f N).tmps) = false
theorem Wantsnt.to {N : Nat} {ops : Array Oper} {f : Fm} {gd : Option (Nat × Bool)} (h : Wantsnt N ops f gd) (dst : Option Tmp) (op : Op) (ty : TypeId) (pos : String) (aft : Array Edge) : ¬ Region.wanted ⟨dst, op, ty, pos, aft, gd⟩ (yielded ops (fr f N).tmps) = true := by
  have h' : Region.wanted ⟨dst, op, ty, pos, aft, gd⟩ (yielded ops (fr f N).tmps) = false := h
  rw [h']; simp
theorem wx {N : Nat} {ops : Array Oper} {f : Fm} {j dj : Nat} {want : Bool} (hb : f dj = .bool (!want)) (hj : (ops[j]?).bind (·.dst) = some dj := by rfl) (hd : Nat.blt dj N = true := by rfl) : Wantsnt N ops f (some (j, want)) := by
  simp [Wantsnt, Region.wanted, yielded_fr hj hd _ hb]
theorem wu {N : Nat} {ops : Array Oper} {f : Fm} {j dj : Nat} {want : Bool} (hb : f dj = undef) (hj : (ops[j]?).bind (·.dst) = some dj := by rfl) (hd : Nat.blt dj N = true := by rfl) : Wantsnt N ops f (some (j, want)) := by
  simp [Wantsnt, Region.wanted, yielded_un hj hd hb]

section rules
variable {P : Program} {N : Nat} {Kn : Fm → World → Prop} {Ke : Nat → Fm → World → Prop} {Kr : Fm → World → Prop} {f : Fm} {w : World}

theorem w_seq {x y : Code} (h : W P N x (fun f w => W P N y Kn Ke Kr f w) Ke Kr f w) : W P N (.seq x y) Kn Ke Kr f w := by
  refine wp_seq (wp_mono h ?_)
  intro e a w hq
  cases e with
  | normal => obtain ⟨f', rfl, hk⟩ := hq; exact hk
  | exit id => exact hq
  | ret => exact hq
  | goto l => exact hq.elim
  | panic c => exact hq.elim
  | outgrown => exact hq.elim
theorem w_skip (h : Kn f w) : W P N .skip Kn Ke Kr f w := wp_skip ⟨f, rfl, h⟩
theorem w_ret (h : Kr f w) : W P N .ret Kn Ke Kr f w := wp_ret ⟨f, rfl, h⟩
theorem w_exit {id : Nat} (h : Ke id f w) : W P N (.exit id) Kn Ke Kr f w := wp_exit ⟨f, rfl, h⟩
theorem w_if_t {c : Operand} {x y : Code} (hc : (fr f N).eval c = .bool true) (h : W P N x Kn Ke Kr f w) : W P N (.cond c x y) Kn Ke Kr f w := wp_cond hc h
theorem w_if_f {c : Operand} {x y : Code} (hc : (fr f N).eval c = .bool false) (h : W P N y Kn Ke Kr f w) : W P N (.cond c x y) Kn Ke Kr f w := wp_cond hc h
/-- a block: where it is left by its own number it goes on behind it -/
theorem w_block {id : Nat} {c : Code} (h : W P N c Kn (fun id' f w => if id' = id then Kn f w else Ke id' f w) Kr f w) : W P N (.block id c) Kn Ke Kr f w := by
  refine wp_block (wp_mono h ?_)
  intro e a w hq
  cases e with
  | normal => exact hq
  | ret => exact hq
  | exit id' =>
    obtain ⟨f', rfl, hk⟩ := hq
    simp only [Exit.inBlock]
    split at hk
    · rename_i he; rw [if_pos he]; exact ⟨f', rfl, hk⟩
    · rename_i he; rw [if_neg he]; exact ⟨f', rfl, hk⟩
  | goto l => exact hq.elim
  | panic c => exact hq.elim
  | outgrown => exact hq.elim
theorem w_loop {c : Code} (I : Nat → Fm → World → Prop) (n0 : Nat) (h0 : I n0 f w)
    (round : ∀ n f w, I n f w → W P N c (fun f' w' => ∃ n', n' < n ∧ I n' f' w') Ke Kr f w) : W P N (.loop c) Kn Ke Kr f w := by
  refine wp_loop_ghost (fun n a w => ∃ f, a = fr f N ∧ I n f w) n0 ⟨f, rfl, h0⟩ ?_
  rintro n a w ⟨f, rfl, hI⟩
  refine wp_mono (round n f w hI) ?_
  intro e a w hq
  cases e with
  | normal => obtain ⟨f', rfl, n', hn, hI'⟩ := hq; exact ⟨n', hn, f', rfl, hI'⟩
  | exit id => exact hq
  | ret => exact hq
  | goto l => exact hq.elim
  | panic c => exact hq.elim
  | outgrown => exact hq.elim
theorem w_region {id : Nat} {l : List Oper} (h : Ls P N l.toArray Kn l f w) : W P N (.region id l.toArray false) Kn Ke Kr f w := by
  refine wp_mono (wp_region_lit h) ?_
  intro e a w hq
  cases e with
  | normal => exact hq
  | exit id => obtain ⟨_, _, h⟩ := hq; exact h.elim
  | ret => obtain ⟨_, _, h⟩ := hq; exact h.elim
  | goto l => exact hq.elim
  | panic c => exact hq.elim
  | outgrown => exact hq.elim
theorem w_mono {c : Code} {Kn' : Fm → World → Prop} {Ke' : Nat → Fm → World → Prop} {Kr' : Fm → World → Prop} (h : W P N c Kn Ke Kr f w)
    (hn : ∀ f w, Kn f w → Kn' f w) (he : ∀ i f w, Ke i f w → Ke' i f w) (hr : ∀ f w, Kr f w → Kr' f w) : W P N c Kn' Ke' Kr' f w := by
  refine wp_mono h ?_
  intro e a w hq
  cases e with
  | normal => obtain ⟨f', h1, h2⟩ := hq; exact ⟨f', h1, hn _ _ h2⟩
  | exit id => obtain ⟨f', h1, h2⟩ := hq; exact ⟨f', h1, he _ _ _ h2⟩
  | ret => obtain ⟨f', h1, h2⟩ := hq; exact ⟨f', h1, hr _ _ h2⟩
  | goto l => exact hq.elim
  | panic c => exact hq.elim
  | outgrown => exact hq.elim

variable {ops : Array Oper} {rest : List Oper} {d : Nat} {op : Op} {ty : TypeId} {pos : String} {aft : Array Edge} {gd : Option (Nat × Bool)}

theorem l_nil (h : Kn f w) : Ls P N ops Kn [] f w := ⟨f, rfl, h⟩
theorem l_val (hg : Wants N ops f gd) {v : Value} {w' : World} (hr : (execOp (fr f N).eval ⟨some d, op, ty, pos, aft, gd⟩).run P w = .ok (.value v) w')
    (h : Ls P N ops Kn rest (upd f d v) w') : Ls P N ops Kn (⟨some d, op, ty, pos, aft, gd⟩ :: rest) f w := by
  unfold Ls wpList
  rw [if_pos (hg.to _ _ _ _ _)]
  refine .inl ?_
  unfold Oper.wp
  rw [hr, Oper.upon_value, fr_put]
  exact h
theorem l_skip (hg : Wants N ops f gd) {w' : World} (hr : (execOp (fr f N).eval ⟨none, op, ty, pos, aft, gd⟩).run P w = .ok .skip w')
    (h : Ls P N ops Kn rest f w') : Ls P N ops Kn (⟨none, op, ty, pos, aft, gd⟩ :: rest) f w := by
  unfold Ls wpList
  rw [if_pos (hg.to _ _ _ _ _)]
  refine .inl ?_
  unfold Oper.wp
  rw [hr, Oper.upon_skip]
  exact h
theorem l_pass (hg : Wantsnt N ops f gd) (h : Ls P N ops Kn rest (upd f d undef) w) : Ls P N ops Kn (⟨some d, op, ty, pos, aft, gd⟩ :: rest) f w := by
  unfold Ls wpList
  rw [if_neg (hg.to _ _ _ _ _), fr_put]
  exact h
theorem l_pass0 (hg : Wantsnt N ops f gd) (h : Ls P N ops Kn rest f w) : Ls P N ops Kn (⟨none, op, ty, pos, aft, gd⟩ :: rest) f w := by
  unfold Ls wpList
  rw [if_neg (hg.to _ _ _ _ _)]
  exact h
/-- a call of a Go function -/
theorem l_call (hg : Wants N ops f gd) {g : FuncId} {args : Array Value} (hr : (execOp (fr f N).eval ⟨some d, op, ty, pos, aft, gd⟩).run P w = .ok (.enter g args) w)
    {R : Ending → World → Prop} (hc : Calls P g args w R) (h : ∀ e w', R e w' → ∃ v, e = .returned v ∧ Ls P N ops Kn rest (upd f d v) w') :
    Ls P N ops Kn (⟨some d, op, ty, pos, aft, gd⟩ :: rest) f w := by
  unfold Ls wpList
  rw [if_pos (hg.to _ _ _ _ _)]
  refine .inl ?_
  unfold Oper.wp
  rw [hr, Oper.upon_enter]
  refine hc.mono fun e w' he => ?_
  obtain ⟨v, rfl, hl⟩ := h e w' he
  show wpList P ops _ rest ((fr f N).put (some d) v) w'
  rw [fr_put]
  exact hl
theorem l_call0 (hg : Wants N ops f gd) {g : FuncId} {args : Array Value} (hr : (execOp (fr f N).eval ⟨none, op, ty, pos, aft, gd⟩).run P w = .ok (.enter g args) w)
    {R : Ending → World → Prop} (hc : Calls P g args w R) (h : ∀ e w', R e w' → ∃ v, e = .returned v ∧ Ls P N ops Kn rest f w') :
    Ls P N ops Kn (⟨none, op, ty, pos, aft, gd⟩ :: rest) f w := by
  unfold Ls wpList
  rw [if_pos (hg.to _ _ _ _ _)]
  refine .inl ?_
  unfold Oper.wp
  rw [hr, Oper.upon_enter]
  refine hc.mono fun e w' he => ?_
  obtain ⟨v, rfl, hl⟩ := h e w' he
  exact hl

/-- a function: its body -/
theorem enter {g : FuncId} {fn : Func} {c : Code} {args : Array Value} {R : Ending → World → Prop} (hf : P.funcs[g]? = some fn) (hb : fn.body = some c) (hN : fn.ntmps = N) (ha : Nat.ble args.size N = true)
    (h : W P N c (fun f w => ∃ v, (results fn (fr f N).tmps).run P w = .ok v w ∧ R (.returned v) w) (fun _ _ _ => False) (fun f w => ∃ v, (results fn (fr f N).tmps).run P w = .ok v w ∧ R (.returned v) w) (fun i => args.getD i undef) w) :
    Calls P g args w R := by
  refine calls_of_wp hf hb ?_
  have e : ({ tmps := args ++ Array.replicate (fn.ntmps - args.size) undef, defers := [] } : Act) = fr (fun i => args.getD i undef) N := by
    unfold fr
    congr 1
    have ha' : args.size ≤ N := by simpa using ha
    apply Array.ext
    · simp [hN]; omega
    · intro i h1 h2
      simp only [Array.getElem_ofFn, Array.getElem_append]
      split <;> simp_all
  rw [e]
  refine wp_mono h ?_
  intro e a w hq
  cases e with
  | normal => obtain ⟨f', rfl, v, h1, h2⟩ := hq; exact ⟨rfl, v, h1, h2⟩
  | exit id => obtain ⟨_, _, h⟩ := hq; exact h.elim
  | ret => obtain ⟨f', rfl, v, h1, h2⟩ := hq; exact ⟨rfl, v, h1, h2⟩
  | goto l => exact hq.elim
  | panic c => exact hq.elim
  | outgrown => exact hq.elim
end rules

/-! ### a region that draws its order: the operations in an order of our own choice -/
section drawn
variable {P : Program} {N : Nat} {Kn : Fm → World → Prop} {Ke : Nat → Fm → World → Prop} {Kr : Fm → World → Prop} {f : Fm} {w : World} {ops : Array Oper} {S : World → Prop}

/-- the order s serves: what is taken out of turn is free, what is not is alone -/
def chk (ops : Array Oper) : List (Nat × Bool) → Array Bool → Bool
  | [], listed => (Region.ready .any ops listed).isEmpty
  | (i, quiet) :: s, listed => (Region.ready .any ops listed).contains i && (if quiet then Region.free .any ops listed i else Region.ready .any ops listed == [i]) && chk ops s (listed.setIfInBounds i true)

/-- the walk along the order s -/
def Dw (P : Program) (N : Nat) (ops : Array Oper) (S : World → Prop) (Kn : Fm → World → Prop) : List (Nat × Bool) → Fm → World → Prop
  | [], f, w => Kn f w
  | (i, quiet) :: s, f, w => if quiet then
      ∃ o v f', ops[i]? = some o ∧ YieldsIf P ops S o v (fr f N) ∧ (fr f N).put o.dst v = fr f' N ∧ S w ∧ Dw P N ops S Kn s f' w
    else wpOp P ops (pst N Kn (fun _ _ _ => False) (fun _ _ => False)) i (fun a' w' => S w' ∧ ∃ f', a' = fr f' N ∧ Dw P N ops S Kn s f' w') (fr f N) w

theorem dw_sound (hs : Region.noSelect ops = true) : ∀ (s : List (Nat × Bool)) (listed : Array Bool) (f : Fm) (w : World), chk ops s listed = true → Dw P N ops S Kn s f w →
    wpAnyH P .any ops (pst N Kn (fun _ _ _ => False) (fun _ _ => False)) S s.length listed (fr f N) w
  | [], listed, f, w, hc, h => by
    refine wpAnyH_done ?_ ⟨f, rfl, h⟩ _
    simpa [chk] using hc
  | (i, true) :: s, listed, f, w, hc, h => by
    simp only [chk, Bool.and_eq_true, if_true] at hc
    obtain ⟨⟨hr, hf⟩, hc'⟩ := hc
    simp only [Dw, if_true] at h
    obtain ⟨o, v, f', ho, hy, hp, hS, hd⟩ := h
    refine wpAnyH_take ho hs hf hr (fun c a w hq => hq.elim) hy hS ?_
    rw [hp]
    exact dw_sound hs s _ f' w hc' hd
  | (i, false) :: s, listed, f, w, hc, h => by
    simp only [chk, Bool.and_eq_true, Bool.false_eq_true, if_false, beq_iff_eq] at hc
    obtain ⟨⟨_, hr⟩, hc'⟩ := hc
    simp only [Dw, Bool.false_eq_true, if_false] at h
    refine wpAnyH_all hr (by simp) ?_
    intro j hj
    simp only [List.mem_singleton] at hj
    subst hj
    refine wpOp_mono ?_ h
    rintro a' w' ⟨hS, f', rfl, hd⟩
    exact ⟨hS, dw_sound hs s _ f' w' hc' hd⟩

theorem w_draw {id : Nat} {l : List Oper} (S : World → Prop) (s : List (Nat × Bool)) (hm : P.follows .mixedOrders = true) (hs : Region.noSelect l.toArray = true) (hn : s.length = l.toArray.size)
    (hc : chk l.toArray s (Array.replicate l.toArray.size false) = true) (h : Dw P N l.toArray S Kn s f w.drew) : W P N (.region id l.toArray true) Kn Ke Kr f w := by
  have h1 := dw_sound hs s _ f w.drew hc h
  rw [hn] at h1
  refine wp_mono (wp_region_held hm h1) ?_
  intro e a w hq
  cases e with
  | normal => exact hq
  | exit id => obtain ⟨_, _, h⟩ := hq; exact h.elim
  | ret => obtain ⟨_, _, h⟩ := hq; exact h.elim
  | goto l => exact hq.elim
  | panic c => exact hq.elim
  | outgrown => exact hq.elim

variable {s : List (Nat × Bool)} {i d : Nat} {op : Op} {ty : TypeId} {pos : String} {aft : Array Edge} {gd : Option (Nat × Bool)}
theorem d_nil (h : Kn f w) : Dw P N ops S Kn [] f w := h
theorem d_quiet (hi : ops[i]? = some ⟨some d, op, ty, pos, aft, gd⟩) (hg : Wants N ops f gd) {v : Value} (hr : ∀ w, S w → (execOp (fr f N).eval ⟨some d, op, ty, pos, aft, gd⟩).run P w = .ok (.value v) w) (hS : S w)
    (h : Dw P N ops S Kn s (upd f d v) w) : Dw P N ops S Kn ((i, true) :: s) f w := by
  simp only [Dw, if_true]
  exact ⟨_, v, _, hi, .inl ⟨hg, hr⟩, fr_put f N d v, hS, h⟩
theorem d_pass (hi : ops[i]? = some ⟨some d, op, ty, pos, aft, gd⟩) (hg : Wantsnt N ops f gd) (hS : S w)
    (h : Dw P N ops S Kn s (upd f d undef) w) : Dw P N ops S Kn ((i, true) :: s) f w := by
  simp only [Dw, if_true]
  exact ⟨_, undef, _, hi, .inr ⟨hg, rfl⟩, fr_put f N d _, hS, h⟩
theorem d_val (hi : ops[i]? = some ⟨some d, op, ty, pos, aft, gd⟩) (hg : Wants N ops f gd) {v : Value} {w' : World} (hr : (execOp (fr f N).eval ⟨some d, op, ty, pos, aft, gd⟩).run P w = .ok (.value v) w') (hS : S w')
    (h : Dw P N ops S Kn s (upd f d v) w') : Dw P N ops S Kn ((i, false) :: s) f w := by
  simp only [Dw, Bool.false_eq_true, if_false, wpOp, hi]
  rw [if_pos (hg.to _ _ _ _ _)]
  refine .inl ?_
  unfold Oper.wp
  rw [hr, Oper.upon_value]
  exact ⟨hS, _, fr_put f N d v, h⟩
theorem d_skip (hi : ops[i]? = some ⟨none, op, ty, pos, aft, gd⟩) (hg : Wants N ops f gd) {w' : World} (hr : (execOp (fr f N).eval ⟨none, op, ty, pos, aft, gd⟩).run P w = .ok .skip w') (hS : S w')
    (h : Dw P N ops S Kn s f w') : Dw P N ops S Kn ((i, false) :: s) f w := by
  simp only [Dw, Bool.false_eq_true, if_false, wpOp, hi]
  rw [if_pos (hg.to _ _ _ _ _)]
  refine .inl ?_
  unfold Oper.wp
  rw [hr, Oper.upon_skip]
  exact ⟨hS, _, rfl, h⟩
theorem d_passn (hi : ops[i]? = some ⟨some d, op, ty, pos, aft, gd⟩) (hg : Wantsnt N ops f gd) (hS : S w)
    (h : Dw P N ops S Kn s (upd f d undef) w) : Dw P N ops S Kn ((i, false) :: s) f w := by
  simp only [Dw, Bool.false_eq_true, if_false, wpOp, hi]
  rw [if_neg (hg.to _ _ _ _ _)]
  exact ⟨hS, _, fr_put f N d _, h⟩
theorem d_call (hi : ops[i]? = some ⟨some d, op, ty, pos, aft, gd⟩) (hg : Wants N ops f gd) {g : FuncId} {args : Array Value} (hr : (execOp (fr f N).eval ⟨some d, op, ty, pos, aft, gd⟩).run P w = .ok (.enter g args) w)
    {R : Ending → World → Prop} (hc : Calls P g args w R) (h : ∀ e w', R e w' → ∃ v, e = .returned v ∧ S w' ∧ Dw P N ops S Kn s (upd f d v) w') : Dw P N ops S Kn ((i, false) :: s) f w := by
  simp only [Dw, Bool.false_eq_true, if_false, wpOp, hi]
  rw [if_pos (hg.to _ _ _ _ _)]
  refine .inl ?_
  unfold Oper.wp
  rw [hr, Oper.upon_enter]
  refine hc.mono fun e w' he => ?_
  obtain ⟨v, rfl, hS, hl⟩ := h e w' he
  exact ⟨hS, _, fr_put f N d v, hl⟩
end drawn

/-! ### what each operation does -/
section ops
variable {P : Program} {ρ : Operand → Value} {w : World} {dst : Option Tmp} {ty : TypeId} {pos : String} {aft : Array Edge} {gd : Option (Nat × Bool)}

theorem x_move {x : Operand} {v : Value} (hx : ρ x = v) : (execOp ρ ⟨dst, .move x, ty, pos, aft, gd⟩).run P w = .ok (.value v) w := by
  subst hx; rfl
theorem x_assign {x : Operand} {v : Value} (hx : ρ x = v) : (execOp ρ ⟨dst, .assign x, ty, pos, aft, gd⟩).run P w = .ok (.value v) w := by
  subst hx; rfl
theorem x_pick_t {c x y : Operand} {v : Value} (hc : ρ c = .bool true) (hx : ρ x = v) : (execOp ρ ⟨dst, .pick c x y, ty, pos, aft, gd⟩).run P w = .ok (.value v) w := by
  simp [execOp, hc, hx, asBool]
theorem x_pick_f {c x y : Operand} {v : Value} (hc : ρ c = .bool false) (hy : ρ y = v) : (execOp ρ ⟨dst, .pick c x y, ty, pos, aft, gd⟩).run P w = .ok (.value v) w := by
  simp [execOp, hc, hy, asBool]
theorem x_not {x : Operand} {b : Bool} {T : TypeId} (hx : ρ x = .bool b) : (execOp ρ ⟨dst, .unOp .not T x, ty, pos, aft, gd⟩).run P w = .ok (.value (.bool (!b))) w := by
  simp [execOp, hx, Op.unary]
theorem x_neg {x : Operand} {a : Int} {T : TypeId} (hx : ρ x = .int .i64 a) (hr : -9223372036854775808 < a ∧ a ≤ 9223372036854775807) : (execOp ρ ⟨dst, .unOp .neg T x, ty, pos, aft, gd⟩).run P w = .ok (.value (.int .i64 (-a))) w := by
  simp [execOp, hx, Op.unary, Op.intArith]
  exact IntWalk.i64_in _ (by omega)

theorem beq_dec (a b : Int) : (a == b) = decide (a = b) := by
  by_cases h : a = b <;> simp [h]
section int
variable {x y : Operand} {a b : Int} {T T' : TypeId} {ik : IntKind}
theorem x_lss {r : Bool} (hx : ρ x = .int ik a) (hy : ρ y = .int ik b) (hr : decide (a < b) = r) : (execOp ρ ⟨dst, .binOp .lss T x y T', ty, pos, aft, gd⟩).run P w = .ok (.value (.bool r)) w := by
  subst hr; simp [execOp, hx, hy, binOp, Op.intCmp, eqGuard]
theorem x_leq {r : Bool} (hx : ρ x = .int ik a) (hy : ρ y = .int ik b) (hr : decide (a ≤ b) = r) : (execOp ρ ⟨dst, .binOp .leq T x y T', ty, pos, aft, gd⟩).run P w = .ok (.value (.bool r)) w := by
  subst hr; simp [execOp, hx, hy, binOp, Op.intCmp, eqGuard]
theorem x_gtr {r : Bool} (hx : ρ x = .int ik a) (hy : ρ y = .int ik b) (hr : decide (b < a) = r) : (execOp ρ ⟨dst, .binOp .gtr T x y T', ty, pos, aft, gd⟩).run P w = .ok (.value (.bool r)) w := by
  subst hr; simp [execOp, hx, hy, binOp, Op.intCmp, eqGuard]
theorem x_geq {r : Bool} (hx : ρ x = .int ik a) (hy : ρ y = .int ik b) (hr : decide (b ≤ a) = r) : (execOp ρ ⟨dst, .binOp .geq T x y T', ty, pos, aft, gd⟩).run P w = .ok (.value (.bool r)) w := by
  subst hr; simp [execOp, hx, hy, binOp, Op.intCmp, eqGuard]
theorem x_eql {r : Bool} (hx : ρ x = .int ik a) (hy : ρ y = .int ik b) (hr : decide (a = b) = r) : (execOp ρ ⟨dst, .binOp .eql T x y T', ty, pos, aft, gd⟩).run P w = .ok (.value (.bool r)) w := by
  subst hr; simp [execOp, hx, hy, binOp, Op.intCmp, eqGuard]
  exact beq_dec a b
theorem x_neq {r : Bool} (hx : ρ x = .int ik a) (hy : ρ y = .int ik b) (hr : decide (a = b) = !r) : (execOp ρ ⟨dst, .binOp .neq T x y T', ty, pos, aft, gd⟩).run P w = .ok (.value (.bool r)) w := by
  have : r = !decide (a = b) := by rw [hr]; simp
  subst this; simp [execOp, hx, hy, binOp, Op.intCmp, eqGuard, bne]
  exact beq_dec a b
theorem x_add (hx : ρ x = .int .i64 a) (hy : ρ y = .int .i64 b) (hr : -9223372036854775808 ≤ a + b ∧ a + b ≤ 9223372036854775807) : (execOp ρ ⟨dst, .binOp .add T x y T', ty, pos, aft, gd⟩).run P w = .ok (.value (.int .i64 (a + b))) w := by
  simp [execOp, hx, hy, binOp, Op.intArith, eqGuard]
  exact IntWalk.i64_in _ (by omega)
theorem x_sub (hx : ρ x = .int .i64 a) (hy : ρ y = .int .i64 b) (hr : -9223372036854775808 ≤ a - b ∧ a - b ≤ 9223372036854775807) : (execOp ρ ⟨dst, .binOp .sub T x y T', ty, pos, aft, gd⟩).run P w = .ok (.value (.int .i64 (a - b))) w := by
  simp [execOp, hx, hy, binOp, Op.intArith, eqGuard]
  exact IntWalk.i64_in _ (by omega)
end int
theorem toList_eq_iff (a b : ByteArray) : (a.toList == b.toList) = decide (a = b) := by
  rw [Bool.eq_iff_iff]
  simp only [beq_iff_eq, decide_eq_true_eq, ByteArray.toList_eq]
  constructor
  · intro h; cases a; cases b; simp at h; simp [h]
  · rintro rfl; rfl
section str
variable {x y : Operand} {a b : ByteArray} {T T' : TypeId}
theorem x_seql {r : Bool} (hx : ρ x = .string a) (hy : ρ y = .string b) (hr : decide (a = b) = r) : (execOp ρ ⟨dst, .binOp .eql T x y T', ty, pos, aft, gd⟩).run P w = .ok (.value (.bool r)) w := by
  subst hr; simp [execOp, hx, hy, binOp, Op.stringOp, eqGuard, toList_eq_iff]
theorem x_sneq {r : Bool} (hx : ρ x = .string a) (hy : ρ y = .string b) (hr : decide (a = b) = !r) : (execOp ρ ⟨dst, .binOp .neq T x y T', ty, pos, aft, gd⟩).run P w = .ok (.value (.bool r)) w := by
  have : r = !decide (a = b) := by rw [hr]; simp
  subst this; simp [execOp, hx, hy, binOp, Op.stringOp, eqGuard, toList_eq_iff]
end str
section bools
variable {x y : Operand} {a b : Bool} {T T' : TypeId}
theorem x_beql {r : Bool} (hT : P.underlying T = some .bool) (hx : ρ x = .bool a) (hy : ρ y = .bool b) (hr : decide (a = b) = r) : (execOp ρ ⟨dst, .binOp .eql T x y T', ty, pos, aft, gd⟩).run P w = .ok (.value (.bool r)) w := by
  have e : (a == b) = r := by subst hr; cases a <;> cases b <;> rfl
  simp [execOp, hx, hy, eqGuard, run_eql_bool w T a b hT, e]
theorem x_bneq {r : Bool} (hT : P.underlying T = some .bool) (hx : ρ x = .bool a) (hy : ρ y = .bool b) (hr : decide (a = b) = !r) : (execOp ρ ⟨dst, .binOp .neq T x y T', ty, pos, aft, gd⟩).run P w = .ok (.value (.bool r)) w := by
  have e : (a == b) = !r := by cases a <;> cases b <;> cases r <;> simp_all
  simp [execOp, hx, hy, eqGuard, run_neq_bool w T a b hT, e]
end bools

theorem x_len {x : Operand} {A : Option Addr} {n c : Nat} {T E : TypeId} (hU : P.underlying T = some (.slice E)) (hx : ρ x = .slice A n c) :
    (execOp ρ ⟨dst, .call { callee := .builtin .len, args := #[x], argTypes := #[T] }, ty, pos, aft, gd⟩).run P w = .ok (.value (.int .i64 n)) w := by
  simp [execOp, resolve, invoke, builtin, Builtin.len_, hx, run_underlying hU, goInt]
theorem x_slen {x : Operand} {s : ByteArray} {T : TypeId} (hU : P.underlying T = some .string) (hx : ρ x = .string s) :
    (execOp ρ ⟨dst, .call { callee := .builtin .len, args := #[x], argTypes := #[T] }, ty, pos, aft, gd⟩).run P w = .ok (.value (.int .i64 s.size)) w := by
  simp [execOp, resolve, invoke, builtin, Builtin.len_, hx, run_underlying hU, goInt]

theorem x_index {x y : Operand} {b o n c : Nat} {i : Nat} {a : Int} {T E : TypeId} {k : Nat} (hU : P.underlying T = some (.slice E)) (hS : ∀ w, (Go.sizeOf E).run P w = .ok k w) (hx : ρ x = .slice (some ⟨b, o, none⟩) n c) (hy : ρ y = .int .i64 a) (ha : a = (i : Int)) (hi : i < n) :
    (execOp ρ ⟨dst, .indexAddr T x y, ty, pos, aft, gd⟩).run P w = .ok (.value (.pointer (some ⟨b, o + i * k, none⟩))) w := by
  subst ha
  have h0 : (0 : Int) ≤ (i : Int) ∧ (i : Int) < (n : Int) := by omega
  simp [execOp, Instr.indexAt, hx, hy, asIntOf, run_underlying hU, hS, add_mk, hi]
theorem x_index' {x y : Operand} {A : Option Addr} {b o n c : Nat} {i : Nat} {a : Int} {T E : TypeId} {k : Nat} (hU : P.underlying T = some (.slice E)) (hS : ∀ w, (Go.sizeOf E).run P w = .ok k w) (hx : ρ x = .slice A n c) (hA : A = some ⟨b, o, none⟩) (hy : ρ y = .int .i64 a) (ha : a = (i : Int)) (hi : i < n) :
    (execOp ρ ⟨dst, .indexAddr T x y, ty, pos, aft, gd⟩).run P w = .ok (.value (.pointer (some ⟨b, o + i * k, none⟩))) w := x_index hU hS (hx.trans (by rw [hA])) hy ha hi
/-- a string's byte -/
def bAt (s : ByteArray) (i : Nat) : Int := ((s[i]?.getD 0).toNat : Int)
theorem bAt_bd (s : ByteArray) (i : Nat) : 0 ≤ bAt s i ∧ bAt s i ≤ 255 := by
  unfold bAt
  have := (s[i]?.getD 0).toNat_lt
  omega
theorem x_sindex {x y : Operand} {s : ByteArray} {i : Nat} {a : Int} {T : TypeId} (hU : P.underlying T = some .string) (hx : ρ x = .string s) (hy : ρ y = .int .i64 a) (ha : a = (i : Int)) (hi : i < s.size) :
    (execOp ρ ⟨dst, .index T x y, ty, pos, aft, gd⟩).run P w = .ok (.value (.int .u8 (bAt s i))) w := by
  subst ha
  simp [execOp, Instr.index, hx, hy, asIntOf, run_underlying hU, bAt, hi]
theorem x_conv {x : Operand} {a : Int} {T T' : TypeId} {k k' : IntKind} (hT : P.underlying T = some (.int k')) (hU : P.underlying T' = some (.int .i64)) (hx : ρ x = .int k a) (hr : -9223372036854775808 ≤ a ∧ a ≤ 9223372036854775807) :
    (execOp ρ ⟨dst, .convert T T' x, ty, pos, aft, gd⟩).run P w = .ok (.value (.int .i64 a)) w := by
  have e : IntKind.i64.wrap a = a := IntWalk.i64_in _ (by omega)
  simp [execOp, convert, hx, run_underlying hU, run_underlying hT, Conv.intToInt, e]
theorem x_field {x : Operand} {b o j k : Nat} {T : TypeId} {fs : Array Field} {i : Nat} {fd : Field} (hU : P.underlying T = some (.struct fs)) (hF : fs[i]? = some fd) (hS : ∀ w, (Go.sizeOf fd.type).run P w = .ok (k + 1) w) (hj : fd.offset = j) (hx : ρ x = .pointer (some ⟨b, o, none⟩)) :
    (execOp ρ ⟨dst, .fieldAddr T x i, ty, pos, aft, gd⟩).run P w = .ok (.value (.pointer (some ⟨b, o + j, none⟩))) w := by
  subst hj
  simp [execOp, Instr.fieldAt, hx, Instr.sureAddr, run_underlying hU, hF, fieldPlace, hS, add_mk]
theorem x_slice_hi {x y : Operand} {A : Option Addr} {n c h : Nat} {a : Int} {T E : TypeId} {k : Nat} (hU : P.underlying T = some (.slice E)) (hS : ∀ w, (Go.sizeOf E).run P w = .ok k w) (hx : ρ x = .slice A n c) (hy : ρ y = .int .i64 a) (ha : a = (h : Int)) (hh : h ≤ c) :
    (execOp ρ ⟨dst, .slice T x none (some y) none, ty, pos, aft, gd⟩).run P w = .ok (.value (.slice A h c)) w := by
  subst ha
  have e : A.map (fun z => z.add 0) = A := by cases A <;> simp [Addr.add]
  simp [execOp, Instr.sliceAt, Instr.slice, Instr.sliceBounds, Instr.sliceBound, hx, hy, asIntOf, run_underlying hU, hS, hh, e]
def Bnd (ρ : Operand → Value) : Option Operand → Nat → Nat → Prop
  | none, z, m => m = z
  | some y, _, m => ρ y = .int .i64 (m : Int)
theorem x_slice2 {x : Operand} {lo hi : Option Operand} {A : Option Addr} {n c l h : Nat} {T E : TypeId} {k : Nat} (hU : P.underlying T = some (.slice E)) (hS : ∀ w, (Go.sizeOf E).run P w = .ok k w) (hx : ρ x = .slice A n c) (hl : Bnd ρ lo 0 l) (hh : Bnd ρ hi n h) (h1 : l ≤ h) (h2 : h ≤ c) :
    (execOp ρ ⟨dst, .slice T x lo hi none, ty, pos, aft, gd⟩).run P w = .ok (.value (.slice (if c = l then A else A.map (fun z => z.add (l * k))) (h - l) (c - l))) w := by
  cases lo with
  | none =>
    cases hi with
    | none => simp only [Bnd] at hl hh; subst hl hh; simp [execOp, Instr.sliceAt, Instr.slice, Instr.sliceBounds, Instr.sliceBound, hx, asIntOf, run_underlying hU, hS]
    | some z => simp only [Bnd] at hl hh; subst hl; simp [execOp, Instr.sliceAt, Instr.slice, Instr.sliceBounds, Instr.sliceBound, hx, hh, asIntOf, run_underlying hU, hS, h2]
  | some y =>
    cases hi with
    | none => simp only [Bnd] at hl hh; subst hh; simp [execOp, Instr.sliceAt, Instr.slice, Instr.sliceBounds, Instr.sliceBound, hx, hl, asIntOf, run_underlying hU, hS, h1]
    | some z => simp only [Bnd] at hl hh; simp [execOp, Instr.sliceAt, Instr.slice, Instr.sliceBounds, Instr.sliceBound, hx, hl, hh, asIntOf, run_underlying hU, hS, h1, h2]
theorem x_load {x : Operand} {b o : Nat} {T : TypeId} {v : Value} (hA : ∀ w, (isAgg T).run P w = .ok false w) (hx : ρ x = .pointer (some ⟨b, o, none⟩)) (hc : w.cell? ⟨b, o, none⟩ = some v) :
    (execOp ρ ⟨dst, .load T x, ty, pos, aft, gd⟩).run P w = .ok (.value v) w := by
  simp [execOp, Instr.loadAt, hx, Instr.sureAddr, loadVar, hA, load, Sem.run, hc]

theorem run_loadCellsFrom {b o : Nat} : ∀ (cs : List Value) (i : Nat) (acc : Array Value), Lies w b (o + i) cs → (loadCellsFrom ⟨b, o, none⟩ i cs.length acc).run P w = .ok (acc ++ cs.toArray) w
  | [], i, acc, _ => by simp [loadCellsFrom]
  | c :: cs, i, acc, h => by
    have h0 := h 0 c (by simp)
    rw [Nat.add_zero] at h0
    have ih := run_loadCellsFrom cs (i + 1) (acc.push c) (fun j u hu => by
      have := h (j + 1) u (by simpa using hu)
      rw [show o + (i + 1) + j = o + i + (j + 1) from by omega]
      exact this)
    simp [loadCellsFrom, load, Sem.run, add_mk, h0, ih]
theorem x_loadN {x : Operand} {b o : Nat} {T : TypeId} {cs : List Value} {k : Nat} (hA : ∀ w, (isAgg T).run P w = .ok true w) (hS : ∀ w, (Go.sizeOf T).run P w = .ok k w) (hx : ρ x = .pointer (some ⟨b, o, none⟩)) (hl : cs.length = k) (hc : Lies w b o cs) :
    (execOp ρ ⟨dst, .load T x, ty, pos, aft, gd⟩).run P w = .ok (.value (.agg cs.toArray)) w := by
  subst hl
  have h := run_loadCellsFrom (P := P) (w := w) (b := b) (o := o) cs 0 #[] (by simpa using hc)
  simp [execOp, Instr.loadAt, hx, Instr.sureAddr, loadVar, hA, hS, loadCells, h]

theorem x_box {x : Operand} {T : TypeId} {cs : List Value} (hx : ρ x = .agg cs.toArray) :
    (execOp ρ ⟨dst, .box T x, ty, pos, aft, gd⟩).run P w = .ok (.value (.pointer (some ⟨w.heap.size, 0, none⟩))) (w.alloc (.cells cs.toArray T)) := by
  simp [execOp, Instr.box, hx, newVar, newRow, newObj, Value.cells, Sem.run]
theorem x_alloc {T : TypeId} {cs : List Value} (hz : ∀ w, (zeroValue T).run P w = .ok (.agg cs.toArray) w) :
    (execOp ρ ⟨dst, .alloc T, ty, pos, aft, gd⟩).run P w = .ok (.value (.pointer (some ⟨w.heap.size, 0, none⟩))) (w.alloc (.cells cs.toArray T)) := by
  simp [execOp, Instr.alloc, hz, newVar, newRow, newObj, Value.cells, Sem.run]

/-- what is stored is one cell -/
def one : Value → Bool
  | .agg _ => false
  | .tuple _ => false
  | _ => true
theorem run_store1 {g i : Nat} {t : TypeId} {cs : List Value} {v : Value} {α : Type} (k : Sem α) (hb : Blk w g t cs) (hi : i < cs.length) (h1 : one v = true) :
    (Sem.store .plain ⟨g, i, none⟩ v k).run P w = k.run P (setB w g (.cells (cs.set i v).toArray t (0, 0))) := by
  have hc : w.cell? ⟨g, i, none⟩ = some cs[i] := by rw [hb.cell]; simp [hi]
  have hf := hb.frozen i
  rw [← setCell_blk hb]
  cases v <;> simp_all [Sem.run, one]
theorem x_store {x y : Operand} {g o : Nat} {T t : TypeId} {cs : List Value} {v : Value} (hS : ∀ w, (Go.sizeOf T).run P w = .ok 1 w) (hx : ρ x = .pointer (some ⟨g, o, none⟩)) (hy : ρ y = v) (h1 : one v = true) (hb : Blk w g t cs) (hi : o < cs.length) :
    (execOp ρ ⟨dst, .store T x y, ty, pos, aft, gd⟩).run P w = .ok .skip (setB w g (.cells (cs.set o v).toArray t (0, 0))) := by
  have hc : v.cells = #[v] := by cases v <;> simp_all [Value.cells, one]
  simp [execOp, Instr.storeAt, hx, hy, Instr.sureAddr, storeVar, hS, hc, storeCells, store, Addr.add, run_store1 _ hb hi h1]

def splice (cs : List Value) (i : Nat) (vs : List Value) : List Value := cs.take i ++ vs ++ cs.drop (i + vs.length)
theorem setB_setB (w : World) (g : Nat) (o o' : Obj) : setB (setB w g o) g o' = setB w g o' := by
  simp [setB]
theorem splice_cons (cs : List Value) (i : Nat) (v : Value) (vs : List Value) (h : i + (vs.length + 1) ≤ cs.length) : splice (cs.set i v) (i + 1) vs = splice cs i (v :: vs) := by
  unfold splice
  apply List.ext_getElem?
  intro k
  simp only [List.getElem?_append, List.length_append, List.length_take, List.length_set, List.length_cons, List.getElem?_take, List.getElem?_set, List.getElem?_drop, List.getElem?_cons]
  grind
theorem run_storeCells {g : Nat} {t : TypeId} {o : Nat} : ∀ (vs : List Value) (i : Nat) (w : World) (cs : List Value), Blk w g t cs → o + i + vs.length ≤ cs.length → (∀ v ∈ vs, one v = true) →
    (storeCells ⟨g, o, none⟩ vs i).run P w = .ok () (setB w g (.cells (splice cs (o + i) vs).toArray t (0, 0)))
  | [], i, w, cs, hb, _, _ => by
    have : setB w g (.cells (splice cs (o + i) []).toArray t (0, 0)) = w := by
      have h2 := hb
      unfold Blk at h2
      simp only [splice, List.append_nil, List.length_nil, Nat.add_zero, List.take_append_drop]
      have hlt := hb.lt
      unfold setB
      have : w.heap.setIfInBounds g (.cells cs.toArray t (0, 0)) = w.heap := by
        apply Array.ext
        · simp
        · intro k h1 h3
          rw [Array.getElem_setIfInBounds]
          split
          · rename_i e; subst e
            rw [Array.getElem?_eq_getElem h3] at h2
            exact (Option.some.inj h2).symm
          · rfl
      rw [this]
    simp [storeCells, this]
  | v :: vs, i, w, cs, hb, hl, h1 => by
    simp only [List.length_cons] at hl
    have hs : (cs.set (o + i) v).length = cs.length := by simp
    have ih := run_storeCells (o := o) vs (i + 1) (setB w g (.cells (cs.set (o + i) v).toArray t (0, 0))) (cs.set (o + i) v) (hb.setSame t _) (by rw [hs]; omega) (fun u hu => h1 u (by simp [hu]))
    rw [setB_setB, show o + (i + 1) = o + i + 1 from by omega, splice_cons cs (o + i) v vs (by omega)] at ih
    simp only [storeCells, store, add_mk]
    have h2 := run_store1 (P := P) (Sem.pure ()) hb (show o + i < cs.length by omega) (h1 v (by simp))
    simp only [Sem.run_bind, h2, Sem.run, Result.andThen_ok]
    exact ih
theorem x_storeN {x y : Operand} {g o k : Nat} {T t : TypeId} {cs vs : List Value} (hS : ∀ w, (Go.sizeOf T).run P w = .ok k w) (hx : ρ x = .pointer (some ⟨g, o, none⟩)) (hy : ρ y = .agg vs.toArray) (hk : vs.length = k) (h1 : ∀ v ∈ vs, one v = true) (hb : Blk w g t cs) (hi : o + k ≤ cs.length) :
    (execOp ρ ⟨dst, .store T x y, ty, pos, aft, gd⟩).run P w = .ok .skip (setB w g (.cells (splice cs o vs).toArray t (0, 0))) := by
  have h := run_storeCells (P := P) (o := o) vs 0 w cs hb (by omega) h1
  simp only [Nat.add_zero] at h
  simp [execOp, Instr.storeAt, hx, hy, Instr.sureAddr, storeVar, hS, hk, Value.cells, h]

theorem x_call {F : FuncId} {as : Array Operand} {ts : Array TypeId} {vs : Array Value} (hC : ∀ (args : Array Value) (w : World), (callFunc F args).run P w = .ok (.enter F args) w) (hF : ρ (.func F) = .func (.func F) #[] #[]) (ha : as.map ρ = vs) :
    (execOp ρ ⟨dst, .call { callee := .value (.func F), args := as, argTypes := ts }, ty, pos, aft, gd⟩).run P w = .ok (.enter F vs) w := by
  subst ha
  simp [execOp, resolve, Deferred.ofValue, hF, invoke, hC]
theorem a1 {x : Operand} {u : Value} (h : ρ x = u) : (#[x] : Array Operand).map ρ = #[u] := by simp [h]
theorem a2 {x y : Operand} {u v : Value} (h : ρ x = u) (h' : ρ y = v) : (#[x, y] : Array Operand).map ρ = #[u, v] := by simp [h, h']
theorem a3 {x y z : Operand} {u v q : Value} (h : ρ x = u) (h' : ρ y = v) (h2 : ρ z = q) : (#[x, y, z] : Array Operand).map ρ = #[u, v, q] := by simp [h, h', h2]
theorem a4 {x y z t : Operand} {u v q r : Value} (h : ρ x = u) (h' : ρ y = v) (h2 : ρ z = q) (h3 : ρ t = r) : (#[x, y, z, t] : Array Operand).map ρ = #[u, v, q, r] := by simp [h, h', h2, h3]
theorem a5 {x y z t s : Operand} {u v q r p : Value} (h : ρ x = u) (h' : ρ y = v) (h2 : ρ z = q) (h3 : ρ t = r) (h4 : ρ s = p) : (#[x, y, z, t, s] : Array Operand).map ρ = #[u, v, q, r, p] := by simp [h, h', h2, h3, h4]
theorem x_extract {x : Operand} {vs : Array Value} {i : Nat} {v : Value} (hx : ρ x = .tuple vs) (hi : vs[i]? = some v) : (execOp ρ ⟨dst, .extract x i, ty, pos, aft, gd⟩).run P w = .ok (.value v) w := by
  simp [execOp, Instr.extract, hx, hi]
end ops

theorem dec_t {p : Prop} [Decidable p] (h : p) : decide p = true := by simp [h]
theorem dec_f {p : Prop} [Decidable p] (h : ¬ p) : decide p = false := by simp [h]
theorem vint {k : IntKind} {a b : Int} (h : a = b) : Value.int k a = Value.int k b := by rw [h]
section rets
variable {P : Program} {N : Nat} {f : Fm} {w : World} {fn : Func}
theorem r_tmp {t : Tmp} {v : Value} (h : fn.results = #[.tmp t]) (hv : f t = v) (ht : Nat.blt t N = true := by rfl) : (results fn (fr f N).tmps).run P w = .ok v w := by
  have hlt : t < N := by simpa using ht
  rw [results_tmp h]
  simp [fr, hlt, hv]
theorem r_cell {a : Tmp} {T t : TypeId} {g k : Nat} {cs : List Value} (h : fn.results = #[.cell a T]) (hv : f a = .pointer (some ⟨g, 0, none⟩)) (hA : ∀ w, (isAgg T).run P w = .ok true w) (hS : ∀ w, (Go.sizeOf T).run P w = .ok k w) (hl : cs.length = k) (hb : Blk w g t cs) (ha : Nat.blt a N = true := by rfl) :
    (results fn (fr f N).tmps).run P w = .ok (.agg cs.toArray) w := by
  have hlt : a < N := by simpa using ha
  subst hl
  have h0 := run_loadCellsFrom (P := P) (w := w) (b := g) (o := 0) cs 0 #[] (by simpa using hb.lies)
  simp [results, h, fr, hlt, hv, asAddr, loadVar, hA, hS, loadCells, h0]
end rets

/-- one operation, and what must hold behind it -/
def Op1 (P : Program) (N : Nat) (o : Oper) (f : Fm) (w : World) (K : Fm → World → Prop) : Prop :=
  o.wp P (fr f N) w (fun a' w' => ∃ f', a' = fr f' N ∧ K f' w') (fun _ _ _ => False)

/-- the blocks l are as they were -/
def Sm (l : List Nat) (w0 w : World) : Prop := ∀ g ∈ l, w.heap[g]? = w0.heap[g]?
theorem Sm.start (l : List Nat) (w : World) : Sm l w w.drew := fun _ _ => rfl
theorem Sm.next {l : List Nat} {w0 w w1 : World} (h : Sm l w0 w) (hk : Bel w.heap.size w w1) (hl : ∀ g ∈ l, g < w.heap.size) : Sm l w0 w1 := fun g hg => (hk.block g (hl g hg)).trans (h g hg)
/-- block g alone has been written -/
structure Off (g : Nat) (w w' : World) : Prop where
  os : w'.os = w.os
  tape : w'.tape = w.tape
  output : w'.output = w.output
  size : w'.heap.size = w.heap.size
  block : ∀ k, k ≠ g → w'.heap[k]? = w.heap[k]?
  fz : ∀ o, w'.frozen? ⟨g, o, none⟩ = false

theorem Off.setB (w : World) (g : Nat) (cs : Array Value) (t : TypeId) : Off g w (setB w g (.cells cs t (0, 0))) := by
  refine ⟨rfl, rfl, rfl, size_setB w g _, fun k hk => heap_setB w g _ k hk, fun o => ?_⟩
  rcases Nat.lt_or_ge g w.heap.size with hl | hl
  · simp [World.frozen?, Go.Proofs.Ytmaigpiappmpcaa.setB, hl]
  · exact frozen_out (by rw [size_setB]; exact hl) o
theorem below_off {B : Nat} {a w w' : World} {g : Nat} (h : Bel B a w) (ho : Off g w w') (hg : B ≤ g) : Bel B a w' := by
  refine ⟨h.toBelow.trans ⟨ho.os, ho.tape, ho.output, by rw [ho.size]; exact Nat.le_refl _, fun k hk => ho.block k (by omega)⟩, fun k hk o => ?_⟩
  by_cases e : k = g
  · subst e; exact ho.fz o
  · rw [World.frozen?_of_block (w := w) (ho.block k e)]
    exact h.thaw k hk o
theorem below_next {B : Nat} {a w w' : World} (h : Bel B a w) (hk : Bel w.heap.size w w') (hB : B ≤ w.heap.size) : Bel B a w' := bel_next h hk hB
theorem Blk.off {w w' : World} {g k : Nat} {t : TypeId} {cs : List Value} (h : Blk w g t cs) (ho : Off k w w') (hne : g ≠ k) : Blk w' g t cs := h.keep (ho.block g hne)
theorem Rep.off {w w' : World} {k : Nat} {v : V} {cs : List Value} {F : List Nat} (h : Rep w v cs F) (ho : Off k w w') (hne : k ∉ F) : Rep w' v cs F :=
  h.keep v fun g hg => ho.block g (fun e => hne (e ▸ hg))

section
variable {P : Program} {N : Nat} {ops : Array Oper} {Kn : Fm → World → Prop} {rest : List Oper} {f : Fm} {w : World} {o : Oper} {S : World → Prop} {s : List (Nat × Bool)} {i : Nat} {K : Fm → World → Prop}

theorem Op1.toWp {Q : Exit → Act → World → Prop} {K' : Act → World → Prop} (h : Op1 P N o f w K) (hK : ∀ f' w', K f' w' → K' (fr f' N) w') : o.wp P (fr f N) w K' Q := by
  unfold Op1 Oper.wp at h
  unfold Oper.wp
  generalize (execOp (fr f N).eval o).run P w = r at *
  cases r with
  | ok n w' =>
    cases n <;> simp only [Oper.upon] at h ⊢
    case value v => obtain ⟨f', e, hk⟩ := h; rw [e]; exact hK _ _ hk
    case skip => obtain ⟨f', e, hk⟩ := h; rw [e]; exact hK _ _ hk
    case defer d => obtain ⟨f', e, hk⟩ := h; rw [e]; exact hK _ _ hk
    case enter g args =>
      refine Calls.mono h fun e w'' he => ?_
      cases e with
      | returned v => obtain ⟨f', e, hk⟩ := he; show K' _ _; rw [e]; exact hK _ _ hk
      | panicked c => exact he.elim
      | outgrown => obtain ⟨_, _, h⟩ := he; exact h.elim
    case row r args => exact Rows.mono h fun v w'' he => by obtain ⟨f', e, hk⟩ := he; rw [e]; exact hK _ _ hk
  | halt x w' =>
    cases x <;> simp only [Oper.upon] at h

theorem l_op (hg : Wants N ops f o.guard) (h : Op1 P N o f w (fun f' w' => Ls P N ops Kn rest f' w')) : Ls P N ops Kn (o :: rest) f w := by
  unfold Ls wpList
  rw [if_pos (show Region.wanted o _ = true from hg)]
  exact .inl (h.toWp fun _ _ hk => hk)
theorem d_op (hi : ops[i]? = some o) (hg : Wants N ops f o.guard) (h : Op1 P N o f w (fun f' w' => S w' ∧ Dw P N ops S Kn s f' w')) : Dw P N ops S Kn ((i, false) :: s) f w := by
  simp only [Dw, Bool.false_eq_true, if_false, wpOp, hi]
  rw [if_pos (show Region.wanted o _ = true from hg)]
  exact .inl (h.toWp fun f' w' hk => ⟨hk.1, f', rfl, hk.2⟩)
theorem d_q (hi : ops[i]? = some o) {d : Nat} (hd : o.dst = some d) (hg : Wants N ops f o.guard) {v : Value} (hr : ∀ w, S w → (execOp (fr f N).eval o).run P w = .ok (.value v) w) (hS : S w)
    (h : Dw P N ops S Kn s (upd f d v) w) : Dw P N ops S Kn ((i, true) :: s) f w := by
  simp only [Dw, if_true]
  refine ⟨_, v, _, hi, .inl ⟨hg, hr⟩, ?_, hS, h⟩
  rw [hd]
  exact fr_put f N d v
end

section
variable {P : Program} {N : Nat} {f : Fm} {w : World} {K : Fm → World → Prop} {d : Nat} {ty : TypeId} {pos : String} {aft : Array Edge} {gd : Option (Nat × Bool)}

theorem o_val {op : Op} {v : Value} (hr : (execOp (fr f N).eval ⟨some d, op, ty, pos, aft, gd⟩).run P w = .ok (.value v) w) (h : K (upd f d v) w) : Op1 P N ⟨some d, op, ty, pos, aft, gd⟩ f w K := by
  unfold Op1 Oper.wp
  rw [hr, Oper.upon_value]
  exact ⟨_, fr_put f N d v, h⟩
theorem o_val' {op : Op} {v : Value} {w' : World} (hr : (execOp (fr f N).eval ⟨some d, op, ty, pos, aft, gd⟩).run P w = .ok (.value v) w') (h : K (upd f d v) w') : Op1 P N ⟨some d, op, ty, pos, aft, gd⟩ f w K := by
  unfold Op1 Oper.wp
  rw [hr, Oper.upon_value]
  exact ⟨_, fr_put f N d v, h⟩
theorem o_skip {op : Op} {w' : World} (hr : (execOp (fr f N).eval ⟨none, op, ty, pos, aft, gd⟩).run P w = .ok .skip w') (h : K f w') : Op1 P N ⟨none, op, ty, pos, aft, gd⟩ f w K := by
  unfold Op1 Oper.wp
  rw [hr, Oper.upon_skip]
  exact ⟨_, rfl, h⟩
theorem o_call {op : Op} {g : FuncId} {args : Array Value} (hr : (execOp (fr f N).eval ⟨some d, op, ty, pos, aft, gd⟩).run P w = .ok (.enter g args) w) {R : Ending → World → Prop} (hc : Calls P g args w R)
    (h : ∀ e w', R e w' → ∃ v, e = .returned v ∧ K (upd f d v) w') : Op1 P N ⟨some d, op, ty, pos, aft, gd⟩ f w K := by
  unfold Op1 Oper.wp
  rw [hr, Oper.upon_enter]
  refine hc.mono fun e w' he => ?_
  obtain ⟨v, rfl, hl⟩ := h e w' he
  exact ⟨_, fr_put f N d v, hl⟩
/-- a new block -/
theorem o_new {op : Op} {T : TypeId} {cs : List Value} {v : Value} (hr : (execOp (fr f N).eval ⟨some d, op, ty, pos, aft, gd⟩).run P w = .ok (.value v) (w.alloc (.cells cs.toArray T)))
    (h : ∀ w1 : World, w1.heap.size = w.heap.size + 1 → Bel w.heap.size w w1 → Blk w1 w.heap.size T cs → K (upd f d v) w1) : Op1 P N ⟨some d, op, ty, pos, aft, gd⟩ f w K :=
  o_val' hr (h _ (size_alloc _ _) (bel_alloc _ _ _) (Blk.new _ _ _))
/-- a store into a block that is known whole -/
theorem o_store {x y : Operand} {g o : Nat} {T t : TypeId} {cs : List Value} {v : Value} (hS : ∀ w, (Go.sizeOf T).run P w = .ok 1 w) (hx : (fr f N).eval x = .pointer (some ⟨g, o, none⟩)) (hy : (fr f N).eval y = v) (h1 : one v = true) (hb : Blk w g t cs) (hi : Nat.blt o cs.length = true)
    (h : ∀ w1 : World, Off g w w1 → Blk w1 g t (cs.set o v) → K f w1) : Op1 P N ⟨none, .store T x y, ty, pos, aft, gd⟩ f w K :=
  o_skip (x_store hS hx hy h1 hb (by simpa using hi)) (h _ (Off.setB _ _ _ _) (hb.setSame t _))
theorem o_store' {x y : Operand} {g o : Nat} {T t : TypeId} {cs : List Value} {v : Value} (hS : ∀ w, (Go.sizeOf T).run P w = .ok 1 w) (hx : (fr f N).eval x = .pointer (some ⟨g, o, none⟩)) (hy : (fr f N).eval y = v) (h1 : one v = true) (hb : Blk w g t cs) (hi : o < cs.length)
    (h : ∀ w1 : World, Off g w w1 → Blk w1 g t (cs.set o v) → K f w1) : Op1 P N ⟨none, .store T x y, ty, pos, aft, gd⟩ f w K :=
  o_skip (x_store hS hx hy h1 hb hi) (h _ (Off.setB _ _ _ _) (hb.setSame t _))
theorem o_storeN {x y : Operand} {g o k : Nat} {T t : TypeId} {cs vs : List Value} (hS : ∀ w, (Go.sizeOf T).run P w = .ok k w) (hx : (fr f N).eval x = .pointer (some ⟨g, o, none⟩)) (hy : (fr f N).eval y = .agg vs.toArray) (hk : vs.length = k) (h1 : ∀ v ∈ vs, one v = true) (hb : Blk w g t cs) (hi : o + k ≤ cs.length)
    (h : ∀ w1 : World, Off g w w1 → Blk w1 g t (splice cs o vs) → K f w1) : Op1 P N ⟨none, .store T x y, ty, pos, aft, gd⟩ f w K :=
  o_skip (x_storeN hS hx hy hk h1 hb hi) (h _ (Off.setB _ _ _ _) (hb.setSame t _))
end

section
variable {P : Program} {N : Nat} {f : Fm} {w : World} {K : Fm → World → Prop} {d : Nat} {ty : TypeId} {pos : String} {aft : Array Edge} {gd : Option (Nat × Bool)}
/-- make([]E, n) -/
theorem o_make {x : Operand} {T E : TypeId} {n k bytes : Nat} {z : Value} (hU : P.underlying T = some (.slice E)) (hI : (P.info? E).map (fun i => (i.zero, i.size, i.bytes)) = some (some z, k, bytes))
    (hx : (fr f N).eval x = .int .i64 n) (hn : n * bytes ≤ 140737488355328) (hn2 : n ≤ 4611686018427387904)
    (h : ∀ (w1 : World) (cs : List Value), w1.heap.size = w.heap.size + 1 → Bel w.heap.size w w1 → Blk w1 w.heap.size E cs → cs.length = n * k → K (upd f d (.slice (some ⟨w.heap.size, 0, none⟩) n n)) w1) :
    Op1 P N ⟨some d, .makeSlice T x x, ty, pos, aft, gd⟩ f w K := by
  obtain ⟨i0, hi, hz0, hz1, hz2⟩ := info_parts hI
  have h1 : (i0.bytes : Int) * (n : Int) ≤ 281474976710656 := by
    rw [hz2]
    have e : (bytes : Int) * (n : Int) = ((n * bytes : Nat) : Int) := by rw [Int.natCast_mul, Int.mul_comm]
    rw [e]
    omega
  have hr := run_make (P := P) w T E i0 z hU hi hz0 .i64 .i64 (n : Int) (n : Int) (by omega) (Int.le_refl _) h1 (by omega)
  simp only [Int.toNat_natCast, hz1] at hr
  have hr2 : (execOp (fr f N).eval ⟨some d, .makeSlice T x x, ty, pos, aft, gd⟩).run P w = .ok (.value (.slice (some ⟨w.heap.size, 0, none⟩) n n)) (w.alloc (.cells (madeCells z.cells (n * k)).toList.toArray E)) := by
    simp [execOp, hx, hr]
  refine o_val' hr2 (h _ _ (size_alloc _ _) (bel_alloc _ _ _) (Blk.new _ _ _) ?_)
  simp [madeCells]
end
attribute [irreducible] Op1 Ls W Dw

end Go.Proofs.Ytmaigpiappmpcaa
