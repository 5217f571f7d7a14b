/-
  A piece of K does what the program's code does (code_sound); a function of K does what the program's function does (evF_sound). No program is named here.
-/
import Derived.Test.YtmaigpiappmpcaaKMrk
import Derived.Test.YtmaigpiappmpcaaKOrd
namespace Go.Proofs.Ytmaigpiappmpcaa
set_option linter.unusedVariables false
set_option linter.unusedSimpArgs false
open Go.RowKit

section
variable (P : Program) (N : Nat) (num : Nat → FuncId)

def elemB (T : TypeId) : Option (TypeId × TypeInfo × Value) :=
  match P.underlying T with
  | some (.slice E) => match P.info? E with
    | some i => match i.zero with
      | some z => some (E, i, z)
      | none => none
    | none => none
  | _ => none
def okCallee (F : FuncId) : Bool :=
  match P.funcs[F]? with
  | some fn => fn.body.isSome && !(fn.name == "runtime.NumGoroutine")
  | none => false
def okN : Op → Option Tmp → KO → Bool
  | .alloc T, some _, .alloc zs => (match zeroB P T with
      | some z => okZs z zs
      | none => false)
  | .box _ x, some _, .box y => okX N x y
  | .buildSlice T n ps, some _, .mkrow k _ ys => (match P.underlying T with
      | some (.slice E) => sizeB P E == some k && (n == 0 || (zeroB P E).isSome) && okSeq N 0 ps.toList ys && n == ps.size && Nat.ble (n * k) 16777216
      | _ => false)
  | .makeSlice T a b, some _, .make k by_ fl zs y => okX N a y && okX N b y && (match elemB P T with
      | some (_, i, z) => i.size == k && i.bytes == by_ && Nat.blt 0 k && okZDs z.cells.toList zs && zs.length == k && (!fl || plains zs)
      | none => false)
  | .store T x v, none, .st n a b => sizeB P T == some n && okX N x a && okX N v b
  | .call c, some _, .app k by_ _ a b => (match c.callee, c.args.toList, c.argTypes.toList with
      | .builtin .append, [x, y], [T, T'] => T == T' && okX N x a && okX N y b && (match elemB P T with
        | some (_, i, z) => i.size == k && i.bytes == by_ && z.cells.size == k && Nat.blt 0 k
        | none => false)
      | _, _, _ => false)
  | .call c, _, .call g xs => (match c.callee with
      | .value (.func F) => F == num g && okCallee P F && okXs N c.args.toList xs
      | _ => false)
  | .call c, some _, .mrk g y y2 => (match c.callee, c.args.toList with
      | .value (.func F), [x, x2] => F == num g && okCallee P F && okX N x y && okX N x2 y2
      | _, _ => false)
  | .slice T x lo hi none, some _, .cut k y b c => (match P.underlying T with
      | some (.slice E) => sizeB P E == some k && okX N x y && okOX N lo b && okOX N hi c
      | _ => false)
  | _, _, _ => false

/-- the guard of an operation, by the slot of the operation that it looks at -/
def okG (ops : Array Oper) : Option (Nat × Bool) → Option (Nat × Bool) → Bool
  | none, none => true
  | some (j, want), some (g, want') => want == want' && (match ops[j]? with
      | some o => o.dst == some g && Nat.blt g N
      | none => false)
  | _, _ => false
def okI (ops : Array Oper) (o : Oper) (i : KI) : Bool :=
  o.dst == i.dst && (match i.dst with
    | some d => Nat.blt d N && Nat.blt d 900
    | none => true) && okG N ops o.guard i.gd && (if i.op.pure_ then i.dst.isSome && okP P N o.op i.op else okN P N num o.op i.dst i.op)
def okOs (ops : Array Oper) : List Oper → List KI → Bool
  | [], [] => true
  | o :: os, i :: is => okI P N num ops o i && okOs ops os is
  | _, _ => false
def KD.ent (x : KD) : Ent := ⟨x.j, x.q, x.al, x.dn⟩
def KT.ent : KT → ET
  | .nil => .nil
  | .op x t => .op x.ent t.ent
  | .alt x t r => .alt x.ent t.ent r.ent
def okDs (ops : Array Oper) : KT → Bool
  | .nil => true
  | .op ⟨j, q, _, _, i⟩ is => (match ops[j]? with
      | some o => okI P N num ops o i && (!q || i.op.pure_) && (i.gd.isNone || i.dst.isSome)
      | none => false) && okDs ops is
  | .alt ⟨j, q, _, _, i⟩ is r => (match ops[j]? with
      | some o => okI P N num ops o i && !q && i.gd.isNone
      | none => false) && okDs ops is && okDs ops r
def okC : K → Code → Bool
  | .skip, .skip => true
  | .reg is _, .region _ ops false => okOs P N num ops ops.toList is
  | .drw is _, .region _ ops true => okDs P N num ops is && Region.noSelect ops && is.ent.len == ops.size && chkW ops true is.ent (Array.replicate ops.size false)
  | .seq a b, .seq c d => okC a c && okC b d
  | .cond x a b, .cond y c d => okX N y x && okC a c && okC b d
  | .block i a, .block j c => i == j && okC a c
  | .loop a, .loop c => okC a c
  | .exit i, .exit j => i == j
  | .ret, .ret => true
  | .share _ a, c => okC a c
  | .dat _ a, c => okC a c
  | _, _ => false
end

theorem elem_run {P : Program} {T : TypeId} {E : TypeId} {i : TypeInfo} {z : Value} (h : elemB P T = some (E, i, z)) : P.underlying T = some (.slice E) ∧ P.info? E = some i ∧ i.zero = some z := by
  unfold elemB at h
  split at h
  · rename_i E' hu
    split at h
    · rename_i i' hi
      split at h
      · rename_i z' hz
        simp only [Option.some.injEq, Prod.mk.injEq] at h
        obtain ⟨rfl, rfl, rfl⟩ := h
        exact ⟨hu, hi, hz⟩
      · cases h
    · cases h
  · cases h

section
variable {P : Program} {γ : Gh} {h0 : Nat → Nat} {io : List Nat} {w0 : World} {s s' : St} {f : Fm} {w : World} {N : Nat} {num : Nat → FuncId} {K' : Fm → World → Prop}
  {cf : Nat → List A → Option (List A × List A)} {mf : Nat → Bool → List D → Int → Option (List D × Int)}

theorem noisy_sound (hcf : ∀ g a r o, cf g a = some (r, o) → CallOk P (num g) a r o) (hmf : ∀ g ag ds q ds' q', mf g ag ds q = some (ds', q') → MarkOk P (num g) ag ds q ds' q') (hi : Inv γ h0 io w0 s f w) {op : Op} {dst : Option Tmp} {kop : KO} {ty : TypeId} {pos : String} {aft : Array Edge} {gd : Option (Nat × Bool)} (hok : okN P N num op dst kop = true) (he : evN cf mf s dst kop = some s')
    (h : ∀ γ' f' w', Inv γ' h0 io w0 s' f' w' → Tr dst (touch s dst kop) γ w γ' w' f f' → K' f' w') : Op1 P N ⟨dst, op, ty, pos, aft, gd⟩ f w K' := by
  unfold okN at hok
  split at hok
  · split at hok
    · rename_i z hz
      exact n_alloc hi hz hok he (by simpa only [touch, Option.toList] using h)
    · cases hok
  · exact n_box hi hok he (by simpa only [touch, Option.toList] using h)
  · split at hok
    · rename_i E hU
      simp only [Bool.and_eq_true, Bool.or_eq_true, beq_iff_eq] at hok
      obtain ⟨⟨⟨⟨h1, h2⟩, h3⟩, h4⟩, h5⟩ := hok
      exact n_mkrow hi hU h1 h2 h3 h4 h5 he (by simpa only [touch, Option.toList, List.singleton_append] using h)
    · cases hok
  · simp only [Bool.and_eq_true] at hok
    obtain ⟨⟨h1, h2⟩, h3⟩ := hok
    split at h3
    · rename_i E i z hel
      obtain ⟨hU, hI, hz⟩ := elem_run hel
      simp only [Bool.and_eq_true, beq_iff_eq, Nat.blt_eq, Bool.or_eq_true, Bool.not_eq_true'] at h3
      obtain ⟨⟨⟨⟨⟨k1, k2⟩, k3⟩, k4⟩, k5⟩, k6⟩ := h3
      exact n_make hi hU hI hz k1 k2 k3 k4 k5 (fun hf => by rcases k6 with h | h <;> simp_all) h1 h2 he (by simpa only [touch, Option.toList] using h)
    · cases h3
  · simp only [Bool.and_eq_true, beq_iff_eq] at hok
    obtain ⟨⟨h1, h2⟩, h3⟩ := hok
    exact n_st hi h1 h2 h3 he h
  · rename_i c d k by_ fl a b
    split at hok
    · rename_i x y T T' hc1 hc2 hc3
      simp only [Bool.and_eq_true, beq_iff_eq] at hok
      obtain ⟨⟨⟨rfl, h1⟩, h2⟩, h3⟩ := hok
      obtain ⟨cal, args, ats⟩ := c
      simp only at hc1 hc2 hc3
      subst hc1
      have ea : args = #[x, y] := by rw [← hc2]
      have et : ats = #[T, T] := by rw [← hc3]
      subst ea et
      split at h3
      · rename_i E i z hel
        obtain ⟨hU, hI, hz⟩ := elem_run hel
        simp only [Bool.and_eq_true, beq_iff_eq, Nat.blt_eq] at h3
        obtain ⟨⟨⟨k1, k2⟩, k3⟩, k4⟩ := h3
        exact n_app hi hU hI hz k1 k2 k3 k4 h1 h2 he h
      · cases h3
    · cases hok
  · rename_i c g xs
    split at hok
    · rename_i F hc1
      simp only [Bool.and_eq_true, beq_iff_eq] at hok
      obtain ⟨⟨rfl, h1⟩, h2⟩ := hok
      obtain ⟨cal, args, ats⟩ := c
      simp only at hc1
      subst hc1
      unfold okCallee at h1
      split at h1
      · rename_i fn hfn
        simp only [Bool.and_eq_true, Bool.not_eq_true'] at h1
        exact n_call hi hfn h1.1 h1.2 h2 (hcf g) he h
      · cases h1
    · cases hok
  · rename_i c d g y y2
    split at hok
    · rename_i F x x2 hc1 hc2
      simp only [Bool.and_eq_true, beq_iff_eq] at hok
      obtain ⟨⟨⟨rfl, h1⟩, h2⟩, h3⟩ := hok
      obtain ⟨cal, args, ats⟩ := c
      simp only at hc1 hc2
      subst hc1
      have ea : args = #[x, x2] := by rw [← hc2]
      subst ea
      unfold okCallee at h1
      split at h1
      · rename_i fn hfn
        simp only [Bool.and_eq_true, Bool.not_eq_true'] at h1
        exact n_mark hi hfn h1.1 h1.2 h2 h3 (hmf g) he h
      · cases h1
    · cases hok
  · split at hok
    · rename_i E hU
      simp only [Bool.and_eq_true, beq_iff_eq] at hok
      obtain ⟨⟨⟨h1, h2⟩, h3⟩, h4⟩ := hok
      exact n_cut hi hU h1 h2 h3 h4 he h
    · cases hok
  · cases hok

theorem guard_cases {ops : Array Oper} (hi : Inv γ h0 io w0 s f w) {j g : Nat} {want : Bool} (hok : okG N ops (some (j, want)) (some (g, want)) = true) : (∀ b, s.get g = .d (.bool b) → b = want → Wants N ops f (some (j, want))) ∧ (∀ b, s.get g = .d (.bool b) → b ≠ want → Wantsnt N ops f (some (j, want))) ∧ (s.get g = .und → Wantsnt N ops f (some (j, want))) := by
  simp only [okG, Bool.and_eq_true] at hok
  obtain ⟨_, hok⟩ := hok
  split at hok
  · rename_i o ho
    simp only [Bool.and_eq_true, beq_iff_eq] at hok
    have hj : (ops[j]?).bind (·.dst) = some g := by rw [ho]; exact hok.1
    have hg := hi.get g
    refine ⟨fun b hb hw => ?_, fun b hb hw => ?_, fun hu => ?_⟩
    · rw [hb] at hg
      have hv := cr_bool hg
      subst hw
      exact wy hv hj hok.2
    · rw [hb] at hg
      have hv := cr_bool hg
      have : b = !want := by cases b <;> cases want <;> simp_all
      rw [this] at hv
      exact wx hv hj hok.2
    · rw [hu] at hg
      simp only [CR] at hg
      exact wu hg hj hok.2
  · cases hok

/-- the state of a function's body: with the places of the boxes that came in -/
def InvC (β0 : Nat → Nat) (h0 : Nat → Nat) (io : List Nat) (w0 : World) (s : St) (f : Fm) (w : World) : Prop := ∃ γ, Inv γ h0 io w0 s f w ∧ ∀ b, 900 ≤ b → γ.β b = β0 b

variable {β0 : Nat → Nat}
theorem InvC.keep (h : InvC β0 h0 io w0 s f w) (kp : Keep) : InvC β0 h0 io w0 (s.keep kp) f w := by
  obtain ⟨γ, hi, hb⟩ := h
  exact ⟨γ, hi.sub (fun d c hl => look_keep _ _ d c hl) (fun d c hl => look_keep _ _ d c hl) (fun d c hl => look_keep _ _ d c hl), hb⟩

theorem evO_split {d : Option Nat} {o : KO} (he : evO cf mf s d o = some s') : (o.pure_ = true ∧ ∃ c, evP s o = some c ∧ s' = s.put d c) ∨ (o.pure_ = false ∧ evN cf mf s d o = some s') := by
  unfold evO at he
  split at he
  · rename_i hp
    simp only [Option.map_eq_some_iff] at he
    obtain ⟨c, h1, h2⟩ := he
    exact .inl ⟨hp, c, h1, h2.symm⟩
  · rename_i hp
    exact .inr ⟨by simpa using hp, he⟩

/-- operations in the order of the text -/
theorem ops_sound (hcf : ∀ g a r o, cf g a = some (r, o) → CallOk P (num g) a r o) (hmf : ∀ g ag ds q ds' q', mf g ag ds q = some (ds', q') → MarkOk P (num g) ag ds q ds' q') {ops : Array Oper} {Kn : Fm → World → Prop} : ∀ (os : List Oper) (is : List KI) {s s' : St} {f : Fm} {w : World}, okOs P N num ops os is = true → evOps cf mf is s = some s' → InvC β0 h0 io w0 s f w → (∀ f' w', InvC β0 h0 io w0 s' f' w' → Kn f' w') → Ls P N ops Kn os f w
  | [], [], s, s', f, w, _, he, hi, hk => by
    simp only [evOps, Option.some.injEq] at he
    subst he
    exact l_nil (hk f w hi)
  | [], _ :: _, _, _, _, _, h, _, _, _ => by simp [okOs] at h
  | _ :: _, [], _, _, _, _, h, _, _, _ => by simp [okOs] at h
  | ⟨dst, op, ty, pos, aft, gd⟩ :: os, ⟨d, kop, kgd⟩ :: is, s, s', f, w, h, he, ⟨γ, hi, hb⟩, hk => by
    simp only [okOs, Bool.and_eq_true, okI, beq_iff_eq] at h
    obtain ⟨⟨⟨⟨rfl, hd⟩, hg⟩, hop⟩, hrest⟩ := h
    simp only [evOps] at he
    split at he
    · rename_i s1 h1
      have go : Wants N ops f gd → evO cf mf s dst kop = some s1 → Ls P N ops Kn (⟨dst, op, ty, pos, aft, gd⟩ :: os) f w := by
        intro hw h1
        refine l_op hw ?_
        rcases evO_split h1 with ⟨hp, c, hc, rfl⟩ | ⟨hp, hn⟩
        · simp only [hp, if_true, Bool.and_eq_true] at hop
          obtain ⟨d, rfl⟩ := Option.isSome_iff_exists.1 hop.1
          obtain ⟨v, k1, k2⟩ := pure_sound (dst := some d) (ty := ty) (pos := pos) (aft := aft) (gd := gd) hi hop.2 hc
          exact o_val (k2 w (fun _ => Sames.refl _ _ _)) (ops_sound hcf hmf os is hrest he ⟨γ, hi.put d c v k1, hb⟩ hk)
        · simp only [hp, Bool.false_eq_true, if_false] at hop
          refine noisy_sound hcf hmf hi hop hn fun γ' f' w' i' tr => ops_sound hcf hmf os is hrest he ⟨γ', i', fun b hb' => ?_⟩ hk
          rw [tr.β b (fun e => by
            rw [e] at hd
            simp at hd
            omega)]
          exact hb b hb'
      have skip : Wantsnt N ops f gd → s1 = s.put dst .und → Ls P N ops Kn (⟨dst, op, ty, pos, aft, gd⟩ :: os) f w := by
        intro hw e
        subst e
        cases dst with
        | none => exact l_pass0 hw (ops_sound hcf hmf os is hrest he ⟨γ, hi, hb⟩ hk)
        | some d => exact l_pass hw (ops_sound hcf hmf os is hrest he ⟨γ, hi.put d .und undef (by simp only [CR]), hb⟩ hk)
      simp only [evI] at h1
      cases kgd with
      | none =>
        cases gd with
        | none => exact go wn h1
        | some x => simp [okG] at hg
      | some x =>
        obtain ⟨g, want⟩ := x
        cases gd with
        | none => simp [okG] at hg
        | some y =>
          obtain ⟨j, want'⟩ := y
          have hww : want' = want := by simp [okG] at hg; exact hg.1
          subst hww
          obtain ⟨g1, g2, g3⟩ := guard_cases hi hg
          simp only at h1
          split at h1
          · rename_i b hgb
            split at h1
            · rename_i hbw; exact go (g1 b hgb hbw) h1
            · rename_i hbw; simp only [Option.some.injEq] at h1; exact skip (g2 b hgb hbw) h1.symm
          · rename_i hgu; simp only [Option.some.injEq] at h1; exact skip (g3 hgu) h1.symm
          · cases h1
    · cases he

/-! ### a region that draws its order -/
theorem Inv.drew (hi : Inv γ h0 io w0 s f w) : Inv γ h0 io w0 s f w.drew :=
  hi.adv (M := fun _ => False) ⟨rfl, rfl, rfl, Nat.le_refl _, fun _ _ _ => rfl, fun _ _ _ => rfl, fun g hg j => frozen_out hg j, fun _ h => h⟩ (fun h => h) (fun _ h => h.elim) (fun _ h => h.elim)
def Sq (γ0 : Gh) (qb : Option Nat) (wst w' : World) : Prop := (∀ g j, j < γ0.h g → w'.cell? ⟨g, j, none⟩ = wst.cell? ⟨g, j, none⟩) ∧ ∀ b, qb = some b → w'.heap[γ0.β b]? = wst.heap[γ0.β b]?
/-- a load reads one box -/
def St.only (s : St) (qb : Option Nat) : St := ⟨s.sl, keepL s.bx qb.toList, []⟩
theorem evP_only {kop : KO} {c : C} {qb : Option Nat} (hld : kop.isLd = true) (hb : ldBox s kop = some qb) (hc : evP s kop = some c) : evP (s.only qb) kop = some c := by
  cases kop <;> simp [KO.isLd] at hld
  rotate_left
  · simp [ldBox] at hb
  rename_i n x
  have hx : evX (s.only qb) x = evX s x := by cases x <;> rfl
  simp only [ldBox] at hb
  simp only [evP, hx] at hc ⊢
  split at hb
  · rename_i b o he
    cases hb
    rw [he] at hc ⊢
    simp only at hc ⊢
    have : look (s.only (some b)).bx b = look s.bx b := by
      simp only [St.only, Option.toList, keepL]
      cases h : look s.bx b <;> simp [look, keepL]
    rw [this]; exact hc
  · rename_i cs he
    rw [he] at hc ⊢
    exact hc
  · cases hb
theorem look_only {qb : Option Nat} {b : Nat} {cs : List C} (h : look (s.only qb).bx b = some cs) : qb = some b ∧ look s.bx b = some cs := by
  cases qb with
  | none => simp [St.only, keepL, look] at h
  | some b' =>
    simp only [St.only, Option.toList, keepL] at h
    cases h' : look s.bx b' with
    | none => rw [h'] at h; simp [look, keepL] at h
    | some cs' =>
      rw [h'] at h
      simp only [look, keepL] at h
      split at h
      · rename_i he; subst he; exact ⟨rfl, by rw [h']; exact h⟩
      · cases h

/-- what the loads that are taken stand on: it holds still, or one that waits has come up -/
def Tk (Cl : List (List Nat × (World → Prop))) (tk : List (List Nat × Nat)) (lst : Array Bool) (γ : Gh) (s : St) (w : World) : Prop :=
  ∀ p ∈ Cl, (∃ m ∈ p.1, lst.getD m false = true) ∨ ∃ γ0 wst qb, (∀ w', Sq γ0 qb wst w' → p.2 w') ∧ Sq γ0 qb wst w ∧ (∀ g, γ0.h g ≤ γ.h g) ∧ ∀ b, qb = some b → γ.β b = γ0.β b ∧ (look s.bx b).isSome = true ∧ (p.1, b) ∈ tk
theorem Tk.cons {Cl : List (List Nat × (World → Prop))} {tk : List (List Nat × Nat)} {lst : Array Bool} (h : Tk Cl tk lst γ s w) : Cons Cl lst w := by
  intro p hp hn
  rcases h p hp with ⟨m, hm, e⟩ | ⟨γ0, wst, qb, h1, h2, _⟩
  · rw [hn m hm] at e; cases e
  · exact h1 w h2
theorem Tk.quiet {Cl : List (List Nat × (World → Prop))} {tk : List (List Nat × Nat)} {lst : Array Bool} (h : Tk Cl tk lst γ s w) (i : Nat) (dn : List Nat) (qb : Option Nat) (d : Option Nat) (c : C) (V : World → Prop) (hV : ∀ w', Sq γ qb w w' → V w') (hl : ∀ b, qb = some b → (look s.bx b).isSome = true) :
    Tk ((dn, V) :: Cl) (tkAdd dn tk qb) (lst.setIfInBounds i true) γ (s.put d c) w := by
  have ebx : (s.put d c).bx = s.bx := by cases d <;> rfl
  intro p hp
  rw [ebx]
  rcases List.mem_cons.1 hp with rfl | hp
  · refine .inr ⟨γ, w, qb, hV, ⟨fun _ _ _ => rfl, fun _ _ => rfl⟩, fun _ => Nat.le_refl _, fun b hb => ⟨rfl, hl b hb, ?_⟩⟩
    subst hb
    simp [tkAdd]
  · rcases h p hp with ⟨m, hm, e⟩ | ⟨γ0, wst, qb', h1, h2, h3, h4⟩
    · exact .inl ⟨m, hm, getD_set_true e⟩
    · refine .inr ⟨γ0, wst, qb', h1, h2, h3, fun b hb => ⟨(h4 b hb).1, (h4 b hb).2.1, ?_⟩⟩
      have := (h4 b hb).2.2
      cases qb <;> simp [tkAdd, this]
theorem Tk.noisy {Cl : List (List Nat × (World → Prop))} {tk : List (List Nat × Nat)} {lst : Array Bool} (h : Tk Cl tk lst γ s w) {j : Nat} (hj : j < lst.size) (hi : Inv γ h0 io w0 s f w) {γ' : Gh} {w' : World} {f' : Fm} {s1 : St} {dst : Option Nat} {X : List Nat} (tr : Tr dst X γ w γ' w' f f')
    (hall : ∀ p ∈ tkCut j tk, (p.2 ∉ X ∧ (look s1.bx p.2).isSome = true) ∧ ¬ dst = some p.2) : Tk Cl (tkCut j tk) (lst.setIfInBounds j true) γ' s1 w' := by
  intro p hp
  rcases h p hp with ⟨m, hm, e⟩ | ⟨γ0, wst, qb, h1, h2, h3, h4⟩
  · exact .inl ⟨m, hm, getD_set_true e⟩
  · by_cases hjp : j ∈ p.1
    · refine .inl ⟨j, hjp, ?_⟩
      simp [Array.getD, hj]
    · have hin : ∀ b, qb = some b → (p.1, b) ∈ tkCut j tk := fun b hb => by
        simp only [tkCut, List.mem_filter]
        exact ⟨(h4 b hb).2.2, by simpa using hjp⟩
      refine .inr ⟨γ0, wst, qb, h1, ⟨fun g j' hj' => (tr.adv.cell g j' (Nat.lt_of_lt_of_le hj' (h3 g))).trans (h2.1 g j' hj'), fun b hb => ?_⟩, fun g => Nat.le_trans (h3 g) (tr.h g), fun b hb => ⟨?_, (hall _ (hin b hb)).1.2, hin b hb⟩⟩
      · obtain ⟨cs, hcs⟩ := Option.isSome_iff_exists.1 (h4 b hb).2.1
        obtain ⟨T, vs, k1, k2, k3⟩ := hi.bx b cs hcs
        rw [← h2.2 b hb, ← (h4 b hb).1]
        refine tr.adv.block _ k1.lt ?_
        rw [k3]
        rintro ⟨i, hi', e | e⟩
        · cases e; exact (hall _ (hin b hb)).1.1 hi'
        · cases e
      · rw [tr.β b (hall _ (hin b hb)).2]
        exact (h4 b hb).1

theorem ds_sound (hcf : ∀ g a r o, cf g a = some (r, o) → CallOk P (num g) a r o) (hmf : ∀ g ag ds q ds' q', mf g ag ds q = some (ds', q') → MarkOk P (num g) ag ds q ds' q') {ops : Array Oper} {Kn : Fm → World → Prop} :
    ∀ (is : KT) {kp : Keep} {Cl : List (List Nat × (World → Prop))} {lst : Array Bool} {tk : List (List Nat × Nat)} {γ : Gh} {s s' : St} {f : Fm} {w : World}, okDs P N num ops is = true → evDs cf mf kp is tk s = some s' → lst.size = ops.size → Tk Cl tk lst γ s w → Inv γ h0 io w0 s f w → (∀ b, 900 ≤ b → γ.β b = β0 b) →
      (∀ s1 f' w', s' = s1.keep kp → InvC β0 h0 io w0 s1 f' w' → Kn f' w') → Dv P N ops Kn Cl is.ent lst f w
  | .nil, kp, Cl, lst, tk, γ, s, s', f, w, _, he, _, _, hi, hb, hk => by
    simp only [evDs, Option.some.injEq] at he
    exact v_nil (hk s f w he.symm ⟨γ, hi, hb⟩)
  | .op ⟨j, qt, al, dn, ⟨d, kop, kgd⟩⟩ is, kp, Cl, lst, tk, γ, s, s', f, w, h, he, hsz, ht, hi, hb, hk => by
    simp only [okDs, Bool.and_eq_true] at h
    obtain ⟨h, hrest⟩ := h
    have hsz' : (lst.setIfInBounds j true).size = ops.size := by simpa using hsz
    split at h
    · rename_i o ho
      have hjl : j < lst.size := by rw [hsz]; exact (Array.getElem?_eq_some_iff.1 ho).1
      obtain ⟨dst, op, ty, pos, aft, gd⟩ := o
      simp only [Bool.and_eq_true, okI, beq_iff_eq, Bool.or_eq_true, Bool.not_eq_true', Option.isNone_iff_eq_none] at h
      obtain ⟨⟨⟨⟨⟨hdd, hd⟩, hg⟩, hop⟩, hqp⟩, hgd⟩ := h
      subst hdd
      cases qt with
      | true =>
        have hpu : kop.pure_ = true := by simpa using hqp
        simp only [hpu, if_true, Bool.and_eq_true] at hop
        obtain ⟨d, rfl⟩ := Option.isSome_iff_exists.1 hop.1
        simp only [evDs, if_true] at he
        have go : ∀ c qb, evP s kop = some c → ldBox s kop = some qb → evDs cf mf kp is (tkAdd dn tk qb) (s.put (some d) c) = some s' → Wants N ops f gd → Dv P N ops Kn Cl (.op (KD.ent ⟨j, true, al, dn, ⟨some d, kop, kgd⟩⟩) is.ent) lst f w := by
          intro c qb hc hqb he hw
          cases hld : kop.isLd with
          | true =>
            have hio : Inv γ h0 io w0 (s.only qb) f w := hi.sub (fun _ _ h => h) (fun d c hl => (look_only hl).2) (fun d c hl => by simp [St.only, look] at hl)
            obtain ⟨v, k1, k2⟩ := pure_sound (dst := some d) (ty := ty) (pos := pos) (aft := aft) (gd := gd) hio hop.2 (evP_only hld hqb hc)
            have hlive : ∀ b, qb = some b → (look s.bx b).isSome = true := fun b hb => by
              subst hb
              cases kop <;> simp [KO.isLd] at hld
              rotate_left
              · simp [ldBox] at hqb
              rename_i n x
              simp only [ldBox] at hqb
              split at hqb
              · rename_i b' o hx
                cases hqb
                simp only [evP, hx] at hc
                cases hl : look s.bx b with
                | none => rw [hl] at hc; cases hc
                | some cs => rfl
              · cases hqb
              · cases hqb
            exact v_q rfl ho rfl hw (Sq γ qb w) (fun w' hs => k2 w' (fun _ => ⟨hs.1, fun b cs hl => hs.2 b (look_only hl).1, fun r x hl => by simp [St.only, look] at hl⟩)) ⟨fun _ _ _ => rfl, fun _ _ => rfl⟩
              (ds_sound hcf hmf is hrest he hsz' (ht.quiet j dn qb (some d) c _ (fun _ h => h) hlive) (hi.put d c v k1) hb hk)
          | false =>
            have eqb : qb = none := by
              cases kop <;> simp [KO.isLd] at hld <;> simpa [ldBox] using hqb.symm
            subst eqb
            obtain ⟨v, k1, k2⟩ := pure_sound (dst := some d) (ty := ty) (pos := pos) (aft := aft) (gd := gd) hi hop.2 hc
            exact v_q rfl ho rfl hw (fun _ => True) (fun w' _ => k2 w' (fun h => by rw [hld] at h; cases h)) trivial
              (ds_sound hcf hmf is hrest he hsz' (ht.quiet j dn none (some d) c _ (fun _ _ => trivial) (fun b hb => by cases hb)) (hi.put d c v k1) hb hk)
        have skip : evDs cf mf kp is tk (s.put (some d) .und) = some s' → Wantsnt N ops f gd → Dv P N ops Kn Cl (.op (KD.ent ⟨j, true, al, dn, ⟨some d, kop, kgd⟩⟩) is.ent) lst f w := by
          intro he hw
          exact v_pass rfl ho hw (ds_sound hcf hmf is hrest he hsz' (ht.quiet j dn none (some d) .und _ (fun _ _ => trivial) (fun b hb => by cases hb)) (hi.put d .und undef (by simp only [CR])) hb hk)
        cases kgd with
        | none =>
          cases gd with
          | some x => simp [okG] at hg
          | none =>
            simp only at he
            split at he
            · rename_i c b hc hqb
              exact go c b hc hqb he wn
            · cases he
        | some x =>
          obtain ⟨g, want⟩ := x
          cases gd with
          | none => simp [okG] at hg
          | some y =>
            obtain ⟨j', want'⟩ := y
            have hww : want' = want := by simp [okG] at hg; exact hg.1
            subst hww
            obtain ⟨g1, g2, g3⟩ := guard_cases hi hg
            simp only at he
            split at he
            · rename_i b hgb
              split at he
              · rename_i hbw
                split at he
                · rename_i c b' hc hqb
                  exact go c b' hc hqb he (g1 b hgb hbw)
                · cases he
              · rename_i hbw; exact skip he (g2 b hgb hbw)
            · rename_i hgu; exact skip he (g3 hgu)
            · cases he
      | false =>
        simp only [evDs, stepN, Bool.false_eq_true, if_false] at he
        split at he
        · rename_i s1 h1
          split at he
          · rename_i hall
            have htouch : ∀ p ∈ tkCut j tk, (p.2 ∉ touch s dst kop ∧ (look s1.bx p.2).isSome = true) ∧ ¬ dst = some p.2 := fun p hp => by
              have := List.all_eq_true.1 hall p hp
              simpa using this
            -- behind a step with its trace
            have next : ∀ γ' f' w', Inv γ' h0 io w0 s1 f' w' → Tr dst (touch s dst kop) γ w γ' w' f f' → Cons Cl (lst.setIfInBounds j true) w' ∧ Dv P N ops Kn Cl is.ent (lst.setIfInBounds j true) f' w' := by
              intro γ' f' w' i' tr
              have ht' := ht.noisy hjl hi tr htouch
              refine ⟨ht'.cons, ds_sound hcf hmf is hrest he hsz' ht' i' (fun b hb' => ?_) hk⟩
              rw [tr.β b (fun e => by
                  rw [e] at hd
                  simp at hd
                  omega)]
              exact hb b hb'
            have go : Wants N ops f gd → evO cf mf s dst kop = some s1 → Dv P N ops Kn Cl (.op (KD.ent ⟨j, false, al, dn, ⟨dst, kop, kgd⟩⟩) is.ent) lst f w := by
              intro hw h1
              refine v_op rfl ho hw ?_
              rcases evO_split h1 with ⟨hp, c, hc, rfl⟩ | ⟨hp, hn⟩
              · simp only [hp, if_true, Bool.and_eq_true] at hop
                obtain ⟨d, rfl⟩ := Option.isSome_iff_exists.1 hop.1
                obtain ⟨v, k1, k2⟩ := pure_sound (dst := some d) (ty := ty) (pos := pos) (aft := aft) (gd := gd) hi hop.2 hc
                exact o_val (k2 w (fun _ => Sames.refl _ _ _)) (next γ _ w (hi.put d c v k1) ⟨Adv.refl _ _ _, fun _ _ => rfl, fun _ => Nat.le_refl _, .put⟩)
              · simp only [hp, Bool.false_eq_true, if_false] at hop
                exact noisy_sound hcf hmf hi hop hn next
            have skip : Wantsnt N ops f gd → dst.isSome = true → s1 = s.put dst .und → Dv P N ops Kn Cl (.op (KD.ent ⟨j, false, al, dn, ⟨dst, kop, kgd⟩⟩) is.ent) lst f w := by
              intro hw hds e
              subst e
              obtain ⟨d, rfl⟩ := Option.isSome_iff_exists.1 hds
              have nx := next γ _ w (hi.put d .und undef (by simp only [CR])) ⟨Adv.refl _ _ _, fun _ _ => rfl, fun _ => Nat.le_refl _, .put⟩
              exact v_passn rfl ho hw nx.1 nx.2
            simp only [evI] at h1
            cases kgd with
            | none =>
              cases gd with
              | none => exact go wn h1
              | some x => simp [okG] at hg
            | some x =>
              obtain ⟨g, want⟩ := x
              have hds : dst.isSome = true := by rcases hgd with h | h; cases h; exact h
              cases gd with
              | none => simp [okG] at hg
              | some y =>
                obtain ⟨j', want'⟩ := y
                have hww : want' = want := by simp [okG] at hg; exact hg.1
                subst hww
                obtain ⟨g1, g2, g3⟩ := guard_cases hi hg
                simp only at h1
                split at h1
                · rename_i b hgb
                  split at h1
                  · rename_i hbw; exact go (g1 b hgb hbw) h1
                  · rename_i hbw; simp only [Option.some.injEq] at h1; exact skip (g2 b hgb hbw) hds h1.symm
                · rename_i hgu; simp only [Option.some.injEq] at h1; exact skip (g3 hgu) hds h1.symm
                · cases h1
          · cases he
        · cases he
    · cases h
  | .alt ⟨j, qt, al, dn, ⟨d, kop, kgd⟩⟩ is r, kp, Cl, lst, tk, γ, s, s', f, w, h, he, hsz, ht, hi, hb, hk => by
    simp only [okDs, Bool.and_eq_true] at h
    obtain ⟨⟨h, hrest⟩, hr⟩ := h
    have hsz' : (lst.setIfInBounds j true).size = ops.size := by simpa using hsz
    have hee : stepN cf mf ⟨j, qt, al, dn, ⟨d, kop, kgd⟩⟩ tk s (evDs cf mf kp is) = some s' ∧ evDs cf mf kp r tk s = some s' := by
      simp only [evDs, both] at he
      split at he
      · rename_i a b ha hb'
        split at he
        · rename_i hab
          subst hab
          cases he
          exact ⟨ha, hb'⟩
        · cases he
      · cases he
    obtain ⟨he, her⟩ := hee
    split at h
    · rename_i o ho
      have hjl : j < lst.size := by rw [hsz]; exact (Array.getElem?_eq_some_iff.1 ho).1
      obtain ⟨dst, op, ty, pos, aft, gd⟩ := o
      simp only [Bool.and_eq_true, okI, beq_iff_eq, Bool.not_eq_true', Option.isNone_iff_eq_none] at h
      obtain ⟨⟨⟨⟨⟨hdd, hd⟩, hg⟩, hop⟩, hqp⟩, hgd⟩ := h
      subst hdd hgd
      simp only [stepN] at he
      split at he
      · rename_i s1 h1
        split at he
        · rename_i hall
          have htouch : ∀ p ∈ tkCut j tk, (p.2 ∉ touch s dst kop ∧ (look s1.bx p.2).isSome = true) ∧ ¬ dst = some p.2 := fun p hp => by
            have := List.all_eq_true.1 hall p hp
            simpa using this
          have next : ∀ γ' f' w', Inv γ' h0 io w0 s1 f' w' → Tr dst (touch s dst kop) γ w γ' w' f f' → Cons Cl (lst.setIfInBounds j true) w' ∧ Dv P N ops Kn Cl is.ent (lst.setIfInBounds j true) f' w' := by
            intro γ' f' w' i' tr
            have ht' := ht.noisy hjl hi tr htouch
            refine ⟨ht'.cons, ds_sound hcf hmf is hrest he hsz' ht' i' (fun b hb' => ?_) hk⟩
            rw [tr.β b (fun e => by
                rw [e] at hd
                simp at hd
                omega)]
            exact hb b hb'
          have hgn : gd = none := by
            cases gd with
            | none => rfl
            | some x => simp [okG] at hg
          subst hgn
          simp only [evI] at h1
          refine v_alt (e := KD.ent ⟨j, qt, al, dn, ⟨dst, kop, none⟩⟩) ho wn ?_ (ds_sound hcf hmf r hr her hsz ht hi hb hk)
          rcases evO_split h1 with ⟨hp, c, hc, rfl⟩ | ⟨hp, hn⟩
          · simp only [hp, if_true, Bool.and_eq_true] at hop
            obtain ⟨d, rfl⟩ := Option.isSome_iff_exists.1 hop.1
            obtain ⟨v, k1, k2⟩ := pure_sound (dst := some d) (ty := ty) (pos := pos) (aft := aft) (gd := none) hi hop.2 hc
            exact o_val (k2 w (fun _ => Sames.refl _ _ _)) (next γ _ w (hi.put d c v k1) ⟨Adv.refl _ _ _, fun _ _ => rfl, fun _ => Nat.le_refl _, .put⟩)
          · simp only [hp, Bool.false_eq_true, if_false] at hop
            exact noisy_sound hcf hmf hi hop hn next
        · cases he
      · cases he
    · cases h

/-! ### code -/
theorem region_arr {Q : Array Oper → Prop} (ops : Array Oper) (h : Q ops.toList.toArray) : Q ops := by simpa using h
theorem code_sound (hm : P.follows .mixedOrders = true) (hcf : ∀ g a r o, cf g a = some (r, o) → CallOk P (num g) a r o) (hmf : ∀ g ag ds q ds' q', mf g ag ds q = some (ds', q') → MarkOk P (num g) ag ds q ds' q') (n : Nat) : ∀ (k : K) (c : Code) {s : St} {f : Fm} {w : World} {e : Ex} {s' : St}, okC P N num k c = true → evC cf mf n k s = some (e, s') → InvC β0 h0 io w0 s f w →
    W P N c (fun f w => e = .norm ∧ InvC β0 h0 io w0 s' f w) (fun i f w => e = .exit i ∧ InvC β0 h0 io w0 s' f w) (fun f w => e = .ret ∧ InvC β0 h0 io w0 s' f w) f w
  | .skip, c, s, f, w, e, s', hok, he, hi => by
    cases c <;> simp [okC] at hok
    simp only [evC, Option.some.injEq, Prod.mk.injEq] at he
    obtain ⟨rfl, rfl⟩ := he
    exact w_skip ⟨rfl, hi⟩
  | .reg is kp, c, s, f, w, e, s', hok, he, hi => by
    cases c with
    | region id ops draw =>
      cases draw with
      | true => simp [okC] at hok
      | false =>
        simp only [okC] at hok
        simp only [evC] at he
        split at he
        · rename_i s1 h1
          simp only [Option.some.injEq, Prod.mk.injEq] at he
          obtain ⟨rfl, rfl⟩ := he
          have hl := ops_sound (Kn := fun f w => Ex.norm = .norm ∧ InvC β0 h0 io w0 (s1.keep kp) f w) hcf hmf ops.toList is hok h1 hi (fun f' w' hi' => ⟨rfl, hi'.keep kp⟩)
          obtain ⟨l⟩ := ops
          exact w_region (l := l) hl
        · cases he
    | _ => simp [okC] at hok
  | .drw is kp, c, s, f, w, e, s', hok, he, ⟨γ, hi, hb⟩ => by
    cases c with
    | region id ops draw =>
      cases draw with
      | false => simp [okC] at hok
      | true =>
        simp only [okC, Bool.and_eq_true, beq_iff_eq] at hok
        obtain ⟨⟨⟨h1, h2⟩, h3⟩, h4⟩ := hok
        simp only [evC] at he
        split at he
        · rename_i s1 h5
          simp only [Option.some.injEq, Prod.mk.injEq] at he
          obtain ⟨rfl, rfl⟩ := he
          have hd := ds_sound (P := P) (N := N) (num := num) (ops := ops) (β0 := β0) (Kn := fun f w => Ex.norm = .norm ∧ InvC β0 h0 io w0 s1 f w) (Cl := []) (lst := Array.replicate ops.size false) (tk := []) hcf hmf is h1 h5 (by simp) (fun p hp => by simp at hp) hi.drew hb (fun s2 f' w' e hi' => ⟨rfl, by rw [e]; exact hi'.keep kp⟩)
          obtain ⟨l⟩ := ops
          exact w_drawn (l := l) is.ent hm h2 h3 h4 hd
        · cases he
    | _ => simp [okC] at hok
  | .seq a b, c, s, f, w, e, s', hok, he, hi => by
    cases c with
    | seq ca cb =>
      simp only [okC, Bool.and_eq_true] at hok
      simp only [evC] at he
      refine w_seq ?_
      split at he
      · rename_i s1 h1
        refine w_mono (code_sound hm hcf hmf n a ca hok.1 h1 hi) (fun f w hk => code_sound hm hcf hmf n b cb hok.2 he hk.2) (fun i f w hk => ?_) (fun f w hk => ?_)
        · cases hk.1
        · cases hk.1
      · rename_i hne
        refine w_mono (code_sound hm hcf hmf n a ca hok.1 he hi) (fun f w hk => ?_) (fun i f w hk => hk) (fun f w hk => hk)
        obtain ⟨rfl, _⟩ := hk
        exact absurd he (hne s')
    | _ => simp [okC] at hok
  | .cond x a b, c, s, f, w, e, s', hok, he, hi => by
    cases c with
    | cond y ca cb =>
      simp only [okC, Bool.and_eq_true] at hok
      obtain ⟨⟨h1, h2⟩, h3⟩ := hok
      simp only [evC] at he
      obtain ⟨γ, hi', hb⟩ := hi
      have hv := evX_rel hi' h1
      split at he
      · rename_i t ht
        rw [ht] at hv
        have hv := cr_bool hv
        cases t with
        | true => exact w_if_t hv (code_sound hm hcf hmf n a ca h2 (by simpa using he) ⟨γ, hi', hb⟩)
        | false => exact w_if_f hv (code_sound hm hcf hmf n b cb h3 (by simpa using he) ⟨γ, hi', hb⟩)
      · cases he
    | _ => simp [okC] at hok
  | .block i a, c, s, f, w, e, s', hok, he, hi => by
    cases c with
    | block j ca =>
      simp only [okC, Bool.and_eq_true, beq_iff_eq] at hok
      obtain ⟨rfl, hok⟩ := hok
      simp only [evC] at he
      refine w_block ?_
      split at he
      · rename_i i' s1 h1
        refine w_mono (code_sound hm hcf hmf n a ca hok h1 hi) (fun f w hk => by cases hk.1) (fun q f w hk => ?_) (fun f w hk => by cases hk.1)
        obtain ⟨e1, hk⟩ := hk
        cases e1
        split at he
        · rename_i hii
          simp only [Option.some.injEq, Prod.mk.injEq] at he
          obtain ⟨rfl, rfl⟩ := he
          rw [if_pos hii]; exact ⟨rfl, hk⟩
        · rename_i hii
          simp only [Option.some.injEq, Prod.mk.injEq] at he
          obtain ⟨rfl, rfl⟩ := he
          rw [if_neg hii]; exact ⟨rfl, hk⟩
      · rename_i hne
        refine w_mono (code_sound hm hcf hmf n a ca hok he hi) (fun f w hk => hk) (fun q f w hk => ?_) (fun f w hk => hk)
        obtain ⟨rfl, _⟩ := hk
        exact absurd he (hne q s')
    | _ => simp [okC] at hok
  | .loop a, c, s, f, w, e, s', hok, he, hi => by
    cases c with
    | loop ca =>
      simp only [okC] at hok
      simp only [evC] at he
      refine w_loop (fun m f w => ∃ s, InvC β0 h0 io w0 s f w ∧ iter (evC cf mf n a) m s = some (e, s')) n ⟨s, hi, he⟩ ?_
      rintro m f w ⟨s, hi, he⟩
      cases m with
      | zero => simp [iter] at he
      | succ m =>
        simp only [iter] at he
        split at he
        · rename_i s1 h1
          refine w_mono (code_sound hm hcf hmf n a ca hok h1 hi) (fun f w hk => ⟨m, by omega, s1, hk.2, he⟩) (fun i f w hk => by cases hk.1) (fun f w hk => by cases hk.1)
        · rename_i hne
          refine w_mono (code_sound hm hcf hmf n a ca hok he hi) (fun f w hk => ?_) (fun i f w hk => hk) (fun f w hk => hk)
          obtain ⟨rfl, _⟩ := hk
          exact absurd he (hne s')
    | _ => simp [okC] at hok
  | .exit i, c, s, f, w, e, s', hok, he, hi => by
    cases c <;> simp [okC] at hok
    subst hok
    simp only [evC, Option.some.injEq, Prod.mk.injEq] at he
    obtain ⟨rfl, rfl⟩ := he
    exact w_exit ⟨rfl, hi⟩
  | .ret, c, s, f, w, e, s', hok, he, hi => by
    cases c <;> simp [okC] at hok
    simp only [evC, Option.some.injEq, Prod.mk.injEq] at he
    obtain ⟨rfl, rfl⟩ := he
    exact w_ret ⟨rfl, hi⟩
  | .share r a, c, s, f, w, e, s', hok, he, ⟨γ, hi, hb⟩ => by
    have hok' : okC P N num a c = true := by
      cases c <;> simpa [okC] using hok
    simp only [evC] at he
    obtain ⟨γ', i', b', _⟩ := hi.shareR [r]
    exact code_sound hm hcf hmf n a c hok' he ⟨γ', i', fun b hb' => by rw [b']; exact hb b hb'⟩
  | .dat d a, c, s, f, w, e, s', hok, he, ⟨γ, hi, hb⟩ => by
    have hok' : okC P N num a c = true := by
      cases c <;> simpa [okC] using hok
    simp only [evC] at he
    split at he
    · rename_i r hr
      split at he
      · rename_i x hx
        obtain ⟨γ', i', b', s1, h1, g1, _⟩ := hi.shareR [r]
        obtain ⟨G, hG, hS⟩ := g1 r (by simp) x hx
        have hv := hi.get d
        rw [hr] at hv
        simp only [CR] at hv
        exact code_sound hm hcf hmf n a c hok' he ⟨γ', i'.put' d _ (by simp only [CR]; rw [hv.1]; exact ⟨G, hG, hS⟩), fun b hb' => by rw [b']; exact hb b hb'⟩
      · cases he
    · exact code_sound hm hcf hmf n a c hok' he ⟨γ, hi, hb⟩
end
end Go.Proofs.Ytmaigpiappmpcaa
