/-
  Functions that write a list in place (marks): a machine of its own over the same texts K. Its only memory is the list that is handed in (es), with all that it holds. No program is named here.
-/
import Derived.Test.YtmaigpiappmpcaaKFun
namespace Go.Proofs.Ytmaigpiappmpcaa
set_option linter.unusedVariables false
set_option linter.unusedSimpArgs false
open Go.RowKit

/-- what a slot may hold besides plain data: the list itself, a pointer into element i, the list that lies in a cell, a struct that lies in some cells -/
inductive MC where
  | lst
  | ep (i o : Nat)
  | hd (i o : Nat)
  | sub (i o n : Nat)
  | non
def MC.noSub : MC → MC
  | .sub _ _ _ => .non
  | c => c
def MC.isSub : MC → Bool
  | .sub _ _ _ => true
  | _ => false
structure MS where
  s : St
  sp : List (Nat × MC)
  es : List (List D)
def MS.spx (m : MS) : KX → Option MC
  | .s d => look m.sp d
  | .k _ => none
def MS.put (m : MS) (d : Nat) (c : C) : MS := ⟨m.s.put (some d) c, drp m.sp d, m.es⟩
def MS.putS (m : MS) (d : Nat) (c : MC) : MS := ⟨m.s.put (some d) .any, (d, c) :: drp m.sp d, m.es⟩
def MS.set (m : MS) (i o : Nat) (ds : List D) : MS := ⟨m.s, m.sp, match nth m.es i with
  | some e => m.es.set i (splC e o ds)
  | none => m.es⟩
def MS.noSub (m : MS) : MS := ⟨m.s, m.sp.map fun p => (p.1, p.2.noSub), m.es⟩
def MS.keep (m : MS) (kp : Keep) : MS := ⟨m.s.keep kp, keepL m.sp kp.s, m.es⟩
def MS.at_ (m : MS) (i o : Nat) : Option D := match nth m.es i with
  | some e => nth e o
  | none => none
def plainA : List C → Option (List A)
  | [] => some []
  | .d x :: cs => if D.plain x then (plainA cs).map (.val false [.d x] :: ·) else none
  | _ => none

section
variable (cf : Nat → List A → Option (List A × List A)) (mf : Nat → Bool → List D → Int → Option (List D × Int)) (own : Bool) (k : Nat)

/-- a call of a function that only reckons -/
def evMp (m : MS) (d f : Nat) (xs : List KX) : Option MS :=
  match plainA (xs.map (evX m.s)) with
  | some as => match cf f as with
    | some ([.val false [.d r]], []) => if D.plain r then some (m.put d (.d r)) else none
    | _ => none
  | none => none
/-- a call that marks -/
def evMm (m : MS) (d f : Nat) (c : MC) (y : C) : Option MS :=
  match c, y with
  | .hd i o, .d (.int .i64 q) => match m.at_ i o with
    | some (.list k fl es) => match mf f false [.list k fl es] q with
      | some ([x'], q') => some ((m.set i o [x']).put d (.d (.int .i64 q')))
      | _ => none
    | _ => none
  | .sub i o n, .d (.int .i64 q) => match nth m.es i with
    | some e => match mf f true ((e.drop o).take n) q with
      | some (xs, q') => if o + n ≤ e.length ∧ xs.length = n then some ((m.set i o xs).put d (.d (.int .i64 q'))) else none
      | none => none
    | none => none
  | _, _ => none
def evM1 (m : MS) (d : Nat) : KO → Option MS
  | .mv x => match m.spx x with
    | some c => some (m.putS d c)
    | none => some (m.put d (evX m.s x))
  | .len x => match m.spx x with
    | some .lst => some (m.put d (.d (.int .i64 m.es.length)))
    | _ => none
  | .ia k' x y => match m.spx x, evX m.s y with
    | some .lst, .d (.int .i64 n) => if k' = k ∧ 0 ≤ n ∧ n.toNat < m.es.length then some (m.putS d (.ep n.toNat 0)) else none
    | _, _ => none
  | .fa o x => match m.spx x with
    | some (.ep i p) => some (m.putS d (.ep i (p + o)))
    | _ => none
  | .ld n x => match m.spx x with
    | some (.ep i o) => if n = 0 then (match m.at_ i o with
        | some (.list _ _ _) => some (m.putS d (.hd i o))
        | _ => none) else (match nth m.es i with
        | some e => if o + n ≤ e.length then some (m.putS d (.sub i o n)) else none
        | none => none)
    | _ => none
  | .call f xs => match xs with
    | [x, y] => (match m.spx x with
      | some c => evMm mf m d f c (evX m.s y)
      | none => evMp cf m d f xs)
    | _ => evMp cf m d f xs
  | op => if op.pure_ then (evP m.s op).map (m.put d) else none
def evM0 (m : MS) : KO → Option MS
  | .st n x y => match m.spx x, evX m.s y with
    | some (.ep i o), .d v => match m.at_ i o with
      | some c => if n = 1 ∧ own = true ∧ D.plain c = true ∧ D.plain v = true then some (m.set i o [v]).noSub else none
      | none => none
    | _, _ => none
  | _ => none
def evMI (m : MS) (i : KI) : Option MS :=
  match i.gd with
  | some _ => none
  | none => match i.dst with
    | some d => evM1 cf mf k m d i.op
    | none => evM0 own m i.op
def evMs : List KI → MS → Option MS
  | [], m => some m
  | i :: is, m => match evMI cf mf own k m i with
    | some m' => evMs is m'
    | none => none
def iterM (f : MS → Option (Ex × MS)) : Nat → MS → Option (Ex × MS)
  | 0, _ => none
  | n + 1, s => match f s with
    | some (.norm, s') => iterM f n s'
    | r => r
def evMC (n : Nat) : K → MS → Option (Ex × MS)
  | .skip, m => some (.norm, m)
  | .reg ops kp, m => match evMs cf mf own k ops m with
    | some m' => some (.norm, m'.keep kp)
    | none => none
  | .seq a b, m => match evMC n a m with
    | some (.norm, m') => evMC n b m'
    | r => r
  | .cond c a b, m => match evX m.s c with
    | .d (.bool t) => if t then evMC n a m else evMC n b m
    | _ => none
  | .block id a, m => match evMC n a m with
    | some (.exit i, m') => if i = id then some (.norm, m') else some (.exit i, m')
    | r => r
  | .loop a, m => iterM (evMC n a) n m
  | .exit id, m => some (.exit id, m)
  | .ret, m => some (.ret, m)
  | _, _ => none
end

def outM (r : Nat) : Option (Ex × MS) → Option (List (List D) × Int)
  | some (.norm, m) => (match m.s.get r with
    | .d (.int .i64 q) => some (m.es, q)
    | _ => none)
  | some (.ret, m) => (match m.s.get r with
    | .d (.int .i64 q) => some (m.es, q)
    | _ => none)
  | _ => none
/-- a function that marks a list (its only cell), or the lists that a struct holds -/
noncomputable def evM (T : Nat → Option KF) : Nat → Nat → Bool → List D → Int → Option (List D × Int)
  | 0, _, _, _, _ => none
  | n + 1, f, ag, cells, q => match T f with
    | some ⟨2, body, [.t r]⟩ =>
      if ag then (match body with
        | .seq (.reg (⟨some b, .box (.s 0), none⟩ :: is) kp) body' =>
          (match evMs (evF T n) (evM T n) false cells.length is (MS.putS ⟨⟨[(1, .d (.int .i64 q))], [], []⟩, [], [cells]⟩ b (.ep 0 0)) with
          | some m => (match outM r (evMC (evF T n) (evM T n) false cells.length n body' (m.keep kp)) with
            | some ([cells'], q') => some (cells', q')
            | _ => none)
          | none => none)
        | _ => none)
      else (match cells with
        | [.list k fl es] => (match outM r (evMC (evF T n) (evM T n) true k n body ⟨⟨[(1, .d (.int .i64 q))], [], []⟩, [(0, .lst)], es⟩) with
          | some (es', q') => some ([.list k fl es'], q')
          | none => none)
        | _ => none)
    | _ => none

/-! ### cells one by one -/
theorem RpL.ofC {w : World} : ∀ (ds : List D) {vs : List Value} {G : Fp}, RpC w ds vs G → ∃ Fs, Fs.flatten = G ∧ RpL w ds vs Fs
  | [], _, _, h => by
    simp only [RpC] at h
    exact ⟨[], by simp [h.2], by simp [RpL, h.1]⟩
  | d :: ds, _, _, h => by
    simp only [RpC] at h
    obtain ⟨v, vs', F1, F2, rfl, rfl, h1, h2⟩ := h
    obtain ⟨Fs, rfl, h3⟩ := RpL.ofC ds h2
    exact ⟨F1 :: Fs, by simp, by simp only [RpL]; exact ⟨v, vs', F1, Fs, rfl, rfl, h1, h3⟩⟩
theorem RpL.toC {w : World} : ∀ (ds : List D) {vs : List Value} {Fs : List Fp}, RpL w ds vs Fs → RpC w ds vs Fs.flatten
  | [], _, _, h => by
    simp only [RpL] at h
    simp [RpC, h.1, h.2]
  | d :: ds, _, _, h => by
    simp only [RpL] at h
    obtain ⟨v, vs', F, Fs', rfl, rfl, h1, h2⟩ := h
    simp only [RpC, List.flatten_cons]
    exact ⟨v, vs', F, _, rfl, rfl, h1, RpL.toC ds h2⟩
theorem RpE.toFlat {w : World} : ∀ (es : List (List D)) {vs : List Value} {G : Fp}, RpE w es vs G → RpC w es.flatten vs G
  | [], _, _, h => by simpa [RpE, RpC] using h
  | e :: es, _, _, h => by
    simp only [RpE] at h
    obtain ⟨v1, v2, F1, F2, rfl, rfl, h1, h2⟩ := h
    rw [List.flatten_cons]
    exact RpC.append e h1 (RpE.toFlat es h2)
theorem RpE.ofFlat {w : World} : ∀ (es : List (List D)) {vs : List Value} {G : Fp}, RpC w es.flatten vs G → RpE w es vs G
  | [], _, _, h => by simpa [RpE, RpC] using h
  | e :: es, _, _, h => by
    rw [List.flatten_cons] at h
    obtain ⟨v1, v2, F1, F2, rfl, rfl, h1, h2⟩ := RpC.append_inv e h
    simp only [RpE]
    exact ⟨v1, v2, F1, F2, rfl, rfl, h1, RpE.ofFlat es h2⟩
theorem RpL.length {w : World} : ∀ (ds : List D) {vs : List Value} {Fs : List Fp}, RpL w ds vs Fs → vs.length = ds.length ∧ Fs.length = ds.length
  | [], _, _, h => by simp only [RpL] at h; simp [h.1, h.2]
  | d :: ds, _, _, h => by
    simp only [RpL] at h
    obtain ⟨v, vs', F, Fs', rfl, rfl, h1, h2⟩ := h
    simp [RpL.length ds h2]
theorem RpL.append {w : World} : ∀ (ds : List D) {es : List D} {vs us : List Value} {Fs Gs : List Fp}, RpL w ds vs Fs → RpL w es us Gs → RpL w (ds ++ es) (vs ++ us) (Fs ++ Gs)
  | [], _, _, _, _, _, h, h' => by simp only [RpL] at h; obtain ⟨rfl, rfl⟩ := h; simpa using h'
  | d :: ds, _, _, _, _, _, h, h' => by
    simp only [RpL] at h
    obtain ⟨v, vs', F, Fs', rfl, rfl, h1, h2⟩ := h
    simp only [List.cons_append, RpL]
    exact ⟨v, _, F, _, rfl, rfl, h1, RpL.append ds h2 h'⟩
theorem RpL.drop {w : World} : ∀ (ds : List D) {vs : List Value} {Fs : List Fp} (n : Nat), RpL w ds vs Fs → RpL w (ds.drop n) (vs.drop n) (Fs.drop n)
  | _, _, _, 0, h => by simpa using h
  | [], _, _, n + 1, h => by simp only [RpL] at h; simp [RpL, h.1, h.2]
  | d :: ds, _, _, n + 1, h => by
    simp only [RpL] at h
    obtain ⟨v, vs', F, Fs', rfl, rfl, h1, h2⟩ := h
    simpa using RpL.drop ds n h2
theorem RpL.take {w : World} : ∀ (ds : List D) {vs : List Value} {Fs : List Fp} (n : Nat), RpL w ds vs Fs → RpL w (ds.take n) (vs.take n) (Fs.take n)
  | _, _, _, 0, h => by simp [RpL]
  | [], _, _, n + 1, h => by simp only [RpL] at h; simp [RpL, h.1, h.2]
  | d :: ds, _, _, n + 1, h => by
    simp only [RpL] at h
    obtain ⟨v, vs', F, Fs', rfl, rfl, h1, h2⟩ := h
    simp only [List.take_succ_cons, RpL]
    exact ⟨v, _, F, _, rfl, rfl, h1, RpL.take ds n h2⟩
theorem RpL.spl {w : World} {ds ns : List D} {vs us : List Value} {Fs Gs : List Fp} (o : Nat) (h : RpL w ds vs Fs) (h' : RpL w ns us Gs) : RpL w (splC ds o ns) (splC vs o us) (splC Fs o Gs) := by
  obtain ⟨e1, e2⟩ := RpL.length ns h'
  unfold splC
  rw [e1, e2]
  exact RpL.append _ (RpL.append _ (RpL.take ds o h) h') (RpL.drop ds _ h)
theorem splC_same {α : Type} (l : List α) (o n : Nat) (h : o + n ≤ l.length) : splC l o ((l.drop o).take n) = l := by
  unfold splC
  have e : ((l.drop o).take n).length = n := by simp; omega
  rw [e, List.append_assoc, show l.drop (o + n) = (l.drop o).drop n by rw [List.drop_drop], List.take_append_drop, List.take_append_drop]
theorem splC_length {α : Type} (l ns : List α) (o : Nat) (h : o + ns.length ≤ l.length) : (splC l o ns).length = l.length := by
  unfold splC; simp; omega
theorem RpL.keep {w w' : World} : ∀ (ds : List D) {vs : List Value} {Fs : List Fp}, RpL w ds vs Fs → (∀ F ∈ Fs, ∀ be ∈ F, w'.heap[be.1]? = w.heap[be.1]?) → RpL w' ds vs Fs
  | [], _, _, h, _ => by simpa only [RpL] using h
  | d :: ds, _, _, h, hk => by
    simp only [RpL] at h ⊢
    obtain ⟨v, vs', F, Fs', rfl, rfl, h1, h2⟩ := h
    exact ⟨v, vs', F, Fs', rfl, rfl, h1.keep d (fun be hb j _ => World.cell?_of_block (w := w) (hk F (by simp) be hb)), RpL.keep ds h2 (fun G hG => hk G (by simp [hG]))⟩
/-- cells i*k+o of the elements side by side -/
theorem flat_spl {k : Nat} : ∀ (es : List (List D)) (i o : Nat) (e ds : List D), (∀ e ∈ es, e.length = k) → nth es i = some e → o + ds.length ≤ k → (es.set i (splC e o ds)).flatten = splC es.flatten (i * k + o) ds
  | [], i, o, e, ds, _, h, _ => by simp [nth] at h
  | x :: es, 0, o, e, ds, hk, h, ho => by
    simp only [nth, Option.some.injEq] at h
    subst h
    have hx := hk x (by simp)
    simp only [List.set_cons_zero, List.flatten_cons, Nat.zero_mul, Nat.zero_add, splC]
    rw [List.take_append_of_le_length (by omega), List.drop_append_of_le_length (by omega)]
    simp
  | x :: es, i + 1, o, e, ds, hk, h, ho => by
    simp only [nth] at h
    have hx := hk x (by simp)
    have ih := flat_spl es i o e ds (fun y hy => hk y (by simp [hy])) h ho
    have e1 : (i + 1) * k + o = x.length + (i * k + o) := by rw [Nat.succ_mul]; omega
    rw [List.set_cons_succ, List.flatten_cons, ih, List.flatten_cons, e1]
    unfold splC
    rw [List.take_length_add_append, show x.length + (i * k + o) + ds.length = x.length + (i * k + o + ds.length) by omega, List.drop_length_add_append]
    simp
theorem flat_len {k : Nat} : ∀ (es : List (List D)), (∀ e ∈ es, e.length = k) → es.flatten.length = es.length * k
  | [], _ => by simp
  | e :: es, h => by
    rw [List.flatten_cons, List.length_append, flat_len es (fun x hx => h x (by simp [hx])), h e (by simp), List.length_cons, Nat.succ_mul]; omega
theorem flat_sub {k : Nat} : ∀ (es : List (List D)) (i o n : Nat) (e : List D), (∀ e ∈ es, e.length = k) → nth es i = some e → o + n ≤ k → (es.flatten.drop (i * k + o)).take n = (e.drop o).take n ∧ i * k + o + n ≤ es.flatten.length
  | [], i, o, n, e, _, h, _ => by simp [nth] at h
  | x :: es, 0, o, n, e, hk, h, ho => by
    simp only [nth, Option.some.injEq] at h
    subst h
    have hx := hk x (by simp)
    refine ⟨?_, by simp; omega⟩
    rw [List.flatten_cons, Nat.zero_mul, Nat.zero_add, List.drop_append_of_le_length (by omega), List.take_append_of_le_length (by simp; omega)]
  | x :: es, i + 1, o, n, e, hk, h, ho => by
    simp only [nth] at h
    have hx := hk x (by simp)
    obtain ⟨h1, h2⟩ := flat_sub es i o n e (fun y hy => hk y (by simp [hy])) h ho
    have e1 : (i + 1) * k + o = x.length + (i * k + o) := by rw [Nat.succ_mul]; omega
    rw [List.flatten_cons, e1]
    refine ⟨by rw [List.drop_length_add_append]; exact h1, by rw [List.length_append]; omega⟩
end Go.Proofs.Ytmaigpiappmpcaa
