/-
  The machine's operations that only read do what the program's do. No program is named here.
-/
import Derived.Test.YtmaigpiappmpcaaKInv
import Derived.Laws.Tables
namespace Go.Proofs.Ytmaigpiappmpcaa
set_option linter.unusedVariables false
set_option linter.unusedSimpArgs false
open Go.RowKit

def okX (N : Nat) : Operand → KX → Bool
  | .tmp d, .s d' => d == d' && Nat.blt d N
  | .const (.int k n), .k (.d (.int k' n')) => k == k' && n == n' && k.wrap n == n
  | .const (.bool b), .k (.d (.bool b')) => b == b'
  | .const (.string s), .k (.d (.str s')) => s.data.toList == s'.data.toList && Nat.ble s.size maxLen
  | .const (.slice none 0 0), .k (.nil k _) => Nat.blt 0 k
  | _, _ => false

section
variable {γ : Gh} {h0 : Nat → Nat} {io : List Nat} {w0 : World} {s : St} {f : Fm} {w : World} {N : Nat}
theorem rp_int {k : IntKind} {n : Int} (h : k.wrap n = n) : CR γ w (.d (.int k n)) (.int k n) := by
  simp only [CR, Rp]; exact ⟨[], by simp [h], fun _ h => by simp at h⟩
theorem rp_bool {b : Bool} : CR γ w (.d (.bool b)) (.bool b) := by
  simp only [CR, Rp]; exact ⟨[], by simp, fun _ h => by simp at h⟩
theorem rp_str {t : ByteArray} (h : t.size ≤ maxLen) : CR γ w (.d (.str t)) (.string t) := by
  simp only [CR, Rp]; exact ⟨[], by simp [h], fun _ h => by simp at h⟩
theorem cr_int {k : IntKind} {n : Int} {v : Value} (h : CR γ w (.d (.int k n)) v) : v = .int k n ∧ k.wrap n = n := by
  simp only [CR, Rp] at h
  obtain ⟨_, ⟨h1, _, h2⟩, _⟩ := h
  exact ⟨h1, h2⟩
theorem cr_bool {b : Bool} {v : Value} (h : CR γ w (.d (.bool b)) v) : v = .bool b := by
  simp only [CR, Rp] at h
  obtain ⟨_, ⟨h1, _⟩, _⟩ := h
  exact h1
theorem cr_str {t : ByteArray} {v : Value} (h : CR γ w (.d (.str t)) v) : v = .string t ∧ t.size ≤ maxLen := by
  simp only [CR, Rp] at h
  obtain ⟨_, ⟨h1, _, h2⟩, _⟩ := h
  exact ⟨h1, h2⟩
theorem str_ext {a b : ByteArray} (h : a.data.toList = b.data.toList) : a = b := by
  cases a; cases b; simp at h; simp [h]
theorem evX_rel (hi : Inv γ h0 io w0 s f w) {x : Operand} {kx : KX} (ok : okX N x kx = true) : CR γ w (evX s kx) ((fr f N).eval x) := by
  unfold okX at ok
  split at ok
  · simp only [Bool.and_eq_true, beq_iff_eq] at ok
    obtain ⟨rfl, hd⟩ := ok
    rw [fr_eval f (by simpa using hd)]
    exact hi.get _
  · simp only [Bool.and_eq_true, beq_iff_eq] at ok
    obtain ⟨⟨rfl, rfl⟩, hw⟩ := ok
    exact rp_int hw
  · simp only [beq_iff_eq] at ok
    subst ok
    exact rp_bool
  · simp only [Bool.and_eq_true, beq_iff_eq, Nat.ble_eq] at ok
    obtain ⟨he, hw⟩ := ok
    rw [str_ext he] at hw ⊢
    exact rp_str hw
  · simp only [Nat.blt_eq] at ok
    simp only [evX, CR]
    exact ⟨rfl, ok⟩
  · cases ok
end

/-- the slices and blocks that a state reads are the same in w' -/
structure Sames (γ : Gh) (s : St) (w w' : World) : Prop where
  cell : ∀ g j, j < γ.h g → w'.cell? ⟨g, j, none⟩ = w.cell? ⟨g, j, none⟩
  bx : ∀ b cs, look s.bx b = some cs → w'.heap[γ.β b]? = w.heap[γ.β b]?
  rw : ∀ r x, look s.rw r = some x → ∀ g, γ.ω g = .row r → w'.heap[g]? = w.heap[g]?
theorem Sames.refl (γ : Gh) (s : St) (w : World) : Sames γ s w w := ⟨fun _ _ _ => rfl, fun _ _ _ => rfl, fun _ _ _ _ _ => rfl⟩

def okXs (N : Nat) : List Operand → List KX → Bool
  | [], [] => true
  | x :: xs, y :: ys => okX N x y && okXs N xs ys
  | _, _ => false

theorem okXs_rel {γ : Gh} {h0 : Nat → Nat} {io : List Nat} {w0 : World} {s : St} {f : Fm} {w : World} {N : Nat} (hi : Inv γ h0 io w0 s f w) : ∀ (xs : List Operand) (ys : List KX), okXs N xs ys = true → CRs γ w (ys.map (evX s)) (xs.map (fr f N).eval)
  | [], [], _ => by simp [CRs]
  | [], _ :: _, h => by simp [okXs] at h
  | _ :: _, [], h => by simp [okXs] at h
  | x :: xs, y :: ys, h => by
    simp only [okXs, Bool.and_eq_true] at h
    simp only [List.map_cons, CRs]
    exact ⟨_, _, rfl, evX_rel hi h.1, okXs_rel hi xs ys h.2⟩

/-- a zero cell -/
def okZ : Value → C → Bool
  | .int k n, .d (.int k' n') => k == k' && n == n' && k.wrap n == n
  | .bool b, .d (.bool b') => b == b'
  | .string s, .d (.str s') => s.data.toList == s'.data.toList && Nat.ble s.size maxLen
  | .slice none 0 0, .nil k _ => Nat.blt 0 k
  | _, _ => false
def okZs : List Value → List C → Bool
  | [], [] => true
  | v :: vs, c :: cs => okZ v c && okZs vs cs
  | _, _ => false
theorem okZs_rel {γ : Gh} {w : World} : ∀ (vs : List Value) (cs : List C), okZs vs cs = true → CRs γ w cs vs
  | [], [], _ => by simp [CRs]
  | [], _ :: _, h => by simp [okZs] at h
  | _ :: _, [], h => by simp [okZs] at h
  | v :: vs, c :: cs, h => by
    simp only [okZs, Bool.and_eq_true] at h
    simp only [CRs]
    refine ⟨v, vs, rfl, ?_, okZs_rel vs cs h.2⟩
    have ok := h.1
    unfold okZ at ok
    split at ok
    · simp only [Bool.and_eq_true, beq_iff_eq] at ok
      obtain ⟨⟨rfl, rfl⟩, hw⟩ := ok
      exact rp_int hw
    · simp only [beq_iff_eq] at ok
      subst ok
      exact rp_bool
    · simp only [Bool.and_eq_true, beq_iff_eq, Nat.ble_eq] at ok
      obtain ⟨he, hw⟩ := ok
      rw [str_ext he] at hw ⊢
      exact rp_str hw
    · simp only [Nat.blt_eq] at ok
      simp only [CR]
      exact ⟨trivial, ok⟩
    · cases ok

/-- the type is a struct (or not), of n cells -/
def aggB (P : Program) (T : TypeId) : Option Bool :=
  match P.underlying T with
  | some (.struct _) => some true
  | some (.array _ _) => some true
  | some _ => some false
  | none => none
def sizeB (P : Program) (T : TypeId) : Option Nat := (P.info? T).map (·.size)
theorem run_isAgg {P : Program} {T : TypeId} {b : Bool} (h : aggB P T = some b) (w : World) : (isAgg T).run P w = .ok b w := by
  unfold aggB at h
  cases hu : P.underlying T with
  | none => rw [hu] at h; cases h
  | some d =>
    rw [hu] at h
    cases d <;> simp at h <;> subst h <;> simp [isAgg, run_underlying hu]
theorem run_sizeOf {P : Program} {T : TypeId} {n : Nat} (h : sizeB P T = some n) (w : World) : (Go.sizeOf T).run P w = .ok n w := by
  unfold sizeB at h
  cases hu : P.info? T with
  | none => rw [hu] at h; cases h
  | some i =>
    rw [hu] at h
    simp at h
    subst h
    simp [Go.sizeOf, typeInfo, hu]

/-- field i of struct T lies o cells behind its start -/
def fieldB (P : Program) (T : TypeId) (i o : Nat) : Bool :=
  match P.underlying T with
  | some (.struct fs) => match fs[i]? with
    | some fd => fd.offset == o && (match sizeB P fd.type with
      | some n => Nat.blt 0 n
      | none => false)
    | none => false
  | _ => false
def sliceB (P : Program) (T : TypeId) (k : Nat) : Bool :=
  match P.underlying T with
  | some (.slice E) => sizeB P E == some k
  | _ => false
def isStr (P : Program) (T : TypeId) : Bool :=
  match P.underlying T with
  | some .string => true
  | _ => false
def isSl (P : Program) (T : TypeId) : Bool :=
  match P.underlying T with
  | some (.slice _) => true
  | _ => false
def sliceZ (P : Program) (T : TypeId) : Option Nat :=
  match P.underlying T with
  | some (.slice E) => sizeB P E
  | _ => none
def isBy (P : Program) (T : TypeId) : Bool :=
  match P.underlying T with
  | some (.slice E) => (match P.underlying E with
    | some (.int .u8) => true
    | _ => false)
  | _ => false
def isBool (P : Program) (T : TypeId) : Bool :=
  match P.underlying T with
  | some .bool => true
  | _ => false
def intB (P : Program) (T : TypeId) : Option IntKind :=
  match P.underlying T with
  | some (.int k) => some k
  | _ => none
/-- where the fields of a struct lie -/
def placesB (P : Program) (T : TypeId) : Option (List (Nat × Nat)) :=
  match P.underlying T with
  | some (.struct fs) => fs.toList.mapM (fun f => (P.info? f.type).map fun i => (f.offset, i.size))
  | _ => none
def zeroB (P : Program) (T : TypeId) : Option (List Value) := ((P.info? T).bind (·.zero)).map fun z => z.cells.toList
def okParts (N : Nat) (pl : List (Nat × Nat)) : List (Nat × Operand) → List (Nat × Nat × KX) → Bool
  | [], [] => true
  | (i, x) :: ps, (o, n, kx) :: ks => pl[i]? == some (o, n) && okX N x kx && okParts N pl ps ks
  | _, _ => false

def okP (P : Program) (N : Nat) : Op → KO → Bool
  | .move x, .mv y => okX N x y
  | .assign x, .mv y => okX N x y
  | .pick c a b, .pick c' a' b' => okX N c c' && okX N a a' && okX N b b'
  | .build T ps, .build zs ks => (match zeroB P T, placesB P T with
      | some z, some pl => okZs z zs && okParts N pl ps.toList ks
      | _, _ => false)
  | .load T x, .ld n y => okX N x y && (if n = 0 then aggB P T == some false else aggB P T == some true && sizeB P T == some n)
  | .fieldAddr T x i, .fa o y => okX N x y && fieldB P T i o
  | .indexAddr T x i, .ia k y j => okX N x y && okX N i j && sliceB P T k
  | .index T x i, .six y j => okX N x y && okX N i j && isStr P T
  | .binOp op T x y _, .bin op' x' y' => decide (op = op') && okX N x x' && okX N y y'
  | .binOp op T x y _, .bib op' x' y' => decide (op = op') && okX N x x' && okX N y y' && isBool P T
  | .unOp .not _ x, .not y => okX N x y
  | .unOp .neg _ x, .neg y => okX N x y
  | .convert T T' x, .conv k y => okX N x y && (intB P T).isSome && intB P T' == some k
  | .call c, .len y => (match c.callee, c.args.toList, c.argTypes.toList with
      | .builtin .len, [x], [T] => okX N x y && isSl P T
      | _, _, _ => false)
  | .call c, .sln y => (match c.callee, c.args.toList, c.argTypes.toList with
      | .builtin .len, [x], [T] => okX N x y && isStr P T
      | _, _, _ => false)
  | .call c, .min y y' => (match c.callee, c.args.toList with
      | .builtin .min, [x, x'] => okX N x y && okX N x' y'
      | _, _ => false)
  | .call c, .max y y' => (match c.callee, c.args.toList with
      | .builtin .max, [x, x'] => okX N x y && okX N x' y'
      | _, _ => false)
  | .extract x i, .ext y j => okX N x y && i == j
  | .slice T x none (some h) none, .slc y j => okX N x y && okX N h j && isSl P T && (sliceZ P T).isSome
  | .nilCheck x, .nck y => okX N x y
  | .convert T T' x, .bts y => okX N x y && isStr P T' && isBy P T
  | _, _ => false

theorem nth_get {α : Type} : ∀ (l : List α) (i : Nat), nth l i = l[i]?
  | [], i => by simp [nth]
  | x :: l, 0 => by simp [nth]
  | x :: l, i + 1 => by simp [nth, nth_get l i]
theorem CRs.length {γ : Gh} {w : World} : ∀ {cs : List C} {vs : List Value}, CRs γ w cs vs → vs.length = cs.length
  | [], _, h => by simp only [CRs] at h; simp [h]
  | c :: cs, _, h => by
    simp only [CRs] at h
    obtain ⟨v, vs', rfl, _, h3⟩ := h
    simp [CRs.length h3]
theorem CRs.at_ {γ : Gh} {w : World} : ∀ {cs : List C} {vs : List Value}, CRs γ w cs vs → ∀ {i : Nat} {c : C}, cs[i]? = some c → ∃ v, vs[i]? = some v ∧ CR γ w c v
  | [], _, _, i, c, hi => by simp at hi
  | x :: cs, _, h, i, c, hi => by
    simp only [CRs] at h
    obtain ⟨v, vs', rfl, h2, h3⟩ := h
    cases i with
    | zero => simp at hi; subst hi; exact ⟨v, rfl, h2⟩
    | succ i => simp at hi; simpa using CRs.at_ h3 hi
theorem CRs.drop {γ : Gh} {w : World} : ∀ {cs : List C} {vs : List Value} (n : Nat), CRs γ w cs vs → CRs γ w (cs.drop n) (vs.drop n)
  | cs, _, 0, h => by simpa using h
  | [], _, n + 1, h => by simp only [CRs] at h; subst h; simp [CRs]
  | c :: cs, _, n + 1, h => by
    simp only [CRs] at h
    obtain ⟨v, vs', rfl, _, h3⟩ := h
    simpa using CRs.drop n h3
theorem CRs.take {γ : Gh} {w : World} : ∀ {cs : List C} {vs : List Value} (n : Nat), CRs γ w cs vs → CRs γ w (cs.take n) (vs.take n)
  | cs, _, 0, h => by simp [CRs]
  | [], _, n + 1, h => by simp only [CRs] at h; subst h; simp [CRs]
  | c :: cs, _, n + 1, h => by
    simp only [CRs] at h
    obtain ⟨v, vs', rfl, h2, h3⟩ := h
    simp only [List.take_succ_cons, CRs]
    exact ⟨v, _, rfl, h2, CRs.take n h3⟩
theorem CRs.append {γ : Gh} {w : World} : ∀ {cs ds : List C} {vs us : List Value}, CRs γ w cs vs → CRs γ w ds us → CRs γ w (cs ++ ds) (vs ++ us)
  | [], _, _, _, h, h' => by simp only [CRs] at h; subst h; simpa using h'
  | c :: cs, _, _, _, h, h' => by
    simp only [CRs] at h
    obtain ⟨v, vs', rfl, h2, h3⟩ := h
    simp only [List.cons_append, CRs]
    exact ⟨v, _, rfl, h2, CRs.append h3 h'⟩
theorem CRs.spl {γ : Gh} {w : World} {cs ds : List C} {vs us : List Value} (o : Nat) (h : CRs γ w cs vs) (h' : CRs γ w ds us) : CRs γ w (splC cs o ds) (splice vs o us) := by
  unfold splC splice
  rw [← h'.length]
  exact ((h.take o).append h').append (h.drop _)
theorem CRs.ofC {γ : Gh} {w : World} : ∀ {ds : List D} {vs : List Value} {F : Fp}, RpC w ds vs F → Settled γ.h F → CRs γ w (ds.map .d) vs
  | [], _, _, h, _ => by simp only [RpC] at h; simp [CRs, h.1]
  | d :: ds, _, _, h, hs => by
    simp only [RpC] at h
    obtain ⟨v, vs', F1, F2, rfl, rfl, h3, h4⟩ := h
    simp only [List.map_cons, CRs]
    refine ⟨v, vs', rfl, ?_, CRs.ofC h4 (hs.sub (by simp_all))⟩
    simp only [CR]
    exact ⟨F1, h3, hs.sub (by simp_all)⟩

/-- a value's cells -/
theorem CR.cells {γ : Gh} {w : World} {c : C} {v : Value} (h : CR γ w c v) (hc : c.cells.all C.cell = true) : CRs γ w c.cells v.cells.toList ∧ (c.isAgg = false → v.cells = #[v]) ∧ (c.isAgg = true → ∃ vs : List Value, v = .agg vs.toArray) := by
  cases c with
  | agg cs =>
    simp only [CR] at h
    obtain ⟨vs, rfl, h2⟩ := h
    exact ⟨by simpa [C.cells, Value.cells] using h2, by simp [C.isAgg], fun _ => ⟨vs, rfl⟩⟩
  | d x =>
    have h' := h
    simp only [CR] at h
    obtain ⟨F, h1, _⟩ := h
    have ho := h1.isOne
    have e : v.cells = #[v] := by cases v <;> simp_all [Value.cells, one]
    refine ⟨?_, fun _ => e, by simp [C.isAgg]⟩
    rw [e]
    simp only [C.cells, CRs]
    exact ⟨v, [], rfl, h', rfl⟩
  | nil k fl =>
    have h' := h
    simp only [CR] at h
    obtain ⟨rfl, _⟩ := h
    refine ⟨?_, fun _ => rfl, by simp [C.isAgg]⟩
    simp only [C.cells, Value.cells, CRs]
    exact ⟨_, [], rfl, h', rfl⟩
  | ref r =>
    have h' := h
    simp only [CR] at h
    obtain ⟨_, A, n, c, rfl⟩ := h
    refine ⟨?_, fun _ => rfl, by simp [C.isAgg]⟩
    simp only [C.cells, Value.cells, CRs]
    exact ⟨_, [], rfl, h', rfl⟩
  | ptr _ _ => simp [C.cells, C.cell] at hc
  | ept _ _ _ _ => simp [C.cells, C.cell] at hc
  | dpt _ => simp [C.cells, C.cell] at hc
  | tup _ => simp [C.cells, C.cell] at hc
  | und => simp [C.cells, C.cell] at hc
  | any => simp [C.cells, C.cell] at hc

/-! ### struct literals -/
theorem put_at (off : Nat) : ∀ (vs : List Value) (j : Nat) (A : Array Value), off + j + vs.length ≤ A.size → (vs.zipIdx j).foldl (fun a p => a.setIfInBounds (off + p.2) p.1) A = (splice A.toList (off + j) vs).toArray
  | [], j, A, _ => by simp [splice]
  | v :: vs, j, A, h => by
    simp only [List.length_cons] at h
    simp only [List.zipIdx_cons, List.foldl_cons]
    rw [put_at off vs (j + 1) _ (by simp; omega), ← Nat.add_assoc, ← splice_cons _ _ _ _ (by simp; omega)]
    simp
theorem put_at' (off : Nat) (vs : List Value) (A : Array Value) (h : off + vs.length ≤ A.size) : vs.toArray.zipIdx.foldl (fun a (c, j) => a.setIfInBounds (off + j) c) A = (splice A.toList off vs).toArray := by
  have h1 := put_at off vs 0 A (by simpa using h)
  rw [← Array.foldl_toList]
  simpa using h1
theorem fill_rel {γ : Gh} {h0 : Nat → Nat} {io : List Nat} {w0 : World} {s : St} {f : Fm} {w : World} {N : Nat} (hi : Inv γ h0 io w0 s f w) {pl : List (Nat × Nat)} {place : Nat → Option (Nat × Nat)} (hp : ∀ i, place i = pl[i]?) :
    ∀ (ps : List (Nat × Operand)) (ks : List (Nat × Nat × KX)) (zs : List C) (zv : List Value) (cs' : List C), okParts N pl ps ks = true → CRs γ w zs zv → fillC zs (ks.map fun p => (p.1, p.2.1, (evX s p.2.2).cells)) = some cs' →
      ∃ vs' : List Value, Instr.fill place zv.toArray (ps.map fun p => (p.1, (fr f N).eval p.2)) = some vs'.toArray ∧ CRs γ w cs' vs'
  | [], [], zs, zv, cs', _, hz, hf => by
    simp only [List.map_nil, fillC, Option.some.injEq] at hf
    subst hf
    exact ⟨zv, rfl, hz⟩
  | [], _ :: _, _, _, _, h, _, _ => by simp [okParts] at h
  | _ :: _, [], _, _, _, h, _, _ => by simp [okParts] at h
  | (i, x) :: ps, (o, n, kx) :: ks, zs, zv, cs', h, hz, hf => by
    simp only [okParts, Bool.and_eq_true, beq_iff_eq] at h
    obtain ⟨⟨h1, h2⟩, h3⟩ := h
    simp only [List.map_cons, fillC] at hf
    split at hf
    · rename_i hc
      obtain ⟨c1, c2, c3⟩ := hc
      have hx := evX_rel hi h2
      obtain ⟨hr, _, _⟩ := hx.cells c3
      have hl := hr.length
      obtain ⟨vs', h4, h5⟩ := fill_rel hi hp ps ks _ _ cs' h3 (hz.spl o hr) hf
      refine ⟨vs', ?_, h5⟩
      simp only [List.map_cons, Instr.fill, hp, h1]
      have hsz : ((fr f N).eval x).cells.size = n := by rw [← Array.length_toList, hl]; exact c1
      have hz' := hz.length
      rw [if_neg (by simp only [List.size_toArray]; simp; omega)]
      have e : ((fr f N).eval x).cells.zipIdx.foldl (fun cs (c, j) => cs.setIfInBounds (o + j) c) zv.toArray = (splice zv o ((fr f N).eval x).cells.toList).toArray := by
        have := put_at' o ((fr f N).eval x).cells.toList zv.toArray (by simp; omega)
        simpa using this
      rw [e]
      exact h4
    · cases hf

theorem built_of {P : Program} {T : TypeId} {z : List Value} {pl : List (Nat × Nat)} (hz : zeroB P T = some z) (hp : placesB P T = some pl) (parts : List (Nat × Value)) : P.built T parts = Instr.fill (fun i => pl[i]?) z.toArray parts := by
  unfold placesB at hp
  unfold zeroB at hz
  cases hi : P.info? T with
  | none => rw [hi] at hz; simp at hz
  | some it =>
    rw [hi] at hz
    cases hzz : it.zero with
    | none => simp [hzz] at hz
    | some z0 =>
      simp [hzz] at hz
      subst hz
      split at hp
      · rename_i fs hu
        simp only [Program.built, hi, hu, hzz, hp]
        simp
      · cases hp

section
variable {P : Program} {γ : Gh} {h0 : Nat → Nat} {io : List Nat} {w0 : World} {s : St} {f : Fm} {w : World} {N : Nat} {dst : Option Tmp} {ty : TypeId} {pos : String} {aft : Array Edge} {gd : Option (Nat × Bool)}

theorem p_build (hi : Inv γ h0 io w0 s f w) {T : TypeId} {ps : Array (Nat × Operand)} {zs : List C} {ks : List (Nat × Nat × KX)} {c : C} (hok : okP P N (.build T ps) (.build zs ks) = true) (he : evP s (.build zs ks) = some c) :
    ∃ v, CR γ w c v ∧ ∀ w', (execOp (fr f N).eval ⟨dst, .build T ps, ty, pos, aft, gd⟩).run P w' = .ok (.value v) w' := by
  simp only [okP] at hok
  split at hok
  · rename_i z pl hz hp
    simp only [Bool.and_eq_true] at hok
    simp only [evP, Option.map_eq_some_iff] at he
    obtain ⟨cs', he, rfl⟩ := he
    obtain ⟨vs', h1, h2⟩ := fill_rel hi (place := fun i => pl[i]?) (fun _ => rfl) ps.toList ks zs z cs' hok.2 (okZs_rel _ _ hok.1) he
    refine ⟨.agg vs'.toArray, by simp only [CR]; exact ⟨vs', rfl, h2⟩, fun w' => ?_⟩
    have hb := run_build (P := P) w' T (ps.map fun (i, x) => (i, (fr f N).eval x)) vs'.toArray (by rw [built_of hz hp]; simpa using h1)
    simp [execOp, hb]
  · cases hok

theorem p_load (hi : Inv γ h0 io w0 s f w) {T : TypeId} {x : Operand} {y : KX} {n : Nat} {c : C} (hok : okP P N (.load T x) (.ld n y) = true) (he : evP s (.ld n y) = some c) :
    ∃ v, CR γ w c v ∧ ∀ w', Sames γ s w w' → (execOp (fr f N).eval ⟨dst, .load T x, ty, pos, aft, gd⟩).run P w' = .ok (.value v) w' := by
  simp only [okP, Bool.and_eq_true] at hok
  obtain ⟨hx, hty⟩ := hok
  have hr := evX_rel hi hx
  -- one cell or some cells that lie at an address
  have fin : ∀ (b o : Nat) (vs : List Value), (fr f N).eval x = .pointer (some ⟨b, o, none⟩) → (∀ w', Sames γ s w w' → Lies w' b o vs) → (n = 0 → vs.length = 1) → (n ≠ 0 → vs.length = n) →
      ∀ w', Sames γ s w w' → (execOp (fr f N).eval ⟨dst, .load T x, ty, pos, aft, gd⟩).run P w' = .ok (.value (if n = 0 then vs.headD undef else .agg vs.toArray)) w' := by
    intro b o vs hp hl h1 h2 w' hs
    by_cases hn : n = 0
    · subst hn
      simp only [if_true, beq_iff_eq] at hty ⊢
      obtain ⟨v, rfl⟩ := List.length_eq_one_iff.1 (h1 rfl)
      exact x_load (fun w => run_isAgg hty w) hp (by have := hl w' hs 0 v rfl; simpa using this)
    · simp only [if_neg hn, Bool.and_eq_true, beq_iff_eq] at hty ⊢
      exact x_loadN (fun w => run_isAgg hty.1 w) (fun w => run_sizeOf hty.2 w) hp (h2 hn) (hl w' hs)
  simp only [evP] at he
  split at he
  · rename_i b o hb
    rw [hb] at hr
    simp only [CR] at hr
    split at he
    · rename_i cs hl
      obtain ⟨T', vs, h1, h2, h3⟩ := hi.bx b cs hl
      have hlen := h2.length
      have hlies : ∀ (m : Nat) w', Sames γ s w w' → Lies w' (γ.β b) o ((vs.drop o).take m) := by
        intro m w' hs
        have := (h1.keep (hs.bx b cs hl)).lies
        have h4 := this.sub o m
        simpa using h4
      by_cases hn : n = 0
      · subst hn
        simp only [if_true, nth_get] at he
        obtain ⟨v, hv, hc⟩ := h2.at_ he
        have hlt := (List.getElem?_eq_some_iff.1 hv).1
        have e1 : (vs.drop o).take 1 = [v] := by
          rw [List.take_one, List.head?_drop, hv]; rfl
        refine ⟨v, hc, fun w' hs => ?_⟩
        have := fin _ _ _ hr (hlies 1) (fun _ => by rw [e1]; rfl) (fun h => absurd rfl h) w' hs
        rw [e1] at this
        simpa using this
      · rw [if_neg hn] at he
        split at he
        · rename_i ho
          simp only [Option.some.injEq] at he
          subst he
          refine ⟨.agg ((vs.drop o).take n).toArray, by simp only [CR]; exact ⟨_, rfl, (h2.drop o).take n⟩, fun w' hs => ?_⟩
          have := fin _ _ _ hr (hlies n) (fun h => absurd h hn) (fun _ => by simp; omega) w' hs
          simpa [hn] using this
        · cases he
    · cases he
  · rename_i cs hb
    rw [hb] at hr
    simp only [CR] at hr
    obtain ⟨b, o, vs, F, hp, hrc, hset, hl, hh⟩ := hr
    have hlen := RpC.length cs hrc
    have hlies : ∀ (m : Nat) w', Sames γ s w w' → Lies w' b o (vs.take m) := by
      intro m w' hs
      have : Lies w' b o vs := by
        intro j u hu
        have hj := (List.getElem?_eq_some_iff.1 hu).1
        rw [hs.cell b (o + j) (hh j (by omega))]
        exact hl j u hu
      have h4 := this.sub 0 m
      simpa using h4
    by_cases hn : n = 0
    · subst hn
      simp only [if_true, nth_get, Option.map_eq_some_iff] at he
      obtain ⟨d, hd, rfl⟩ := he
      obtain ⟨v, G, hv, hrp, hG⟩ := hrc.at_ hd
      have e1 : vs.take 1 = [v] := by
        rw [List.take_one, List.head?_eq_getElem?, hv]; rfl
      refine ⟨v, by simp only [CR]; exact ⟨G, hrp, hset.sub hG⟩, fun w' hs => ?_⟩
      have := fin _ _ _ hp (hlies 1) (fun _ => by rw [e1]; rfl) (fun h => absurd rfl h) w' hs
      rw [e1] at this
      simpa using this
    · rw [if_neg hn] at he
      split at he
      · rename_i ho
        simp only [Option.some.injEq] at he
        subst he
        obtain ⟨G, h4, h5⟩ := RpC.take cs n hrc
        refine ⟨.agg (vs.take n).toArray, by simp only [CR]; exact ⟨_, rfl, CRs.ofC h4 (hset.sub h5)⟩, fun w' hs => ?_⟩
        have := fin _ _ _ hp (hlies n) (fun h => absurd h hn) (fun _ => by simp; omega) w' hs
        simpa [hn] using this
      · cases he
  · rename_i r k i o hb
    rw [hb] at hr
    simp only [CR] at hr
    obtain ⟨g, p, m, cc, hsl, hp⟩ := hr
    split at he
    · rename_i row hl
      split at he
      · rename_i e hei
        split at he
        · rename_i hc
          obtain ⟨hk, ho, hpl⟩ := hc
          subst hk
          obtain ⟨F, hR, _, hω⟩ := hi.rw r row hl
          obtain ⟨A, n', c', q1, q2, q3, q4, q5, q6, q7, q8⟩ := hR
          rw [hsl] at q1
          simp only [Value.slice.injEq] at q1
          obtain ⟨rfl, rfl, rfl⟩ := q1
          rcases q8 with ⟨q8, _⟩ | ⟨g', p', xs, G, a1, a2, a3, a4, a5, a6, a7, a8, a9, a10⟩
          · cases q8
          · simp only [Option.some.injEq, Addr.mk.injEq, and_true] at a1
            obtain ⟨rfl, rfl⟩ := a1
            rw [nth_get] at hei
            obtain ⟨G', hrc, hG'⟩ := a4.at_ q6 hei
            have hlx := RpE.length row.es a4 q6
            have hilt := (List.getElem?_eq_some_iff.1 hei).1
            have hel := q6 e (List.mem_of_getElem? hei)
            have hgF : g ∈ F := by
              cases hd : row.deep with
              | true => rw [(a9 hd).1]; simp
              | false => rw [(a10 hd).1]; simp
            have hlies : ∀ (m : Nat) w', Sames γ s w w' → Lies w' g (p + i * row.k + o) ((((xs.drop (i * row.k)).take row.k).drop o).take m) := by
              intro m w' hs
              have h1 : Lies w' g p xs := a5.keep (hs.rw r row hl g (hω g hgF))
              have h2 := (h1.sub (i * row.k) row.k).sub o m
              exact h2
            -- what is read is settled
            have hsett : ∀ (m : Nat), plains ((e.drop o).take m) = true ∨ row.deep = false → ∃ G2, RpC w ((e.drop o).take m) ((((xs.drop (i * row.k)).take row.k).drop o).take m) G2 ∧ Settled γ.h G2 := by
              intro m hm
              obtain ⟨G1, r1, s1⟩ := RpC.drop e o hrc
              obtain ⟨G2, r2, s2⟩ := RpC.take _ m r1
              refine ⟨G2, r2, ?_⟩
              rcases hm with hm | hm
              · have : G2 = [] := r2.plain (by simpa [plains] using hm)
                subst this
                exact fun _ h => by simp at h
              · exact (a10 hm).2.sub (fun be hb => hG' be (s1 be (s2 be hb)))
            have hpl' : ∀ m, m = max n 1 → plains ((e.drop o).take m) = true ∨ row.deep = false := by
              intro m hm
              subst hm
              simpa using hpl
            have hlen : ((xs.drop (i * row.k)).take row.k).length = row.k := by
              rw [RpC.length e hrc, hel]
            by_cases hn : n = 0
            · subst hn
              simp only [if_true, nth_get, Option.map_eq_some_iff] at he
              obtain ⟨d, hd, rfl⟩ := he
              obtain ⟨G2, r2, s2⟩ := hsett 1 (hpl' 1 (by simp))
              have e1 : (e.drop o).take 1 = [d] := by rw [List.take_one, List.head?_drop, hd]; rfl
              rw [e1] at r2
              obtain ⟨v, G3, hv, hrp, hG4⟩ := r2.at_ (i := 0) (d := d) rfl
              have e2 : (((xs.drop (i * row.k)).take row.k).drop o).take 1 = [v] := by
                have hl1 := RpC.length _ r2
                simp only [List.length_cons, List.length_nil] at hl1
                obtain ⟨u, hu⟩ := List.length_eq_one_iff.1 hl1
                rw [hu] at hv ⊢
                simp at hv
                rw [hv]
              refine ⟨v, by simp only [CR]; exact ⟨G3, hrp, s2.sub hG4⟩, fun w' hs => ?_⟩
              have := fin _ _ _ hp (hlies 1) (fun _ => by rw [e2]; rfl) (fun h => absurd rfl h) w' hs
              rw [e2] at this
              simpa using this
            · rw [if_neg hn] at he
              simp only [Option.some.injEq] at he
              subst he
              have hmax : max n 1 = n := by omega
              obtain ⟨G2, r2, s2⟩ := hsett n (hpl' n hmax.symm)
              refine ⟨.agg ((((xs.drop (i * row.k)).take row.k).drop o).take n).toArray, by simp only [CR]; exact ⟨_, rfl, CRs.ofC r2 s2⟩, fun w' hs => ?_⟩
              have := fin _ _ _ hp (hlies n) (fun h => absurd h hn) (fun _ => by simp only [List.length_take, List.length_drop, hlen]; omega) w' hs
              simpa [hn] using this
        · cases he
      · cases he
    · cases he
  · cases he

theorem p_fa (hi : Inv γ h0 io w0 s f w) {T : TypeId} {x : Operand} {y : KX} {i o : Nat} {c : C} (hok : okP P N (.fieldAddr T x i) (.fa o y) = true) (he : evP s (.fa o y) = some c) :
    ∃ v, CR γ w c v ∧ ∀ w', (execOp (fr f N).eval ⟨dst, .fieldAddr T x i, ty, pos, aft, gd⟩).run P w' = .ok (.value v) w' := by
  simp only [okP, Bool.and_eq_true] at hok
  obtain ⟨hx, hty⟩ := hok
  have hr := evX_rel hi hx
  unfold fieldB at hty
  split at hty
  · rename_i fs hu
    split at hty
    · rename_i fd hfd
      simp only [Bool.and_eq_true, beq_iff_eq] at hty
      obtain ⟨ho, hsz⟩ := hty
      split at hsz
      · rename_i n hn
        simp only [Nat.blt_eq] at hsz
        obtain ⟨m, rfl⟩ : ∃ m, n = m + 1 := ⟨n - 1, by omega⟩
        have fin : ∀ b p, (fr f N).eval x = .pointer (some ⟨b, p, none⟩) → ∀ w', (execOp (fr f N).eval ⟨dst, .fieldAddr T x i, ty, pos, aft, gd⟩).run P w' = .ok (.value (.pointer (some ⟨b, p + o, none⟩))) w' :=
          fun b p hp w' => x_field hu hfd (fun w => run_sizeOf hn w) ho hp
        simp only [evP] at he
        split at he
        · rename_i b p hb
          rw [hb] at hr
          simp only [CR] at hr
          simp only [Option.some.injEq] at he
          subst he
          exact ⟨_, by simp only [CR], fin _ _ hr⟩
        · rename_i cs hb
          rw [hb] at hr
          simp only [CR] at hr
          simp only [Option.some.injEq] at he
          subst he
          obtain ⟨b, p, vs, F, hp, hrc, hset, hl, hh⟩ := hr
          obtain ⟨G, h4, h5⟩ := RpC.drop cs o hrc
          refine ⟨_, ?_, fin _ _ hp⟩
          simp only [CR]
          refine ⟨b, p + o, vs.drop o, G, rfl, h4, hset.sub h5, ?_, ?_⟩
          · intro j u hu
            rw [List.getElem?_drop] at hu
            rw [Nat.add_assoc]
            exact hl _ u hu
          · intro j hj
            rw [List.length_drop] at hj
            rw [Nat.add_assoc]
            exact hh _ (by omega)
        · rename_i r k i' p hb
          rw [hb] at hr
          simp only [CR] at hr
          simp only [Option.some.injEq] at he
          subst he
          obtain ⟨g, q, n, cc, h1, h2⟩ := hr
          refine ⟨_, ?_, fin _ _ h2⟩
          simp only [CR]
          exact ⟨g, q, n, cc, h1, by rw [Nat.add_assoc (q + i' * k)]⟩
        · cases he
      · cases hsz
    · cases hty
  · cases hty

theorem p_ia (hi : Inv γ h0 io w0 s f w) {T : TypeId} {x ix : Operand} {y j : KX} {k : Nat} {c : C} (hok : okP P N (.indexAddr T x ix) (.ia k y j) = true) (he : evP s (.ia k y j) = some c) :
    ∃ v, CR γ w c v ∧ ∀ w', (execOp (fr f N).eval ⟨dst, .indexAddr T x ix, ty, pos, aft, gd⟩).run P w' = .ok (.value v) w' := by
  simp only [okP, Bool.and_eq_true] at hok
  obtain ⟨⟨hx, hj⟩, hty⟩ := hok
  have hr := evX_rel hi hx
  have hrj := evX_rel hi hj
  unfold sliceB at hty
  split at hty
  · rename_i E hu
    simp only [beq_iff_eq] at hty
    simp only [evP] at he
    split at he
    · rename_i k' fl es n hb hn
      rw [hb] at hr
      rw [hn] at hrj
      obtain ⟨hjv, _⟩ := cr_int hrj
      split at he
      · rename_i hc
        obtain ⟨h1, rfl⟩ := hc
        simp only [nth_get, Option.map_eq_some_iff] at he
        obtain ⟨e, hei, rfl⟩ := he
        simp only [CR, Rp] at hr
        obtain ⟨F, ⟨A, m, cc, q1, q2, q3, q4, q5, q6, q7, q8⟩, hset⟩ := hr
        have hlt := (List.getElem?_eq_some_iff.1 hei).1
        rcases q8 with ⟨q8, _⟩ | ⟨_, b, o, xs, G, rfl, rfl, a2, a3⟩
        · omega
        · refine ⟨.pointer (some ⟨b, o + n.toNat * k', none⟩), ?_, fun w' => x_index hu (fun w => run_sizeOf hty w) q1 hjv (by omega) (by omega)⟩
          obtain ⟨G', hrc, hG'⟩ := a2.at_ q7 hei
          simp only [CR]
          refine ⟨b, _, _, G', rfl, hrc, hset.sub (fun be hb => by simp [hG' be hb]), a3.sub _ _, ?_⟩
          intro i hi'
          have hel := q7 e (List.mem_of_getElem? hei)
          have hs := hset (b, o + m * k') (by simp)
          simp only at hs
          have : n.toNat * k' + k' ≤ m * k' := by
            rw [← Nat.succ_mul]
            exact Nat.mul_le_mul_right _ (by omega)
          omega
      · cases he
    · rename_i r n hb hn
      rw [hb] at hr
      rw [hn] at hrj
      obtain ⟨hjv, _⟩ := cr_int hrj
      split at he
      · rename_i row hl
        split at he
        · rename_i hc
          obtain ⟨h1, h2, rfl⟩ := hc
          simp only [Option.some.injEq] at he
          subst he
          simp only [CR] at hr
          obtain ⟨hr, _⟩ := hr
          obtain ⟨F, hR, _, hω⟩ := hi.rw r row hl
          obtain ⟨A, n', c', q1, q2, q3, q4, q5, q6, q7, q8⟩ := hR
          rcases q8 with ⟨rfl, q8, _⟩ | ⟨g', p', xs, G, rfl, a2, a3, a4, a5, a6, a7, a8, a9, a10⟩
          · omega
          · refine ⟨.pointer (some ⟨g', p' + n.toNat * row.k, none⟩), ?_, fun w' => x_index hu (fun w => run_sizeOf hty w) (hr.trans q1) hjv (by omega) (by omega)⟩
            simp only [CR]
            exact ⟨g', p', n', c', q1, by simp⟩
        · cases he
      · cases he
    · cases he
  · cases hty

theorem p_six (hi : Inv γ h0 io w0 s f w) {T : TypeId} {x ix : Operand} {y j : KX} {c : C} (hok : okP P N (.index T x ix) (.six y j) = true) (he : evP s (.six y j) = some c) :
    ∃ v, CR γ w c v ∧ ∀ w', (execOp (fr f N).eval ⟨dst, .index T x ix, ty, pos, aft, gd⟩).run P w' = .ok (.value v) w' := by
  simp only [okP, Bool.and_eq_true] at hok
  obtain ⟨⟨hx, hj⟩, hty⟩ := hok
  have hr := evX_rel hi hx
  have hrj := evX_rel hi hj
  unfold isStr at hty
  split at hty
  · rename_i hu
    simp only [evP] at he
    split at he
    · rename_i t n hb hn
      rw [hb] at hr
      rw [hn] at hrj
      obtain ⟨hjv, _⟩ := cr_int hrj
      obtain ⟨hxv, _⟩ := cr_str hr
      split at he
      · rename_i hc
        simp only [Option.some.injEq] at he
        subst he
        refine ⟨_, rp_int ?_, fun w' => x_sindex hu hxv hjv (by omega) hc.2⟩
        have := bAt_bd t n.toNat
        simp [IntKind.wrap, IntKind.bits, IntKind.signed]
        omega
      · cases he
    · cases he
  · cases hty
theorem i64_bd {n : Int} (h : IntKind.i64.wrap n = n) : -9223372036854775808 ≤ n ∧ n ≤ 9223372036854775807 := by
  simp [IntKind.wrap, IntKind.bits, IntKind.signed] at h
  split at h <;> omega
theorem i64_wrap {n : Int} (h : -9223372036854775808 ≤ n ∧ n ≤ 9223372036854775807) : IntKind.i64.wrap n = n := IntWalk.i64_in _ h
theorem wrap_wrap (k : IntKind) (n : Int) : k.wrap (k.wrap n) = k.wrap n := by
  cases k <;> simp only [IntKind.wrap, IntKind.bits, IntKind.signed] <;> (repeat' split) <;> simp_all <;> omega
theorem p_bin (hi : Inv γ h0 io w0 s f w) {op : BinOp} {T T' : TypeId} {x x' : Operand} {y y' : KX} {c : C} (hok : okP P N (.binOp op T x x' T') (.bin op y y') = true) (he : evP s (.bin op y y') = some c) :
    ∃ v, CR γ w c v ∧ ∀ w', (execOp (fr f N).eval ⟨dst, .binOp op T x x' T', ty, pos, aft, gd⟩).run P w' = .ok (.value v) w' := by
  simp only [okP, Bool.and_eq_true] at hok
  obtain ⟨⟨_, hx⟩, hj⟩ := hok
  have hr := evX_rel hi hx
  have hrj := evX_rel hi hj
  simp only [evP] at he
  unfold binD at he
  split at he
  · rename_i k a k' b hb hn
    rw [hb] at hr
    rw [hn] at hrj
    obtain ⟨hxv, hxw⟩ := cr_int hr
    obtain ⟨hjv, hjw⟩ := cr_int hrj
    split at he
    · rename_i hk
      subst hk
      simp only [Option.map_eq_some_iff] at he
      obtain ⟨d, hd, rfl⟩ := he
      unfold binI at hd
      split at hd
      all_goals (try (simp only [Option.some.injEq] at hd; subst hd))
      · exact ⟨_, rp_int (wrap_wrap _ _), fun w' => by simp [execOp, hxv, hjv, binOp, Op.intArith, eqGuard]⟩
      · exact ⟨_, rp_int (wrap_wrap _ _), fun w' => by simp [execOp, hxv, hjv, binOp, Op.intArith, eqGuard]⟩
      · exact ⟨_, rp_int (wrap_wrap _ _), fun w' => by simp [execOp, hxv, hjv, binOp, Op.intArith, eqGuard]⟩
      · exact ⟨_, rp_bool, fun w' => x_lss hxv hjv rfl⟩
      · exact ⟨_, rp_bool, fun w' => x_leq hxv hjv rfl⟩
      · exact ⟨_, rp_bool, fun w' => x_gtr hxv hjv rfl⟩
      · exact ⟨_, rp_bool, fun w' => x_geq hxv hjv rfl⟩
      · exact ⟨_, rp_bool, fun w' => x_eql hxv hjv rfl⟩
      · exact ⟨_, rp_bool, fun w' => x_neq hxv hjv (by simp)⟩
      · split at hd
        · rename_i hc
          obtain ⟨rfl, h1, h2⟩ := hc
          simp only [Option.some.injEq] at hd
          subst hd
          have hbd := i64_bd hxw
          have hq : 0 ≤ a / b ∧ a / b ≤ a := ⟨Int.ediv_nonneg h1 (by omega), Int.ediv_le_self _ h1⟩
          have h0' : ¬ b = 0 := by omega
          have e : a.tdiv b = a / b := Int.tdiv_eq_ediv_of_nonneg h1
          have e2 : IntKind.i64.wrap (a / b) = a / b := i64_wrap (by omega)
          exact ⟨_, rp_int e2, fun w' => by simp [execOp, hxv, hjv, binOp, Op.intDiv, eqGuard, h0', e, e2]⟩
        · cases hd
      · split at hd
        · rename_i hc
          obtain ⟨rfl, h1, h2⟩ := hc
          simp only [Option.some.injEq] at hd
          subst hd
          have hbd := i64_bd hxw
          have hq : 0 ≤ a % b ∧ a % b < b := ⟨Int.emod_nonneg _ (by omega), Int.emod_lt_of_pos _ (by omega)⟩
          have hbj := i64_bd hjw
          have h0' : ¬ b = 0 := by omega
          have e : a.tmod b = a % b := Int.tmod_eq_emod_of_nonneg h1
          have e2 : IntKind.i64.wrap (a % b) = a % b := i64_wrap (by omega)
          exact ⟨_, rp_int e2, fun w' => by simp [execOp, hxv, hjv, binOp, Op.intDiv, eqGuard, h0', e]⟩
        · cases hd
      · cases hd
    · cases he
  · rename_i a b hb hn
    rw [hb] at hr
    rw [hn] at hrj
    obtain ⟨hxv, hxw⟩ := cr_str hr
    obtain ⟨hjv, hjw⟩ := cr_str hrj
    simp only [Option.map_eq_some_iff] at he
    obtain ⟨d, hd, rfl⟩ := he
    unfold binS at hd
    split at hd
    · split at hd
      · rename_i hc
        simp only [Option.some.injEq] at hd
        subst hd
        have h0' : ¬ (((a.size + b.size : Nat) : Int) > IntKind.i64.max) := by simp [IntKind.max, IntKind.signed, IntKind.bits]; simp [maxLen] at hc; omega
        refine ⟨_, rp_str (by simpa using hc), fun w' => ?_⟩
        simp only [execOp, hxv, hjv, binOp, Op.stringOp, eqGuard, if_neg h0']
        simp
      · cases hd
    · simp only [Option.some.injEq] at hd
      subst hd
      exact ⟨_, rp_bool, fun w' => x_seql hxv hjv rfl⟩
    · simp only [Option.some.injEq] at hd
      subst hd
      exact ⟨_, rp_bool, fun w' => x_sneq hxv hjv (by simp)⟩
    · cases hd
  · cases he
theorem p_bib (hi : Inv γ h0 io w0 s f w) {op : BinOp} {T T' : TypeId} {x x' : Operand} {y y' : KX} {c : C} (hok : okP P N (.binOp op T x x' T') (.bib op y y') = true) (he : evP s (.bib op y y') = some c) :
    ∃ v, CR γ w c v ∧ ∀ w', (execOp (fr f N).eval ⟨dst, .binOp op T x x' T', ty, pos, aft, gd⟩).run P w' = .ok (.value v) w' := by
  simp only [okP, Bool.and_eq_true] at hok
  obtain ⟨⟨⟨_, hx⟩, hj⟩, hty⟩ := hok
  have hr := evX_rel hi hx
  have hrj := evX_rel hi hj
  unfold isBool at hty
  split at hty
  · rename_i hT
    simp only [evP] at he
    split at he
    · rename_i a b hb hn
      rw [hb] at hr
      rw [hn] at hrj
      have hxv := cr_bool hr
      have hjv := cr_bool hrj
      simp only [Option.map_eq_some_iff] at he
      obtain ⟨d, hd, rfl⟩ := he
      unfold binB at hd
      split at hd
      · simp only [Option.some.injEq] at hd
        subst hd
        exact ⟨_, rp_bool, fun w' => x_beql hT hxv hjv rfl⟩
      · simp only [Option.some.injEq] at hd
        subst hd
        exact ⟨_, rp_bool, fun w' => x_bneq hT hxv hjv (by simp)⟩
      · cases hd
    · cases he
  · cases hty

/-- what only reads does what the program's operation does, in every world that is the same for the state -/
theorem bytes_rel {w : World} : ∀ (es : List (List D)) {xs : List Value} {G : Fp} {ns : List Int}, RpE w es xs G → bytesOf es = some ns → xs = ns.map (Value.int .u8) ∧ ns.length = es.length
  | [], xs, G, ns, h, hb => by
    simp only [RpE] at h
    simp only [bytesOf, Option.some.injEq] at hb
    subst hb
    simp [h.1]
  | e :: es, xs, G, ns, h, hb => by
    simp only [RpE] at h
    obtain ⟨v1, v2, F1, F2, rfl, rfl, h1, h2⟩ := h
    unfold bytesOf at hb
    split at hb
    · rename_i e0; cases e0
    · rename_i n es' heq
      simp only [List.cons.injEq] at heq
      obtain ⟨rfl, rfl⟩ := heq
      simp only [Option.map_eq_some_iff] at hb
      obtain ⟨ms, hm, rfl⟩ := hb
      obtain ⟨k1, k2⟩ := bytes_rel es h2 hm
      simp only [RpC, Rp] at h1
      obtain ⟨v, vs', G1, G2, rfl, _, ⟨rfl, _⟩, rfl, _⟩ := h1
      simp [k1, k2]
    · cases hb
theorem p_bts (hi : Inv γ h0 io w0 s f w) {T T' : TypeId} {x : Operand} {y : KX} {c : C} (hok : okP P N (.convert T T' x) (.bts y) = true) (he : evP s (.bts y) = some c) :
    ∃ v, CR γ w c v ∧ ∀ w', Sames γ s w w' → (execOp (fr f N).eval ⟨dst, .convert T T' x, ty, pos, aft, gd⟩).run P w' = .ok (.value v) w' := by
  simp only [okP, Bool.and_eq_true] at hok
  obtain ⟨⟨hx, hT'⟩, hT⟩ := hok
  have hr := evX_rel hi hx
  simp only [evP] at he
  split at he
  · rename_i r hb
    rw [hb] at hr
    simp only [CR] at hr
    split at he
    · rename_i row hl
      split at he
      · rename_i hc
        simp only [Option.map_eq_some_iff] at he
        obtain ⟨ns, hns, rfl⟩ := he
        obtain ⟨F, hR, _, hω⟩ := hi.rw r row hl
        obtain ⟨A, n, cc, q1, q2, q3, q4, q5, q6, q7, q8⟩ := hR
        have hpos : 0 < row.es.length := by
          cases h : row.es with
          | nil => exact absurd h hc.2
          | cons _ _ => simp
        rcases q8 with ⟨_, hc0, _⟩ | ⟨g, o, xs, G, a1, a2, a3, a4, a5, a6, a7, a8, a9, a10⟩
        · omega
        · have hg : g ∈ F := by
            cases hd : row.deep with
            | true => rw [(a9 hd).1]; simp
            | false => rw [(a10 hd).1]; simp
          obtain ⟨k1, k2⟩ := bytes_rel _ a4 hns
          subst a1
          refine ⟨_, rp_str ?_, fun w' hs => ?_⟩
          · show (strOfNums ns).size ≤ maxLen
            rw [strOfNums_size]; omega
          · have hl' : Lies w' g o xs := a5.keep (hs.rw r row hl g (hω g hg))
            unfold isStr at hT'
            split at hT'
            · rename_i hu'
              unfold isBy at hT
              split at hT
              · rename_i E hu
                split at hT
                · rename_i hE
                  have h := run_convert_bytes_arg (P := P) w' T E hu hE g o n cc ns (by omega) (fun i hi' => by
                    have hi2 : i < ns.length := by omega
                    have := hl' i (.int .u8 ns[i]) (by rw [k1]; simp [hi2])
                    rw [this]
                    simp [hi2]) T' hu'
                  have hv := hr.1.trans q1
                  simp only [execOp, hv, h, Sem.run_bind, Result.andThen_ok]
                  rfl
                · cases hT
              · cases hT
            · cases hT'
      · cases he
    · cases he
  · cases he
theorem p_slc (hi : Inv γ h0 io w0 s f w) {T : TypeId} {x ix : Operand} {y j : KX} {c : C} (hok : okP P N (.slice T x none (some ix) none) (.slc y j) = true) (he : evP s (.slc y j) = some c) :
    ∃ v, CR γ w c v ∧ ∀ w', (execOp (fr f N).eval ⟨dst, .slice T x none (some ix) none, ty, pos, aft, gd⟩).run P w' = .ok (.value v) w' := by
  simp only [okP, Bool.and_eq_true] at hok
  obtain ⟨⟨⟨hx, hj⟩, _⟩, hz⟩ := hok
  have hr := evX_rel hi hx
  have hrj := evX_rel hi hj
  obtain ⟨z, hz⟩ := Option.isSome_iff_exists.1 hz
  unfold sliceZ at hz
  split at hz
  · rename_i E hu
    simp only [evP] at he
    split at he
    · rename_i k fl es a hb hn
      rw [hb] at hr
      rw [hn] at hrj
      obtain ⟨hjv, _⟩ := cr_int hrj
      split at he
      · rename_i hc
        simp only [Option.some.injEq] at he
        subst he
        simp only [CR, Rp] at hr
        obtain ⟨F, ⟨A, n, cc, q1, q2, q3, q4, q5, q6, q7, q8⟩, hset⟩ := hr
        have hlt : (es.take a.toNat).length = a.toNat := by rw [List.length_take]; omega
        refine ⟨.slice A a.toNat cc, ?_, fun w' => x_slice_hi hu (fun w => run_sizeOf hz w) q1 hjv (by omega) (by omega)⟩
        by_cases h0 : a.toNat = 0
        · simp only [CR, Rp]
          exact ⟨[], ⟨A, a.toNat, cc, rfl, hlt.symm, by omega, q4, fun hf e he => q5 hf e (List.mem_of_mem_take he), q6, fun e he => q7 e (List.mem_of_mem_take he), .inl ⟨h0, rfl⟩⟩, fun _ h => by simp at h⟩
        · rcases q8 with q8 | ⟨hp, b, o, xs, G, p1, p2, p3, p4⟩
          · omega
          · rw [← List.take_append_drop a.toNat es] at p3
            obtain ⟨v1, v2, F1, F2, rfl, rfl, k1, k2⟩ := RpE.append_inv _ p3
            have hl1 := RpE.length _ k1 (fun e he => q7 e (List.mem_of_mem_take he))
            rw [hlt] at hl1
            simp only [CR, Rp]
            refine ⟨(b, o + a.toNat * k) :: F1, ⟨A, a.toNat, cc, rfl, hlt.symm, by omega, q4, fun hf e he => q5 hf e (List.mem_of_mem_take he), q6, fun e he => q7 e (List.mem_of_mem_take he), .inr ⟨by omega, b, o, v1, F1, p1, rfl, k1, ?_⟩⟩, ?_⟩
            · intro j u hu
              exact p4 j u (by rw [List.getElem?_append_left (List.getElem?_eq_some_iff.1 hu).1]; exact hu)
            · intro be hbe
              rcases List.mem_cons.1 hbe with rfl | hbe
              · have := hset (b, o + n * k) (by rw [p2]; simp)
                refine Nat.le_trans ?_ this
                have : a.toNat * k ≤ n * k := Nat.mul_le_mul_right k (by omega)
                show o + a.toNat * k ≤ o + n * k
                omega
              · exact hset be (by rw [p2]; simp [hbe])
      · cases he
    · cases he
  · cases hz
theorem pure_sound (hi : Inv γ h0 io w0 s f w) {op : Op} {kop : KO} {c : C} (hok : okP P N op kop = true) (he : evP s kop = some c) :
    ∃ v, CR γ w c v ∧ ∀ w', (kop.isLd = true → Sames γ s w w') → (execOp (fr f N).eval ⟨dst, op, ty, pos, aft, gd⟩).run P w' = .ok (.value v) w' := by
  have hok' := hok
  unfold okP at hok
  split at hok
  · simp only [evP, Option.some.injEq] at he
    subst he
    exact ⟨_, evX_rel hi hok, fun w' _ => x_move rfl⟩
  · simp only [evP, Option.some.injEq] at he
    subst he
    exact ⟨_, evX_rel hi hok, fun w' _ => x_assign rfl⟩
  · simp only [Bool.and_eq_true] at hok
    obtain ⟨⟨h1, h2⟩, h3⟩ := hok
    simp only [evP] at he
    split at he
    · rename_i b hb
      have hr := evX_rel hi h1
      rw [hb] at hr
      have hv := cr_bool hr
      simp only [Option.some.injEq] at he
      subst he
      cases b
      · exact ⟨_, evX_rel hi h3, fun w' _ => x_pick_f hv rfl⟩
      · exact ⟨_, evX_rel hi h2, fun w' _ => x_pick_t hv rfl⟩
    · cases he
  · obtain ⟨v, h1, h2⟩ := p_build (dst := dst) (ty := ty) (pos := pos) (aft := aft) (gd := gd) hi hok' he
    exact ⟨v, h1, fun w' _ => h2 w'⟩
  · obtain ⟨v, h1, h2⟩ := p_load (dst := dst) (ty := ty) (pos := pos) (aft := aft) (gd := gd) hi hok' he
    exact ⟨v, h1, fun w' hs => h2 w' (hs rfl)⟩
  · obtain ⟨v, h1, h2⟩ := p_fa (dst := dst) (ty := ty) (pos := pos) (aft := aft) (gd := gd) hi hok' he
    exact ⟨v, h1, fun w' _ => h2 w'⟩
  · obtain ⟨v, h1, h2⟩ := p_ia (dst := dst) (ty := ty) (pos := pos) (aft := aft) (gd := gd) hi hok' he
    exact ⟨v, h1, fun w' _ => h2 w'⟩
  · obtain ⟨v, h1, h2⟩ := p_six (dst := dst) (ty := ty) (pos := pos) (aft := aft) (gd := gd) hi hok' he
    exact ⟨v, h1, fun w' _ => h2 w'⟩
  · simp only [Bool.and_eq_true] at hok
    have e := of_decide_eq_true hok.1.1
    subst e
    obtain ⟨v, h1, h2⟩ := p_bin (dst := dst) (ty := ty) (pos := pos) (aft := aft) (gd := gd) hi hok' he
    exact ⟨v, h1, fun w' _ => h2 w'⟩
  · simp only [Bool.and_eq_true] at hok
    have e := of_decide_eq_true hok.1.1.1
    subst e
    obtain ⟨v, h1, h2⟩ := p_bib (dst := dst) (ty := ty) (pos := pos) (aft := aft) (gd := gd) hi hok' he
    exact ⟨v, h1, fun w' _ => h2 w'⟩
  · simp only [evP] at he
    split at he
    · rename_i b hb
      have hr := evX_rel hi hok
      rw [hb] at hr
      have hv := cr_bool hr
      simp only [Option.some.injEq] at he
      subst he
      exact ⟨_, rp_bool, fun w' _ => x_not hv⟩
    · cases he
  · simp only [evP] at he
    split at he
    · rename_i k a hb
      have hr := evX_rel hi hok
      rw [hb] at hr
      obtain ⟨hv, _⟩ := cr_int hr
      simp only [Option.some.injEq] at he
      subst he
      exact ⟨_, rp_int (wrap_wrap _ _), fun w' _ => by simp [execOp, hv, Op.unary, Op.intArith]⟩
    · cases he
  · simp only [Bool.and_eq_true, beq_iff_eq] at hok
    obtain ⟨⟨h1, h2⟩, h3⟩ := hok
    simp only [evP] at he
    split at he
    · rename_i k a hb
      have hr := evX_rel hi h1
      rw [hb] at hr
      obtain ⟨hv, _⟩ := cr_int hr
      simp only [Option.some.injEq] at he
      subst he
      refine ⟨_, rp_int (wrap_wrap _ _), fun w' _ => ?_⟩
      unfold intB at h2 h3
      split at h3
      · rename_i k' hk'
        simp only [Option.some.injEq] at h3
        subst h3
        split at h2
        · rename_i k2 hk2
          simp [execOp, convert, hv, run_underlying hk', run_underlying hk2, Conv.intToInt]
        · cases h2
      · cases h3
    · cases he
  · rename_i c0 y
    split at hok
    · rename_i x T hc1 hc2 hc3
      simp only [Bool.and_eq_true] at hok
      obtain ⟨h1, h2⟩ := hok
      obtain ⟨cal, args, ats⟩ := c0
      simp only at hc1 hc2 hc3
      subst hc1
      have ea : args = #[x] := by rw [← hc2]
      have et : ats = #[T] := by rw [← hc3]
      subst ea et
      have hr := evX_rel hi h1
      unfold isSl at h2
      split at h2
      · rename_i E hu
        have wr : ∀ n : Nat, n ≤ maxLen → IntKind.i64.wrap (n : Int) = n := fun n hn => i64_wrap (by simp [maxLen] at hn; omega)
        simp only [evP] at he
        split at he
        · rename_i k fl es hb
          rw [hb] at hr
          simp only [CR, Rp] at hr
          obtain ⟨F, ⟨A, m, cc, q1, q2, q3, q4, _⟩, hset⟩ := hr
          simp only [Option.some.injEq] at he
          subst he
          subst q2
          exact ⟨_, rp_int (wr _ (by omega)), fun w' _ => x_len hu q1⟩
        · rename_i k fl hb
          rw [hb] at hr
          simp only [CR] at hr
          simp only [Option.some.injEq] at he
          subst he
          exact ⟨_, rp_int (wr 0 (by omega)), fun w' _ => x_len hu hr.1⟩
        · rename_i r hb
          rw [hb] at hr
          simp only [CR] at hr
          split at he
          · rename_i row hl
            simp only [Option.some.injEq] at he
            subst he
            obtain ⟨F, hR, _, hω⟩ := hi.rw r row hl
            obtain ⟨A, n', c', q1, q2, q3, q4, _⟩ := hR
            subst q2
            exact ⟨_, rp_int (wr _ (by omega)), fun w' _ => x_len hu (hr.1.trans q1)⟩
          · cases he
        · cases he
      · cases h2
    · cases hok
  · rename_i c0 y
    split at hok
    · rename_i x T hc1 hc2 hc3
      simp only [Bool.and_eq_true] at hok
      obtain ⟨h1, h2⟩ := hok
      obtain ⟨cal, args, ats⟩ := c0
      simp only at hc1 hc2 hc3
      subst hc1
      have ea : args = #[x] := by rw [← hc2]
      have et : ats = #[T] := by rw [← hc3]
      subst ea et
      have hr := evX_rel hi h1
      unfold isStr at h2
      split at h2
      · rename_i hu
        simp only [evP] at he
        split at he
        · rename_i t hb
          rw [hb] at hr
          obtain ⟨hv, hl⟩ := cr_str hr
          simp only [Option.some.injEq] at he
          subst he
          exact ⟨_, rp_int (i64_wrap (by simp [maxLen] at hl; omega)), fun w' _ => x_slen hu hv⟩
        · cases he
      · cases h2
    · cases hok
  · rename_i c0 y y'
    split at hok
    · rename_i x x' hc1 hc2
      simp only [Bool.and_eq_true] at hok
      obtain ⟨cal, args, ats⟩ := c0
      simp only at hc1 hc2
      subst hc1
      have ea : args = #[x, x'] := by rw [← hc2]
      subst ea
      have hr := evX_rel hi hok.1
      have hr' := evX_rel hi hok.2
      simp only [evP] at he
      split at he
      · rename_i a b hb hb'
        rw [hb] at hr
        rw [hb'] at hr'
        obtain ⟨hv, hw⟩ := cr_int hr
        obtain ⟨hv', hw'⟩ := cr_int hr'
        simp only [Option.some.injEq] at he
        subst he
        exact ⟨_, rp_int (by split <;> assumption), fun w' _ => by simp [execOp, resolve, invoke, builtin, Builtin.min_, Builtin.min2, hv, hv']⟩
      · cases he
    · cases hok
  · rename_i c0 y y'
    split at hok
    · rename_i x x' hc1 hc2
      simp only [Bool.and_eq_true] at hok
      obtain ⟨cal, args, ats⟩ := c0
      simp only at hc1 hc2
      subst hc1
      have ea : args = #[x, x'] := by rw [← hc2]
      subst ea
      have hr := evX_rel hi hok.1
      have hr' := evX_rel hi hok.2
      simp only [evP] at he
      split at he
      · rename_i a b hb hb'
        rw [hb] at hr
        rw [hb'] at hr'
        obtain ⟨hv, hw⟩ := cr_int hr
        obtain ⟨hv', hw'⟩ := cr_int hr'
        simp only [Option.some.injEq] at he
        subst he
        exact ⟨_, rp_int (by split <;> assumption), fun w' _ => by simp [execOp, resolve, invoke, builtin, Builtin.max_, Builtin.max2, hv, hv']⟩
      · cases he
    · cases hok
  · simp only [Bool.and_eq_true, beq_iff_eq] at hok
    obtain ⟨h1, rfl⟩ := hok
    have hr := evX_rel hi h1
    simp only [evP] at he
    split at he
    · rename_i cs hb
      rw [hb] at hr
      simp only [CR] at hr
      obtain ⟨vs, h2, h3⟩ := hr
      rw [nth_get] at he
      obtain ⟨v, hv, hc⟩ := h3.at_ he
      exact ⟨v, hc, fun w' _ => x_extract h2 (by simpa using hv)⟩
    · cases he
  · obtain ⟨v, h1, h2⟩ := p_slc (dst := dst) (ty := ty) (pos := pos) (aft := aft) (gd := gd) hi hok' he
    exact ⟨v, h1, fun w' _ => h2 w'⟩
  · have hr := evX_rel hi hok
    simp only [evP] at he
    split at he
    · rename_i b o hb
      simp only [Option.some.injEq] at he
      subst he
      rw [hb] at hr
      refine ⟨_, hr, fun w' _ => ?_⟩
      simp only [CR] at hr
      simp [execOp, hr]
    · rename_i cs hb
      simp only [Option.some.injEq] at he
      subst he
      rw [hb] at hr
      refine ⟨_, hr, fun w' _ => ?_⟩
      simp only [CR] at hr
      obtain ⟨b, o, vs, F, hr, _⟩ := hr
      simp [execOp, hr]
    · rename_i r k i o hb
      simp only [Option.some.injEq] at he
      subst he
      rw [hb] at hr
      refine ⟨_, hr, fun w' _ => ?_⟩
      simp only [CR] at hr
      obtain ⟨g, p, n, c, _, hr⟩ := hr
      simp [execOp, hr]
    · cases he
  · obtain ⟨v, h1, h2⟩ := p_bts (dst := dst) (ty := ty) (pos := pos) (aft := aft) (gd := gd) hi hok' he
    exact ⟨v, h1, fun w' hs => h2 w' (hs rfl)⟩
  · cases hok
end
end Go.Proofs.Ytmaigpiappmpcaa
