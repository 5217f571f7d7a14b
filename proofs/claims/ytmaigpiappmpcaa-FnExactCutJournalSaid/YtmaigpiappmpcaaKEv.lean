/-
  The machine without fuel, by equations: lim (calls), ev (code), limM (calls that mark), evm (code that marks). No program is named here.
-/
import Derived.Test.YtmaigpiappmpcaaKLim
namespace Go.Proofs.Ytmaigpiappmpcaa
set_option linter.unusedVariables false
set_option linter.unusedSimpArgs false

theorem look_mem {α : Type} : ∀ (l : List (Nat × α)) {f : Nat} {x : α}, look l f = some x → (f, x) ∈ l
  | [], _, _, h => by simp [look] at h
  | (k, y) :: l, f, x, h => by
    simp only [look] at h
    split at h
    · rename_i e; cases h; simp [e]
    · exact List.mem_cons_of_mem _ (look_mem l h)
section
variable (T : Nat → Option KF)
theorem runM_dep {cf : Cf} {mf : Mf} {n : Nat} {kf : KF} {ag : Bool} {cells : List D} {q : Int} {r : List D × Int} (he : runM (fun own k => evMs cf mf own k) (fun own k => evMC cf mf own k n) kf ag cells q = some r) :
    ∃ L, Told cf mf L ∧ ∀ (cf' : Cf) (mf' : Mf) (n' : Nat), Told cf' mf' L → n ≤ n' → runM (fun own k => evMs cf' mf' own k) (fun own k => evMC cf' mf' own k n') kf ag cells q = some r := by
  unfold runM at he
  split at he
  · rename_i body r0
    split at he
    · rename_i hag
      split at he
      · rename_i b is kp body'
        split at he
        · rename_i m hm
          dsimp only at hm he
          obtain ⟨L, a1, a2⟩ := evMs_dep is hm
          cases hx : evMC cf mf false cells.length n body' (m.keep kp) with
          | none => rw [hx] at he; simp [outM, outA1] at he
          | some e =>
            obtain ⟨M, b1, b2⟩ := evMC_dep body' hx
            refine ⟨L ++ M, a1.append b1, fun cf' mf' n' h hn => ?_⟩
            simp only [runM, hag, if_true, a2 cf' mf' h.left, b2 cf' mf' n' h.right hn]
            rw [hx] at he
            exact he
        · cases he
      · cases he
    · rename_i hag
      split at he
      · rename_i k fl es
        dsimp only at he
        cases hx : evMC cf mf true k n body ⟨⟨[(1, .d (.int .i64 q))], [], []⟩, [(0, .lst)], es⟩ with
        | none => rw [hx] at he; simp [outM, outL1] at he
        | some e =>
          obtain ⟨M, b1, b2⟩ := evMC_dep body hx
          refine ⟨M, b1, fun cf' mf' n' h hn => ?_⟩
          simp only [runM, hag, b2 cf' mf' n' h hn]
          rw [hx] at he
          simp only [Bool.false_eq_true, if_false]
          exact he
      · cases he
  · cases he
theorem evM_mono : ∀ (n n' f : Nat) (ag : Bool) (ds : List D) (q : Int) (r : List D × Int), evM T n f ag ds q = some r → n ≤ n' → evM T n' f ag ds q = some r
  | 0, _, _, _, _, _, _, h, _ => by simp [evM] at h
  | n + 1, n', f, ag, ds, q, r, h, hn => by
    obtain ⟨m, rfl⟩ : ∃ m, n' = m + 1 := ⟨n' - 1, by omega⟩
    rw [evM_run] at h ⊢
    split at h
    · obtain ⟨L, a1, a2⟩ := runM_dep h
      refine a2 (evF T m) (evM T m) m (fun t ht => ?_) (by omega)
      have := a1 t ht
      cases t with
      | c f a r => exact evF_mono T n m _ _ _ this (by omega)
      | m f g ds q r => exact evM_mono n m _ _ _ _ _ this (by omega)
    · cases h
noncomputable def limM : Mf := fun f ag ds q => lm fun n => evM T n f ag ds q
theorem limM_iff (f : Nat) (ag : Bool) (ds : List D) (q : Int) (r : List D × Int) : limM T f ag ds q = some r ↔ ∃ n, evM T n f ag ds q = some r := lm_iff (fun n m r h hn => evM_mono T n m f ag ds q r h hn) r
theorem told_lim : ∀ (L : Asked), Told (lim T) (limM T) L → ∃ n, ∀ m, n ≤ m → Told (evF T m) (evM T m) L
  | [], _ => ⟨0, fun m _ t ht => by simp at ht⟩
  | t :: L, h => by
    obtain ⟨n, hn⟩ := told_lim L (fun t ht => h t (by simp [ht]))
    have h1 := h t (by simp)
    cases t with
    | c f a r =>
      obtain ⟨m, hm⟩ := (lim_iff T _ _ _).1 h1
      refine ⟨max n m, fun z hz u hu => ?_⟩
      rcases List.mem_cons.1 hu with rfl | hu
      · exact evF_mono T m z _ _ _ hm (by omega)
      · exact hn z (by omega) u hu
    | m f g ds q r =>
      obtain ⟨m, hm⟩ := (limM_iff T _ _ _ _ _).1 h1
      refine ⟨max n m, fun z hz u hu => ?_⟩
      rcases List.mem_cons.1 hu with rfl | hu
      · exact evM_mono T m z _ _ _ _ _ hm (by omega)
      · exact hn z (by omega) u hu
theorem told_up {n : Nat} {L : Asked} (h : Told (evF T n) (evM T n) L) : Told (lim T) (limM T) L := fun t ht => by
  have h1 := h t ht
  cases t with
  | c f a r => exact (lim_iff T f a r).2 ⟨n, h1⟩
  | m f g ds q r => exact (limM_iff T f g ds q r).2 ⟨n, h1⟩

/-- no calls that mark -/
abbrev mf0 : Mf := fun _ _ _ _ => none
/-- code, without fuel -/
noncomputable def ev (mf : Mf) (k : K) (s : St) : Option (Ex × St) := lm fun n => evC (lim T) mf n k s
theorem evC_mono (mf : Mf) (k : K) (s : St) : ∀ n m r, evC (lim T) mf n k s = some r → n ≤ m → evC (lim T) mf m k s = some r := fun n m r h hn => by
  obtain ⟨L, a1, a2⟩ := evC_dep k h
  exact a2 _ _ m a1 hn
theorem ev_iff (mf : Mf) (k : K) (s : St) (r : Ex × St) : ev T mf k s = some r ↔ ∃ n, evC (lim T) mf n k s = some r := lm_iff (evC_mono T mf k s) r

section
variable (mf : Mf)
theorem ev_eq {k : K} {s : St} {o : Option (Ex × St)} (h1 : ∀ r n, evC (lim T) mf n k s = some r → o = some r) (h2 : ∀ r, o = some r → ∃ n, evC (lim T) mf n k s = some r) : ev T mf k s = o := lm_eq (evC_mono T mf k s) h1 h2
theorem ev_const {k : K} {s : St} {o : Option (Ex × St)} (h : ∀ n, evC (lim T) mf n k s = o) : ev T mf k s = o :=
  ev_eq T mf (fun r n e => by rw [← h n]; exact e) (fun r e => ⟨0, by rw [h 0]; exact e⟩)
theorem ev_skip (s : St) : ev T mf .skip s = some (.norm, s) := ev_const T mf fun n => by simp [evC]
theorem ev_ret (s : St) : ev T mf .ret s = some (.ret, s) := ev_const T mf fun n => by simp [evC]
theorem ev_exit (i : Nat) (s : St) : ev T mf (.exit i) s = some (.exit i, s) := ev_const T mf fun n => by simp [evC]
def nrm (kp : Keep) : Option St → Option (Ex × St)
  | some s => some (.norm, s.keep kp)
  | none => none
theorem ev_reg (ops : List KI) (kp : Keep) (s : St) : ev T mf (.reg ops kp) s = nrm kp (evOps (lim T) mf ops s) := ev_const T mf fun n => by simp only [evC, nrm]; split <;> simp_all
def nrd : Option St → Option (Ex × St)
  | some s => some (.norm, s)
  | none => none
theorem ev_drw (ops : KT) (kp : Keep) (s : St) : ev T mf (.drw ops kp) s = nrd (evDs (lim T) mf kp ops [] s) := ev_const T mf fun n => by simp only [evC, nrd]; split <;> simp_all
def thn (g : St → Option (Ex × St)) : Option (Ex × St) → Option (Ex × St)
  | some (.norm, s) => g s
  | some (.exit i, s) => some (.exit i, s)
  | some (.ret, s) => some (.ret, s)
  | none => none
theorem evC_seq {cf : Cf} (n : Nat) (a b : K) (s : St) : evC cf mf n (.seq a b) s = thn (evC cf mf n b) (evC cf mf n a s) := by
  simp only [evC, thn]
  split
  · rename_i h; simp only [h]
  · rename_i h
    split
    · rename_i s' h'; exact absurd h' (h s')
    · simp_all
    · simp_all
    · simp_all
theorem ev_seq (a b : K) (s : St) : ev T mf (.seq a b) s = thn (ev T mf b) (ev T mf a s) := by
  apply ev_eq
  · intro r n h
    rw [evC_seq] at h
    cases ha : evC (lim T) mf n a s with
    | none => rw [ha] at h; simp [thn] at h
    | some x =>
      rw [(ev_iff T mf a s x).2 ⟨n, ha⟩]
      rw [ha] at h
      rcases x with ⟨_ | i | _, s'⟩
      · exact (ev_iff T mf b s' r).2 ⟨n, h⟩
      · exact h
      · exact h
  · intro r h
    cases ha : ev T mf a s with
    | none => rw [ha] at h; simp [thn] at h
    | some x =>
      obtain ⟨n, hn⟩ := (ev_iff T mf a s x).1 ha
      rw [ha] at h
      rcases x with ⟨_ | i | _, s'⟩
      · obtain ⟨m, hm⟩ := (ev_iff T mf b s' r).1 h
        refine ⟨max n m, ?_⟩
        rw [evC_seq, evC_mono T mf a s n (max n m) _ hn (by omega)]
        exact evC_mono T mf b s' m (max n m) _ hm (by omega)
      · exact ⟨n, by rw [evC_seq, hn]; exact h⟩
      · exact ⟨n, by rw [evC_seq, hn]; exact h⟩
theorem ev_loop (a : K) (s : St) : ev T mf (.loop a) s = thn (ev T mf (.loop a)) (ev T mf a s) := by
  have one : ∀ (cf : Cf) n m s, iter (evC cf mf n a) (m + 1) s = thn (iter (evC cf mf n a) m) (evC cf mf n a s) := by
    intro cf n m s
    simp only [iter, thn]
    split
    · rename_i h; simp only [h]
    · rename_i h
      split
      · rename_i s' h'; exact absurd h' (h s')
      · simp_all
      · simp_all
      · simp_all
  apply ev_eq
  · intro r n h
    simp only [evC] at h
    cases n with
    | zero => simp [iter] at h
    | succ n =>
      rw [one] at h
      cases ha : evC (lim T) mf (n + 1) a s with
      | none => rw [ha] at h; simp [thn] at h
      | some x =>
        rw [(ev_iff T mf a s x).2 ⟨n + 1, ha⟩]
        rw [ha] at h
        rcases x with ⟨_ | i | _, s'⟩
        · refine (ev_iff T mf (.loop a) s' r).2 ⟨n + 1, ?_⟩
          simp only [thn] at h
          have : evC (lim T) mf (n + 1) (.loop a) s' = some r := by
            simp only [evC]
            have go : ∀ (m : Nat) (s : St), iter (evC (lim T) mf (n + 1) a) m s = some r → iter (evC (lim T) mf (n + 1) a) (m + 1) s = some r := by
              intro m
              induction m with
              | zero => intro s h; simp [iter] at h
              | succ m ih =>
                intro s h
                rw [one] at h ⊢
                cases hb : evC (lim T) mf (n + 1) a s with
                | none => rw [hb] at h; simp [thn] at h
                | some x =>
                  rw [hb] at h
                  rcases x with ⟨_ | i | _, s'⟩
                  · exact ih s' h
                  · exact h
                  · exact h
            exact go n s' h
          exact this
        · exact h
        · exact h
  · intro r h
    cases ha : ev T mf a s with
    | none => rw [ha] at h; simp [thn] at h
    | some x =>
      obtain ⟨n, hn⟩ := (ev_iff T mf a s x).1 ha
      rw [ha] at h
      rcases x with ⟨_ | i | _, s'⟩
      · obtain ⟨m, hm⟩ := (ev_iff T mf (.loop a) s' r).1 h
        refine ⟨max n m + 1, ?_⟩
        have h2 := evC_mono T mf (.loop a) s' m (max n m) _ hm (by omega)
        simp only [evC] at h2 ⊢
        rw [one, evC_mono T mf a s n (max n m + 1) _ hn (by omega)]
        simp only [thn]
        have go : ∀ (z : Nat) (s : St), iter (evC (lim T) mf (max n m) a) z s = some r → iter (evC (lim T) mf (max n m + 1) a) z s = some r := by
          intro z
          induction z with
          | zero => intro s h; simp [iter] at h
          | succ z ih =>
            intro s h
            rw [one] at h ⊢
            cases hb : evC (lim T) mf (max n m) a s with
            | none => rw [hb] at h; simp [thn] at h
            | some x =>
              rw [hb] at h
              rw [evC_mono T mf a s (max n m) (max n m + 1) x hb (by omega)]
              rcases x with ⟨_ | i | _, s'⟩
              · exact ih s' h
              · exact h
              · exact h
        exact go _ _ h2
      · refine ⟨n + 1, ?_⟩
        simp only [evC]
        rw [one, evC_mono T mf a s n (n + 1) _ hn (by omega)]
        exact h
      · refine ⟨n + 1, ?_⟩
        simp only [evC]
        rw [one, evC_mono T mf a s n (n + 1) _ hn (by omega)]
        exact h
def ife (c : C) (x y : Option (Ex × St)) : Option (Ex × St) :=
  match c with
  | .d (.bool t) => if t then x else y
  | _ => none
theorem evC_cond {cf : Cf} (n : Nat) (c : KX) (a b : K) (s : St) : evC cf mf n (.cond c a b) s = ife (evX s c) (evC cf mf n a s) (evC cf mf n b s) := by
  simp only [evC, ife]
  cases evX s c <;> rfl
theorem ev_cond (c : KX) (a b : K) (s : St) : ev T mf (.cond c a b) s = ife (evX s c) (ev T mf a s) (ev T mf b s) := by
  apply ev_eq
  · intro r n h
    rw [evC_cond] at h
    unfold ife at h ⊢
    split at h
    · split at h
      · rename_i ht; simp only [ht, if_true]; exact (ev_iff T mf _ _ _).2 ⟨n, h⟩
      · rename_i ht; simp only [ht]; exact (ev_iff T mf _ _ _).2 ⟨n, h⟩
    · cases h
  · intro r h
    unfold ife at h
    split at h
    · rename_i t hc
      cases t with
      | true => obtain ⟨n, hn⟩ := (ev_iff T mf _ _ _).1 h; exact ⟨n, by rw [evC_cond, hc]; exact hn⟩
      | false => obtain ⟨n, hn⟩ := (ev_iff T mf _ _ _).1 h; exact ⟨n, by rw [evC_cond, hc]; exact hn⟩
    · cases h
def blk (id : Nat) : Option (Ex × St) → Option (Ex × St)
  | some (.norm, s) => some (.norm, s)
  | some (.exit i, s) => if i = id then some (.norm, s) else some (.exit i, s)
  | some (.ret, s) => some (.ret, s)
  | none => none
theorem evC_block {cf : Cf} (n : Nat) (i : Nat) (a : K) (s : St) : evC cf mf n (.block i a) s = blk i (evC cf mf n a s) := by
  simp only [evC, blk]
  split
  · simp_all
  · rename_i h
    split
    · simp_all
    · rename_i j s' h'; exact absurd h' (h j s')
    · simp_all
    · simp_all
theorem ev_block (i : Nat) (a : K) (s : St) : ev T mf (.block i a) s = blk i (ev T mf a s) := by
  apply ev_eq
  · intro r n h
    rw [evC_block] at h
    cases ha : evC (lim T) mf n a s with
    | none => rw [ha] at h; simp [blk] at h
    | some x => rw [(ev_iff T mf a s x).2 ⟨n, ha⟩]; rw [ha] at h; exact h
  · intro r h
    cases ha : ev T mf a s with
    | none => rw [ha] at h; simp [blk] at h
    | some x =>
      obtain ⟨n, hn⟩ := (ev_iff T mf a s x).1 ha
      rw [ha] at h
      exact ⟨n, by rw [evC_block, hn]; exact h⟩
theorem ev_share (q : Nat) (a : K) (s : St) : ev T mf (.share q a) s = ev T mf a (shareAll s [q]) := by
  apply ev_eq
  · intro r n h
    simp only [evC] at h
    exact (ev_iff T mf _ _ _).2 ⟨n, h⟩
  · intro r h
    obtain ⟨n, hn⟩ := (ev_iff T mf _ _ _).1 h
    exact ⟨n, by simp only [evC]; exact hn⟩
def datS (s : St) (d : Nat) : Option St :=
  match s.get d with
  | .ref r => match look s.rw r with
    | some x => some ((shareAll s [r]).put (some d) (.d (.list x.k x.fl x.es)))
    | none => none
  | _ => some s
theorem ev_dat (d : Nat) (a : K) (s : St) : ev T mf (.dat d a) s = (datS s d).bind (ev T mf a) := by
  have h0 : ∀ n, evC (lim T) mf n (.dat d a) s = (datS s d).bind (evC (lim T) mf n a) := by
    intro n
    simp only [evC, datS]
    split
    · rename_i r hr
      simp only [hr]
      cases look s.rw r <;> rfl
    · rename_i h
      split
      · rename_i r hr; exact absurd hr (h r)
      · rfl
  apply ev_eq
  · intro r n h
    rw [h0] at h
    cases hd : datS s d with
    | none => rw [hd] at h; simp at h
    | some s' => rw [hd] at h; exact (ev_iff T mf _ _ _).2 ⟨n, h⟩
  · intro r h
    cases hd : datS s d with
    | none => rw [hd] at h; simp at h
    | some s' => rw [hd] at h; obtain ⟨n, hn⟩ := (ev_iff T mf _ _ _).1 h; exact ⟨n, by rw [h0, hd]; exact hn⟩
/-- a function's end -/
def fin (kf : KF) (args : List A) : Option (Ex × St) → Option (List A × List A)
  | some (.norm, s) => leave kf args s
  | some (.ret, s) => leave kf args s
  | _ => none
noncomputable def run (kf : KF) (args : List A) : Option (List A × List A) := if args.length = kf.np then fin kf args (ev T mf kf.body (enterAs 0 args ⟨[], [], []⟩)) else none
theorem runF_fin (cf : Cf) (n : Nat) (kf : KF) (args : List A) : runF cf mf n kf args = if args.length = kf.np then fin kf args (evC cf mf n kf.body (enterAs 0 args ⟨[], [], []⟩)) else none := by
  simp only [runF]
  split
  · simp only [fin]
    split <;> simp_all
  · rfl
/-- a function that marks nothing: from its parts -/
theorem run_up {n : Nat} {kf : KF} {args : List A} {r : List A × List A} (h : run T (limM T) kf args = some r) : ∃ n, ∀ m, n ≤ m → runF (evF T m) (evM T m) m kf args = some r := by
  unfold run at h
  split at h
  · rename_i hl
    cases hx : ev T (limM T) kf.body (enterAs 0 args ⟨[], [], []⟩) with
    | none => rw [hx] at h; simp [fin] at h
    | some x =>
      obtain ⟨n, hn⟩ := (ev_iff T (limM T) _ _ _).1 hx
      obtain ⟨L, a1, a2⟩ := evC_dep _ hn
      obtain ⟨m, hm⟩ := told_lim T L a1
      refine ⟨max n m, fun z hz => ?_⟩
      rw [runF_fin, if_pos hl, a2 _ _ z (hm z (by omega)) (by omega), ← hx]
      exact h
  · cases h
theorem told_mf0 {cf : Cf} {mf' : Mf} {L : Asked} (h : Told cf mf0 L) : Told cf mf' L := fun t ht => by
  have h1 := h t ht
  cases t with
  | c f a r => exact h1
  | m f g ds q r => cases h1
theorem told_cf {cf : Cf} {mf : Mf} {L : Asked} (h : Told cf mf0 L) (hc : ∀ f a r, cf f a = some r → lim T f a = some r) : Told (lim T) mf L := fun t ht => by
  have h1 := h t ht
  cases t with
  | c f a r => exact hc f a r h1
  | m f g ds q r => cases h1
theorem lim_run {f : Nat} {kf : KF} (hT : T f = some kf) (args : List A) : lim T f args = run T mf0 kf args := by
  apply Option.ext
  intro r
  rw [lim_iff]
  constructor
  · rintro ⟨n, hn⟩
    cases n with
    | zero => simp [evF] at hn
    | succ n =>
      simp only [evF, hT] at hn
      rw [runF_fin] at hn
      unfold run
      split at hn
      · rename_i hl
        rw [if_pos hl]
        cases hx : evC (evF T n) mf0 n kf.body (enterAs 0 args ⟨[], [], []⟩) with
        | none => rw [hx] at hn; simp [fin] at hn
        | some x =>
          obtain ⟨L, a1, a2⟩ := evC_dep _ hx
          have h2 := a2 (lim T) mf0 n (told_cf T a1 (fun f a r h => (lim_iff T f a r).2 ⟨n, h⟩)) (by omega)
          rw [(ev_iff T mf0 _ _ _).2 ⟨n, h2⟩, ← hx]
          exact hn
      · cases hn
  · intro h
    unfold run at h
    split at h
    · rename_i hl
      cases hx : ev T mf0 kf.body (enterAs 0 args ⟨[], [], []⟩) with
      | none => rw [hx] at h; simp [fin] at h
      | some x =>
        obtain ⟨n, hn⟩ := (ev_iff T mf0 _ _ _).1 hx
        obtain ⟨L, a1, a2⟩ := evC_dep _ hn
        obtain ⟨m, hm⟩ := told_lim T L (told_mf0 a1)
        refine ⟨max n m + 1, ?_⟩
        simp only [evF, hT]
        rw [runF_fin, if_pos hl, a2 (evF T (max n m)) mf0 (max n m) (fun t ht => ?_) (by omega), ← hx]
        · exact h
        · have h1 := a1 t ht
          have h2 := hm (max n m) (by omega) t ht
          cases t with
          | c f a r => exact h2
          | m f g ds q r => cases h1
    · cases h
end

/-! ### code that marks -/
noncomputable def evm (own : Bool) (k : Nat) (c : K) (s : MS) : Option (Ex × MS) := lm fun n => evMC (lim T) (limM T) own k n c s
variable (own : Bool) (k : Nat)
theorem evMC_mono (c : K) (s : MS) : ∀ n m r, evMC (lim T) (limM T) own k n c s = some r → n ≤ m → evMC (lim T) (limM T) own k m c s = some r := fun n m r h hn => by
  obtain ⟨L, a1, a2⟩ := evMC_dep c h
  exact a2 _ _ m a1 hn
theorem evm_iff (c : K) (s : MS) (r : Ex × MS) : evm T own k c s = some r ↔ ∃ n, evMC (lim T) (limM T) own k n c s = some r := lm_iff (evMC_mono T own k c s) r
theorem evm_eq {c : K} {s : MS} {o : Option (Ex × MS)} (h1 : ∀ r n, evMC (lim T) (limM T) own k n c s = some r → o = some r) (h2 : ∀ r, o = some r → ∃ n, evMC (lim T) (limM T) own k n c s = some r) : evm T own k c s = o := lm_eq (evMC_mono T own k c s) h1 h2
theorem evm_const {c : K} {s : MS} {o : Option (Ex × MS)} (h : ∀ n, evMC (lim T) (limM T) own k n c s = o) : evm T own k c s = o :=
  evm_eq T own k (fun r n e => by rw [← h n]; exact e) (fun r e => ⟨0, by rw [h 0]; exact e⟩)
theorem evm_skip (s : MS) : evm T own k .skip s = some (.norm, s) := evm_const T own k fun n => by simp [evMC]
theorem evm_ret (s : MS) : evm T own k .ret s = some (.ret, s) := evm_const T own k fun n => by simp [evMC]
theorem evm_exit (i : Nat) (s : MS) : evm T own k (.exit i) s = some (.exit i, s) := evm_const T own k fun n => by simp [evMC]
def nrmM (kp : Keep) : Option MS → Option (Ex × MS)
  | some s => some (.norm, s.keep kp)
  | none => none
theorem evm_reg (ops : List KI) (kp : Keep) (s : MS) : evm T own k (.reg ops kp) s = nrmM kp (evMs (lim T) (limM T) own k ops s) := evm_const T own k fun n => by simp only [evMC, nrmM]; split <;> simp_all
def thnM (g : MS → Option (Ex × MS)) : Option (Ex × MS) → Option (Ex × MS)
  | some (.norm, s) => g s
  | some (.exit i, s) => some (.exit i, s)
  | some (.ret, s) => some (.ret, s)
  | none => none
theorem evMC_seq {cf : Cf} {mf : Mf} (n : Nat) (a b : K) (s : MS) : evMC cf mf own k n (.seq a b) s = thnM (evMC cf mf own k n b) (evMC cf mf own k n a s) := by
  simp only [evMC, thnM]
  split
  · rename_i h; simp only [h]
  · rename_i h
    split
    · rename_i s' h'; exact absurd h' (h s')
    · simp_all
    · simp_all
    · simp_all
theorem evm_seq (a b : K) (s : MS) : evm T own k (.seq a b) s = thnM (evm T own k b) (evm T own k a s) := by
  apply evm_eq
  · intro r n h
    rw [evMC_seq] at h
    cases ha : evMC (lim T) (limM T) own k n a s with
    | none => rw [ha] at h; simp [thnM] at h
    | some x =>
      rw [(evm_iff T own k a s x).2 ⟨n, ha⟩]
      rw [ha] at h
      rcases x with ⟨_ | i | _, s'⟩
      · exact (evm_iff T own k b s' r).2 ⟨n, h⟩
      · exact h
      · exact h
  · intro r h
    cases ha : evm T own k a s with
    | none => rw [ha] at h; simp [thnM] at h
    | some x =>
      obtain ⟨n, hn⟩ := (evm_iff T own k a s x).1 ha
      rw [ha] at h
      rcases x with ⟨_ | i | _, s'⟩
      · obtain ⟨m, hm⟩ := (evm_iff T own k b s' r).1 h
        refine ⟨max n m, ?_⟩
        rw [evMC_seq, evMC_mono T own k a s n (max n m) _ hn (by omega)]
        exact evMC_mono T own k b s' m (max n m) _ hm (by omega)
      · exact ⟨n, by rw [evMC_seq, hn]; exact h⟩
      · exact ⟨n, by rw [evMC_seq, hn]; exact h⟩
def ifM (c : C) (x y : Option (Ex × MS)) : Option (Ex × MS) :=
  match c with
  | .d (.bool t) => if t then x else y
  | _ => none
theorem evMC_cond {cf : Cf} {mf : Mf} (n : Nat) (c : KX) (a b : K) (s : MS) : evMC cf mf own k n (.cond c a b) s = ifM (evX s.s c) (evMC cf mf own k n a s) (evMC cf mf own k n b s) := by
  simp only [evMC, ifM]
  cases evX s.s c <;> rfl
theorem evm_cond (c : KX) (a b : K) (s : MS) : evm T own k (.cond c a b) s = ifM (evX s.s c) (evm T own k a s) (evm T own k b s) := by
  apply evm_eq
  · intro r n h
    rw [evMC_cond] at h
    unfold ifM at h ⊢
    split at h
    · split at h
      · rename_i ht; simp only [ht, if_true]; exact (evm_iff T own k _ _ _).2 ⟨n, h⟩
      · rename_i ht; simp only [ht]; exact (evm_iff T own k _ _ _).2 ⟨n, h⟩
    · cases h
  · intro r h
    unfold ifM at h
    split at h
    · rename_i t hc
      cases t with
      | true => obtain ⟨n, hn⟩ := (evm_iff T own k _ _ _).1 h; exact ⟨n, by rw [evMC_cond, hc]; exact hn⟩
      | false => obtain ⟨n, hn⟩ := (evm_iff T own k _ _ _).1 h; exact ⟨n, by rw [evMC_cond, hc]; exact hn⟩
    · cases h
def blkM (id : Nat) : Option (Ex × MS) → Option (Ex × MS)
  | some (.norm, s) => some (.norm, s)
  | some (.exit i, s) => if i = id then some (.norm, s) else some (.exit i, s)
  | some (.ret, s) => some (.ret, s)
  | none => none
theorem evMC_block {cf : Cf} {mf : Mf} (n : Nat) (i : Nat) (a : K) (s : MS) : evMC cf mf own k n (.block i a) s = blkM i (evMC cf mf own k n a s) := by
  simp only [evMC, blkM]
  split
  · simp_all
  · rename_i h
    split
    · simp_all
    · rename_i j s' h'; exact absurd h' (h j s')
    · simp_all
    · simp_all
theorem evm_block (i : Nat) (a : K) (s : MS) : evm T own k (.block i a) s = blkM i (evm T own k a s) := by
  apply evm_eq
  · intro r n h
    rw [evMC_block] at h
    cases ha : evMC (lim T) (limM T) own k n a s with
    | none => rw [ha] at h; simp [blkM] at h
    | some x => rw [(evm_iff T own k a s x).2 ⟨n, ha⟩]; rw [ha] at h; exact h
  · intro r h
    cases ha : evm T own k a s with
    | none => rw [ha] at h; simp [blkM] at h
    | some x =>
      obtain ⟨n, hn⟩ := (evm_iff T own k a s x).1 ha
      rw [ha] at h
      exact ⟨n, by rw [evMC_block, hn]; exact h⟩
theorem evm_loop (a : K) (s : MS) : evm T own k (.loop a) s = thnM (evm T own k (.loop a)) (evm T own k a s) := by
  have one : ∀ (cf : Cf) (mf : Mf) n m s, iterM (evMC cf mf own k n a) (m + 1) s = thnM (iterM (evMC cf mf own k n a) m) (evMC cf mf own k n a s) := by
    intro cf mf n m s
    simp only [iterM, thnM]
    split
    · rename_i h; simp only [h]
    · rename_i h
      split
      · rename_i s' h'; exact absurd h' (h s')
      · simp_all
      · simp_all
      · simp_all
  have up : ∀ (n m z z' : Nat) (s : MS) (r : Ex × MS), n ≤ m → z ≤ z' → iterM (evMC (lim T) (limM T) own k n a) z s = some r → iterM (evMC (lim T) (limM T) own k m a) z' s = some r := by
    intro n m z
    induction z with
    | zero => intro z' s r _ _ h; simp [iterM] at h
    | succ z ih =>
      intro z' s r hn hz h
      obtain ⟨z', rfl⟩ : ∃ y, z' = y + 1 := ⟨z' - 1, by omega⟩
      rw [one] at h ⊢
      cases hb : evMC (lim T) (limM T) own k n a s with
      | none => rw [hb] at h; simp [thnM] at h
      | some x =>
        rw [hb] at h
        rw [evMC_mono T own k a s n m x hb hn]
        rcases x with ⟨_ | i | _, s'⟩
        · exact ih z' s' r hn (by omega) h
        · exact h
        · exact h
  apply evm_eq
  · intro r n h
    simp only [evMC] at h
    cases n with
    | zero => simp [iterM] at h
    | succ n =>
      rw [one] at h
      cases ha : evMC (lim T) (limM T) own k (n + 1) a s with
      | none => rw [ha] at h; simp [thnM] at h
      | some x =>
        rw [(evm_iff T own k a s x).2 ⟨n + 1, ha⟩]
        rw [ha] at h
        rcases x with ⟨_ | i | _, s'⟩
        · exact (evm_iff T own k (.loop a) s' r).2 ⟨n + 1, by simp only [evMC]; exact up (n + 1) (n + 1) n (n + 1) s' r (by omega) (by omega) h⟩
        · exact h
        · exact h
  · intro r h
    cases ha : evm T own k a s with
    | none => rw [ha] at h; simp [thnM] at h
    | some x =>
      obtain ⟨n, hn⟩ := (evm_iff T own k a s x).1 ha
      rw [ha] at h
      rcases x with ⟨_ | i | _, s'⟩
      · obtain ⟨m, hm⟩ := (evm_iff T own k (.loop a) s' r).1 h
        refine ⟨max n m + 1, ?_⟩
        simp only [evMC] at hm ⊢
        rw [one, evMC_mono T own k a s n (max n m + 1) _ hn (by omega)]
        exact up m (max n m + 1) m (max n m) s' r (by omega) (by omega) hm
      · exact ⟨n + 1, by simp only [evMC]; rw [one, evMC_mono T own k a s n (n + 1) _ hn (by omega)]; exact h⟩
      · exact ⟨n + 1, by simp only [evMC]; rw [one, evMC_mono T own k a s n (n + 1) _ hn (by omega)]; exact h⟩
theorem limM_run {f : Nat} {kf : KF} (hT : T f = some kf) (ag : Bool) (ds : List D) (q : Int) : limM T f ag ds q = runM (fun own k => evMs (lim T) (limM T) own k) (fun own k => evm T own k) kf ag ds q := by
  apply Option.ext
  intro r
  rw [limM_iff]
  constructor
  · rintro ⟨n, hn⟩
    cases n with
    | zero => simp [evM] at hn
    | succ n =>
      rw [evM_run, hT] at hn
      obtain ⟨L, a1, a2⟩ := runM_dep hn
      have h2 := a2 (lim T) (limM T) n (told_up T a1) (by omega)
      revert h2
      unfold runM
      split
      · split
        · split
          · split
            · rename_i m hm
              dsimp only
              intro h2
              cases hx : evMC (lim T) (limM T) false ds.length n _ (m.keep _) with
              | none => rw [hx] at h2; simp [outM, outA1] at h2
              | some e => rw [(evm_iff T _ _ _ _ _).2 ⟨n, hx⟩, ← hx]; exact h2
            · simp
          · simp
        · split
          · dsimp only
            intro h2
            rename_i k fl es
            cases hx : evMC (lim T) (limM T) true k n _ ⟨⟨[(1, .d (.int .i64 q))], [], []⟩, [(0, .lst)], es⟩ with
            | none => rw [hx] at h2; simp [outM, outL1] at h2
            | some e => rw [(evm_iff T _ _ _ _ _).2 ⟨n, hx⟩, ← hx]; exact h2
          · simp
      · simp
  · intro h
    have key : ∃ n, runM (fun own k => evMs (lim T) (limM T) own k) (fun own k => evMC (lim T) (limM T) own k n) kf ag ds q = some r := by
      revert h
      unfold runM
      split
      · split
        · split
          · split
            · rename_i m hm
              dsimp only
              intro h2
              cases hx : evm T false ds.length _ (m.keep _) with
              | none => rw [hx] at h2; simp [outM, outA1] at h2
              | some e => obtain ⟨n, hn⟩ := (evm_iff T _ _ _ _ _).1 hx; exact ⟨n, by rw [hn, ← hx]; exact h2⟩
            · simp
          · simp
        · split
          · dsimp only
            intro h2
            rename_i k fl es
            cases hx : evm T true k _ ⟨⟨[(1, .d (.int .i64 q))], [], []⟩, [(0, .lst)], es⟩ with
            | none => rw [hx] at h2; simp [outM, outL1] at h2
            | some e => obtain ⟨n, hn⟩ := (evm_iff T _ _ _ _ _).1 hx; exact ⟨n, by rw [hn, ← hx]; exact h2⟩
          · simp
      · simp
    obtain ⟨n, hn⟩ := key
    obtain ⟨L, a1, a2⟩ := runM_dep hn
    obtain ⟨m, hm⟩ := told_lim T L a1
    refine ⟨max n m + 1, ?_⟩
    rw [evM_run, hT]
    exact a2 _ _ (max n m) (hm _ (by omega)) (by omega)
end
end Go.Proofs.Ytmaigpiappmpcaa
