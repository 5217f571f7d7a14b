/-
  The machine for marks, as rewrite rules. No program is named here.
-/
import Derived.Test.YtmaigpiappmpcaaKS
namespace Go.Proofs.Ytmaigpiappmpcaa
set_option linter.unusedVariables false
set_option linter.unusedSimpArgs false

section
variable {cf : Cf} {mf : Mf} {own : Bool} {k : Nat}
@[go_sem] theorem thnM_norm (g : MS → Option (Ex × MS)) (s : MS) : thnM g (some (.norm, s)) = g s := rfl
@[go_sem] theorem thnM_exit (g : MS → Option (Ex × MS)) (i : Nat) (s : MS) : thnM g (some (.exit i, s)) = some (.exit i, s) := rfl
@[go_sem] theorem thnM_ret (g : MS → Option (Ex × MS)) (s : MS) : thnM g (some (.ret, s)) = some (.ret, s) := rfl
@[go_sem] theorem ifM_true (x y : Option (Ex × MS)) : ifM (.d (.bool true)) x y = x := rfl
@[go_sem] theorem ifM_false (x y : Option (Ex × MS)) : ifM (.d (.bool false)) x y = y := rfl
@[go_sem] theorem blkM_norm (i : Nat) (s : MS) : blkM i (some (.norm, s)) = some (.norm, s) := rfl
@[go_sem] theorem blkM_exit (i j : Nat) (s : MS) : blkM i (some (.exit j, s)) = if j = i then some (.norm, s) else some (.exit j, s) := rfl
@[go_sem] theorem nrmM_some (kp : Keep) (s : MS) : nrmM kp (some s) = some (.norm, s.keep kp) := rfl
@[go_sem] theorem evMs_nil (s : MS) : evMs cf mf own k [] s = some s := rfl
@[go_sem] theorem evMs_cons (i : KI) (is : List KI) (s : MS) : evMs cf mf own k (i :: is) s = (evMI cf mf own k s i).bind (evMs cf mf own k is) := by
  simp only [evMs]; cases evMI cf mf own k s i <;> rfl
@[go_sem] theorem evMI_some (s : MS) (d : Nat) (o : KO) : evMI cf mf own k s ⟨some d, o, none⟩ = evM1 cf mf k s d o := rfl
@[go_sem] theorem evMI_none (s : MS) (o : KO) : evMI cf mf own k s ⟨none, o, none⟩ = evM0 own s o := rfl
def mpc (m : MS) (d : Nat) : Option (List A × List A) → Option MS
  | some ([.val false [.d r]], []) => if D.plain r then some (m.put d (.d r)) else none
  | _ => none
def mpa (cf : Cf) (m : MS) (d f : Nat) : Option (List A) → Option MS
  | some as => mpc m d (cf f as)
  | none => none
@[go_sem] theorem evMp_eq (m : MS) (d f : Nat) (xs : List KX) : evMp cf m d f xs = mpa cf m d f (plainA (xs.map (evX m.s))) := by
  unfold evMp mpa mpc; rfl
@[go_sem] theorem mpa_some (m : MS) (d f : Nat) (as : List A) : mpa cf m d f (some as) = mpc m d (cf f as) := rfl
@[go_sem] theorem mpc_some (m : MS) (d : Nat) (r : D) : mpc m d (some ([.val false [.d r]], [])) = if D.plain r then some (m.put d (.d r)) else none := rfl
def mmh (m : MS) (d i o : Nat) : Option (List D × Int) → Option MS
  | some ([x'], q') => some ((m.set i o [x']).put d (.d (.int .i64 q')))
  | _ => none
def mml (mf : Mf) (m : MS) (d f i o : Nat) (q : Int) : Option D → Option MS
  | some (.list k fl es) => mmh m d i o (mf f false [.list k fl es] q)
  | _ => none
@[go_sem] theorem evMm_hd (m : MS) (d f i o : Nat) (q : Int) : evMm mf m d f (.hd i o) (.d (.int .i64 q)) = mml mf m d f i o q (m.at_ i o) := by
  unfold evMm mml mmh; rfl
@[go_sem] theorem mml_list (m : MS) (d f i o : Nat) (q : Int) (k : Nat) (fl : Bool) (es : List (List D)) : mml mf m d f i o q (some (.list k fl es)) = mmh m d i o (mf f false [.list k fl es] q) := rfl
@[go_sem] theorem mmh_some (m : MS) (d i o : Nat) (x' : D) (q' : Int) : mmh m d i o (some ([x'], q')) = some ((m.set i o [x']).put d (.d (.int .i64 q'))) := rfl
def mms (m : MS) (d i o n : Nat) (e : List D) : Option (List D × Int) → Option MS
  | some (xs, q') => if o + n ≤ e.length ∧ xs.length = n then some ((m.set i o xs).put d (.d (.int .i64 q'))) else none
  | none => none
def mmb (mf : Mf) (m : MS) (d f i o n : Nat) (q : Int) : Option (List D) → Option MS
  | some e => mms m d i o n e (mf f true ((e.drop o).take n) q)
  | none => none
@[go_sem] theorem evMm_sub (m : MS) (d f i o n : Nat) (q : Int) : evMm mf m d f (.sub i o n) (.d (.int .i64 q)) = mmb mf m d f i o n q (nth m.es i) := by
  unfold evMm mmb mms; rfl
@[go_sem] theorem mmb_some (m : MS) (d f i o n : Nat) (q : Int) (e : List D) : mmb mf m d f i o n q (some e) = mms m d i o n e (mf f true ((e.drop o).take n) q) := rfl
@[go_sem] theorem mms_some (m : MS) (d i o n : Nat) (e xs : List D) (q' : Int) : mms m d i o n e (some (xs, q')) = if o + n ≤ e.length ∧ xs.length = n then some ((m.set i o xs).put d (.d (.int .i64 q'))) else none := rfl
end
attribute [go_sem] evm_seq evm_cond evm_block evm_reg evm_ret evm_exit evm_skip
attribute [go_sem] MC.noSub MS.spx MS.put MS.putS MS.set MS.noSub MS.keep MS.at_ plainA evM1 evM0 outM outA1 outL1
theorem limM_list {T : Nat → Option KF} {f r : Nat} {body : K} (hT : T f = some ⟨2, body, [.t r]⟩) {k : Nat} {fl : Bool} {es : List (List D)} {q : Int} :
    limM T f false [.list k fl es] q = outL1 k fl (outM r (evm T true k body ⟨⟨[(1, .d (.int .i64 q))], [], []⟩, [(0, .lst)], es⟩)) := by
  rw [limM_run T hT]; rfl
noncomputable def aggM (T : Nat → Option KF) (r : Nat) (cells : List D) (body : K) (kp : Keep) : Option MS → Option (List D × Int)
  | some m => outA1 cells (outM r (evm T false cells.length body (m.keep kp)))
  | none => none
@[go_sem] theorem aggM_some (T : Nat → Option KF) (r : Nat) (cells : List D) (body : K) (kp : Keep) (m : MS) : aggM T r cells body kp (some m) = outA1 cells (outM r (evm T false cells.length body (m.keep kp))) := rfl
theorem limM_agg {T : Nat → Option KF} {f r b : Nat} {is : List KI} {kp : Keep} {body : K} (hT : T f = some ⟨2, .seq (.reg (⟨some b, .box (.s 0), none⟩ :: is) kp) body, [.t r]⟩) {cells : List D} {q : Int} :
    limM T f true cells q = aggM T r cells body kp (evMs (lim T) (limM T) false cells.length is (MS.putS ⟨⟨[(1, .d (.int .i64 q))], [], []⟩, [], [cells]⟩ b (.ep 0 0))) := by
  rw [limM_run T hT]
  unfold runM aggM
  dsimp only
  simp only [if_true]
  cases evMs (lim T) (limM T) false cells.length is (MS.putS ⟨⟨[(1, .d (.int .i64 q))], [], []⟩, [], [cells]⟩ b (.ep 0 0)) <;> rfl
theorem loopM {T : Nat → Option KF} {own : Bool} {k : Nat} {body : K} (st : Nat → MS) {n : Nat} {s : MS} (hend : evm T own k body (st n) = some (.exit 0, s)) (hstep : ∀ i, i < n → evm T own k body (st i) = some (.norm, st (i + 1))) :
    ∀ m i, i + m = n → evm T own k (.loop body) (st i) = some (.exit 0, s)
  | 0, i, h => by rw [evm_loop, show i = n by omega, hend]; rfl
  | m + 1, i, h => by
    rw [evm_loop, hstep i (by omega)]
    exact loopM st hend hstep m (i + 1) (by omega)
theorem loopM0 {T : Nat → Option KF} {own : Bool} {k : Nat} {body : K} (st : Nat → MS) (n : Nat) {s : MS} (hend : evm T own k body (st n) = some (.exit 0, s)) (hstep : ∀ i, i < n → evm T own k body (st i) = some (.norm, st (i + 1))) : evm T own k (.loop body) (st 0) = some (.exit 0, s) :=
  loopM st hend hstep n 0 (by omega)

/-! ### half-marked lists -/
theorem mk_nth {es : List (List D)} {i : Nat} {e : List D} (q : Int) (h : nth es i = some e) : nth (mkE (es.take i) q ++ es.drop i) i = some e := by
  have hl : i < es.length := by rw [nth_get] at h; exact (List.getElem?_eq_some_iff.1 h).1
  rw [nth_get, List.getElem?_append_right (by rw [mkE_length]; simp; omega), mkE_length, List.length_take, Nat.min_eq_left (by omega), Nat.sub_self, drop_nth es i e h]
  rfl
theorem mk_len {es : List (List D)} {i : Nat} (q : Int) (hl : i ≤ es.length) : (mkE (es.take i) q ++ es.drop i).length = es.length := by
  rw [List.length_append, mkE_length]; simp; omega
theorem mk_set {es : List (List D)} {i : Nat} {e : List D} (q : Int) (h : nth es i = some e) (x : List D) : (mkE (es.take i) q ++ es.drop i).set i x = mkE (es.take i) q ++ x :: es.drop (i + 1) := by
  have hl : i < es.length := by rw [nth_get] at h; exact (List.getElem?_eq_some_iff.1 h).1
  rw [List.set_append_right _ _ (by rw [mkE_length]; simp; omega), mkE_length, List.length_take, Nat.min_eq_left (by omega), Nat.sub_self, drop_nth es i e h]
  rfl
theorem mk_nth' {es : List (List D)} {i : Nat} (q : Int) (hl : i < es.length) (x : List D) (t : List (List D)) : nth (mkE (es.take i) q ++ x :: t) i = some x := by
  rw [nth_get, List.getElem?_append_right (by rw [mkE_length]; simp; omega), mkE_length, List.length_take, Nat.min_eq_left (by omega), Nat.sub_self]
  rfl
theorem mk_len' {es : List (List D)} {i : Nat} (q : Int) (hl : i < es.length) (x : List D) : (mkE (es.take i) q ++ x :: es.drop (i + 1)).length = es.length := by
  rw [List.length_append, mkE_length]; simp; omega
theorem mk_set' {es : List (List D)} {i : Nat} (q : Int) (hl : i < es.length) (x y : List D) (t : List (List D)) : (mkE (es.take i) q ++ x :: t).set i y = mkE (es.take i) q ++ y :: t := by
  rw [List.set_append_right _ _ (by rw [mkE_length]; simp; omega), mkE_length, List.length_take, Nat.min_eq_left (by omega), Nat.sub_self]
  rfl
theorem mk_end {es : List (List D)} {i : Nat} {e : List D} (q : Int) (h : nth es i = some e) : mkE (es.take i) q ++ mkC e (q + mnE (es.take i)) :: es.drop (i + 1) = mkE (es.take (i + 1)) q ++ es.drop (i + 1) := by
  rw [take_succ_nth es i e h, mkE_append]
  simp [mkE]
theorem size1 (b : UInt8) : (⟨#[b]⟩ : ByteArray).size = 1 := rfl
theorem digs_size : ∀ (f n : Nat) (out : ByteArray), (digs f n out).size ≤ out.size + f
  | 0, n, out => by simp [digs]
  | f + 1, n, out => by
    simp only [digs]
    split
    · omega
    · have := digs_size f (n / 10) (⟨#[UInt8.ofNat (48 + n % 10)]⟩ ++ out)
      rw [ByteArray.size_append, size1] at this
      omega
theorem mText_small (k : Int) : (mText k).size ≤ 30 := by
  unfold mText
  split
  · exact (by decide : (2 : Nat) ≤ 30)
  · rw [ByteArray.size_append, size1]
    have := digs_size 20 k.toNat ⟨#[]⟩
    have h0 : (⟨#[]⟩ : ByteArray).size = 0 := rfl
    omega
@[go_sem] theorem mBool_eq (q : Int) : decide (q % 3 = 0) = mBool q := rfl
theorem lay_small (t : Nat) : (lay t).length ≤ 32 := by unfold lay; split <;> simp
mutual
/-- small data bear few marks -/
theorem mnD_le {B : Nat} : ∀ (t : Ty) (d : D), Ok B t d → d.mn ≤ 1 + 32 * d.sz
  | .int, .int _ _, _ => by simp [D.mn]
  | .bool, .bool _, _ => by simp [D.mn]
  | .str, .str _, _ => by simp [D.mn]
  | .list t, .list k f es, h => by
    simp only [Ok] at h
    have := mnE_le t es h.2.2.2
    simp only [D.mn, D.sz]
    omega
  | .int, .bool _, h | .int, .str _, h | .int, .list _ _ _, h | .bool, .int _ _, h | .bool, .str _, h | .bool, .list _ _ _, h | .str, .int _ _, h | .str, .bool _, h | .str, .list _ _ _, h | .list _, .int _ _, h | .list _, .bool _, h | .list _, .str _, h => by simp only [Ok] at h
theorem mnC_le {B : Nat} : ∀ (ts : List Ty) (ds : List D), OkC B ts ds → mnC ds ≤ ts.length + 32 * szC ds
  | [], [], _ => by simp [mnC]
  | t :: ts, d :: ds, h => by
    simp only [OkC] at h
    have h1 := mnD_le t d h.1
    have h2 := mnC_le ts ds h.2
    simp only [mnC, szC, List.length_cons]
    omega
  | [], _ :: _, h | _ :: _, [], h => by simp only [OkC] at h
theorem mnE_le {B : Nat} (t : Nat) : ∀ (es : List (List D)), OkE B t es → mnE es ≤ 32 * es.length + 32 * szE es
  | [], _ => by simp [mnE]
  | e :: es, h => by
    simp only [OkE] at h
    have h1 := mnC_le (lay t) e h.1
    have h2 := mnE_le t es h.2
    have h3 := lay_small t
    simp only [mnE, szE, List.length_cons]
    omega
end
end Go.Proofs.Ytmaigpiappmpcaa
