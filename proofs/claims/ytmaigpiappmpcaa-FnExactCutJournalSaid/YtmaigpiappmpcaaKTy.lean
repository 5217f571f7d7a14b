/-
  Types of plain data, and what the families of functions over them reckon: sizes, marks. No program is named here.
-/
import Derived.Test.YtmaigpiappmpcaaKEv
namespace Go.Proofs.Ytmaigpiappmpcaa
set_option linter.unusedVariables false
set_option linter.unusedSimpArgs false
open Go.RowKit

inductive Ty where
  | int
  | bool
  | str
  | list (t : Nat)
def Ty.plain : Ty → Bool
  | .list _ => false
  | _ => true
/-- the cells of each type of elements -/
def lay : Nat → List Ty
  | 0 => [.str]
  | 1 => [.str, .list 0, .int, .bool]
  | 2 => [.str, .str, .list 2]
  | 3 => [.int, .str, .str, .list 3]
  | 4 => [.int, .int, .list 3]
  | 5 => [.list 2, .list 4]
  | 6 => [.int, .int]
  | 7 => [.int, .list 6, .list 0, .str, .str]
  | 8 => [.str, .str]
  | 9 => [.str, .list 8]
  | 10 => [.bool, .int, .list 9]
  | 11 => [.int, .int, .str, .bool, .int, .list 9, .list 11]
  | 12 => [.int, .str, .int, .list 6, .list 0, .str, .str, .list 0, .list 0, .str, .bool, .bool, .bool, .bool, .int, .int, .list 11, .list 11, .list 12]
  | 13 => [.list 2, .int, .int]
  | 14 => [.bool, .int, .int, .str, .list 2]
  | 15 => [.list 12, .list 2, .list 2, .int, .list 13, .bool, .int, .int, .str, .list 2]
  | _ => []
abbrev sStr : Nat := 0
abbrev sRule : Nat := 1
abbrev sNode : Nat := 2
abbrev sEdit : Nat := 3
abbrev sChange : Nat := 4
abbrev sJournal : Nat := 5
abbrev sRange : Nat := 6
abbrev sType : Nat := 7
abbrev sTest : Nat := 8
abbrev sStep : Nat := 9
abbrev sPath : Nat := 10
abbrev sExpr : Nat := 11
abbrev sSchema : Nat := 12
abbrev sVersion : Nat := 13
abbrev sPending : Nat := 14
abbrev sStore : Nat := 15
abbrev kw (t : Nat) : Nat := (lay t).length
abbrev flT (t : Nat) : Bool := (lay t).all Ty.plain
/-- so long may a list be -/
abbrev big : Nat := 2147483648

mutual
/-- a datum of a type; no list is longer than B -/
def Ok (B : Nat) : Ty → D → Prop
  | .int, .int k n => k = .i64 ∧ -9223372036854775808 ≤ n ∧ n ≤ 9223372036854775807
  | .bool, .bool _ => True
  | .str, .str s => s.size ≤ maxLen
  | .list t, .list k f es => k = kw t ∧ f = flT t ∧ es.length ≤ B ∧ OkE B t es
  | _, _ => False
def OkC (B : Nat) : List Ty → List D → Prop
  | [], [] => True
  | t :: ts, d :: ds => Ok B t d ∧ OkC B ts ds
  | _, _ => False
def OkE (B : Nat) (t : Nat) : List (List D) → Prop
  | [] => True
  | e :: es => OkC B (lay t) e ∧ OkE B t es
end
section
variable {B : Nat}
theorem Ok.int_inv {d : D} (h : Ok B .int d) : ∃ n, d = .int .i64 n ∧ -9223372036854775808 ≤ n ∧ n ≤ 9223372036854775807 := by
  cases d <;> simp only [Ok] at h
  obtain ⟨rfl, h⟩ := h
  exact ⟨_, rfl, h⟩
theorem Ok.bool_inv {d : D} (h : Ok B .bool d) : ∃ b, d = .bool b := by
  cases d <;> simp only [Ok] at h
  exact ⟨_, rfl⟩
theorem Ok.str_inv {d : D} (h : Ok B .str d) : ∃ s, d = .str s ∧ s.size ≤ maxLen := by
  cases d <;> simp only [Ok] at h
  exact ⟨_, rfl, h⟩
theorem Ok.list_inv {t : Nat} {d : D} (h : Ok B (.list t) d) : ∃ es, d = .list (kw t) (flT t) es ∧ es.length ≤ B ∧ OkE B t es := by
  cases d <;> simp only [Ok] at h
  obtain ⟨rfl, rfl, h⟩ := h
  exact ⟨_, rfl, h⟩
theorem OkC.nil_inv {ds : List D} (h : OkC B [] ds) : ds = [] := by
  cases ds with
  | nil => rfl
  | cons d ds => simp [OkC] at h
theorem OkC.cons_inv {t : Ty} {ts : List Ty} {ds : List D} (h : OkC B (t :: ts) ds) : ∃ x xs, ds = x :: xs ∧ Ok B t x ∧ OkC B ts xs := by
  cases ds with
  | nil => simp [OkC] at h
  | cons d ds => simp only [OkC] at h; exact ⟨d, ds, rfl, h⟩
theorem OkE.mem {t : Nat} : ∀ {es : List (List D)}, OkE B t es → ∀ e ∈ es, OkC B (lay t) e
  | [], _, e, h => by simp at h
  | x :: es, ho, e, h => by
    simp only [OkE] at ho
    rcases List.mem_cons.1 h with rfl | h
    · exact ho.1
    · exact OkE.mem ho.2 e h
theorem nth_lt {α : Type} {l : List α} {i : Nat} (h : i < l.length) : nth l i = some l[i] := by rw [nth_get]; simp [h]
theorem nth_mem {α : Type} {l : List α} {i : Nat} {x : α} (h : nth l i = some x) : x ∈ l := by rw [nth_get] at h; exact List.mem_of_getElem? h
theorem OkE.nth_ {t : Nat} {es : List (List D)} {i : Nat} {e : List D} (ho : OkE B t es) (h : nth es i = some e) : OkC B (lay t) e := ho.mem e (nth_mem h)
theorem OkC.length {ts : List Ty} : ∀ {ds : List D}, OkC B ts ds → ds.length = ts.length := by
  induction ts with
  | nil => intro ds h; rw [h.nil_inv]; rfl
  | cons t ts ih => intro ds h; obtain ⟨x, xs, rfl, _, h2⟩ := h.cons_inv; simp [ih h2]
mutual
theorem Ok.mono {B B' : Nat} (hb : B ≤ B') : ∀ (t : Ty) (d : D), Ok B t d → Ok B' t d
  | .int, .int _ _, h => by simpa only [Ok] using h
  | .bool, .bool _, _ => by simp only [Ok]
  | .str, .str _, h => by simpa only [Ok] using h
  | .list t, .list k f es, h => by
    simp only [Ok] at h ⊢
    exact ⟨h.1, h.2.1, Nat.le_trans h.2.2.1 hb, OkE.mono hb t es h.2.2.2⟩
  | .int, .bool _, h | .int, .str _, h | .int, .list _ _ _, h | .bool, .int _ _, h | .bool, .str _, h | .bool, .list _ _ _, h | .str, .int _ _, h | .str, .bool _, h | .str, .list _ _ _, h | .list _, .int _ _, h | .list _, .bool _, h | .list _, .str _, h => by simp only [Ok] at h
theorem OkC.mono {B B' : Nat} (hb : B ≤ B') : ∀ (ts : List Ty) (ds : List D), OkC B ts ds → OkC B' ts ds
  | [], [], _ => by simp only [OkC]
  | t :: ts, d :: ds, h => by
    simp only [OkC] at h ⊢
    exact ⟨Ok.mono hb t d h.1, OkC.mono hb ts ds h.2⟩
  | [], _ :: _, h | _ :: _, [], h => by simp only [OkC] at h
theorem OkE.mono {B B' : Nat} (hb : B ≤ B') (t : Nat) : ∀ (es : List (List D)), OkE B t es → OkE B' t es
  | [], h => by simp only [OkE]
  | e :: es, h => by
    simp only [OkE] at h ⊢
    exact ⟨OkC.mono hb (lay t) e h.1, OkE.mono hb t es h.2⟩
end
end

mutual
def D.sz : D → Nat
  | .str s => s.size
  | .list _ _ es => es.length + szE es
  | _ => 0
def szC : List D → Nat
  | [] => 0
  | d :: ds => d.sz + szC ds
def szE : List (List D) → Nat
  | [] => 0
  | e :: es => szC e + szE es
end
mutual
/-- what is small holds no long list -/
theorem Ok.small {B B' : Nat} : ∀ (t : Ty) (d : D), Ok B t d → d.sz ≤ B' → Ok B' t d
  | .int, .int _ _, h, _ => by simpa only [Ok] using h
  | .bool, .bool _, _, _ => by simp only [Ok]
  | .str, .str _, h, _ => by simpa only [Ok] using h
  | .list t, .list k f es, h, hs => by
    simp only [Ok] at h ⊢
    simp only [D.sz] at hs
    exact ⟨h.1, h.2.1, by omega, OkE.small t es h.2.2.2 (by omega)⟩
  | .int, .bool _, h, _ | .int, .str _, h, _ | .int, .list _ _ _, h, _ | .bool, .int _ _, h, _ | .bool, .str _, h, _ | .bool, .list _ _ _, h, _ | .str, .int _ _, h, _ | .str, .bool _, h, _ | .str, .list _ _ _, h, _ | .list _, .int _ _, h, _ | .list _, .bool _, h, _ | .list _, .str _, h, _ => by simp only [Ok] at h
theorem OkC.small {B B' : Nat} : ∀ (ts : List Ty) (ds : List D), OkC B ts ds → szC ds ≤ B' → OkC B' ts ds
  | [], [], _, _ => by simp only [OkC]
  | t :: ts, d :: ds, h, hs => by
    simp only [OkC] at h ⊢
    simp only [szC] at hs
    exact ⟨Ok.small t d h.1 (by omega), OkC.small ts ds h.2 (by omega)⟩
  | [], _ :: _, h, _ | _ :: _, [], h, _ => by simp only [OkC] at h
theorem OkE.small {B B' : Nat} (t : Nat) : ∀ (es : List (List D)), OkE B t es → szE es ≤ B' → OkE B' t es
  | [], h, _ => by simp only [OkE]
  | e :: es, h, hs => by
    simp only [OkE] at h ⊢
    simp only [szE] at hs
    exact ⟨OkC.small (lay t) e h.1 (by omega), OkE.small t es h.2 (by omega)⟩
end
/-- what is left of a purse -/
def szr (n : Nat) (left : Int) : Int := if (n : Int) ≤ left then left - n else -1

/-- a list that is its own -/
abbrev orow (k : Nat) (fl : Bool) (es : List (List D)) : Row := ⟨es, k, fl, true, true, false⟩
def own : D → RV
  | .list k fl es => .row (orow k fl es)
  | d => .d d

/-! ### marks -/
def digs : Nat → Nat → ByteArray → ByteArray
  | 0, _, out => out
  | f + 1, n, out => if n = 0 then out else digs f (n / 10) (⟨#[UInt8.ofNat (48 + n % 10)]⟩ ++ out)
def mText (k : Int) : ByteArray := if k ≤ 0 then ⟨#[109, 48]⟩ else ⟨#[109]⟩ ++ digs 20 k.toNat ⟨#[]⟩
def mBool (q : Int) : Bool := decide (q % 3 = 0)
mutual
/-- how many marks -/
def D.mn : D → Nat
  | .list _ _ es => mnE es
  | _ => 1
def mnC : List D → Nat
  | [] => 0
  | d :: ds => d.mn + mnC ds
def mnE : List (List D) → Nat
  | [] => 0
  | e :: es => mnC e + mnE es
end
mutual
/-- a marked datum -/
def D.mk : D → Int → D
  | .int k _, q => .int k q
  | .bool _, q => .bool (mBool q)
  | .str _, q => .str (mText q)
  | .list k fl es, q => .list k fl (mkE es q)
def mkC : List D → Int → List D
  | [], _ => []
  | d :: ds, q => d.mk q :: mkC ds (q + d.mn)
def mkE : List (List D) → Int → List (List D)
  | [], _ => []
  | e :: es, q => mkC e q :: mkE es (q + mnC e)
end
/-- of a struct itself only the lists are marked -/
def D.mnA : D → Nat
  | .list _ _ es => mnE es
  | _ => 0
def mnA : List D → Nat
  | [] => 0
  | d :: ds => d.mnA + mnA ds
def D.mkA : D → Int → D
  | .list k fl es, q => .list k fl (mkE es q)
  | d, _ => d
def mkA : List D → Int → List D
  | [], _ => []
  | d :: ds, q => d.mkA q :: mkA ds (q + d.mnA)
theorem mkE_length : ∀ (es : List (List D)) (q : Int), (mkE es q).length = es.length
  | [], _ => by simp [mkE]
  | e :: es, q => by simp [mkE, mkE_length es]
theorem mkE_append : ∀ (a b : List (List D)) (q : Int), mkE (a ++ b) q = mkE a q ++ mkE b (q + mnE a)
  | [], b, q => by simp [mkE, mnE]
  | e :: a, b, q => by simp [mkE, mnE, mkE_append a b, Int.add_assoc]
theorem mnE_append : ∀ (a b : List (List D)), mnE (a ++ b) = mnE a + mnE b
  | [], b => by simp [mnE]
  | e :: a, b => by simp [mnE, mnE_append a b, Nat.add_assoc]
theorem szE_append : ∀ (a b : List (List D)), szE (a ++ b) = szE a + szE b
  | [], b => by simp [szE]
  | e :: a, b => by simp [szE, szE_append a b, Nat.add_assoc]
theorem nth_mkE : ∀ (es : List (List D)) (q : Int) (i : Nat) (e : List D), nth es i = some e → nth (mkE es q) i = some (mkC e (q + mnE (es.take i)))
  | [], _, _, _, h => by simp [nth] at h
  | x :: es, q, 0, e, h => by simp only [nth, Option.some.injEq] at h; subst h; simp [mkE, nth, mnE]
  | x :: es, q, i + 1, e, h => by
    simp only [nth] at h
    simp only [mkE, nth, List.take_succ_cons, mnE]
    rw [nth_mkE es _ i e h]
    congr 2
    omega
theorem take_succ_nth {α : Type} : ∀ (es : List α) (i : Nat) (e : α), nth es i = some e → es.take (i + 1) = es.take i ++ [e]
  | [], _, _, h => by simp [nth] at h
  | x :: es, 0, e, h => by simp only [nth, Option.some.injEq] at h; simp [h]
  | x :: es, i + 1, e, h => by simp only [nth] at h; simp [take_succ_nth es i e h]
theorem mnE_take_succ {es : List (List D)} {i : Nat} {e : List D} (h : nth es i = some e) : mnE (es.take (i + 1)) = mnE (es.take i) + mnC e := by
  rw [take_succ_nth es i e h, mnE_append]; simp [mnE]
theorem szE_take_succ {es : List (List D)} {i : Nat} {e : List D} (h : nth es i = some e) : szE (es.take (i + 1)) = szE (es.take i) + szC e := by
  rw [take_succ_nth es i e h, szE_append]; simp [szE]
theorem szE_take_le (es : List (List D)) (i : Nat) : szE (es.take i) ≤ szE es := by
  have := szE_append (es.take i) (es.drop i)
  rw [List.take_append_drop] at this
  omega
theorem mnE_take_le (es : List (List D)) (i : Nat) : mnE (es.take i) ≤ mnE es := by
  have := mnE_append (es.take i) (es.drop i)
  rw [List.take_append_drop] at this
  omega
/-- element i is put in its place -/
theorem fill_set {α : Type} : ∀ (es : List α) (z : α) (zs : List α) (i : Nat) (e : α), nth es i = some e → (es.take i ++ z :: zs).set i e = es.take (i + 1) ++ zs
  | [], _, _, _, _, h => by simp [nth] at h
  | x :: es, z, zs, 0, e, h => by
    simp only [nth, Option.some.injEq] at h
    subst h
    simp
  | x :: es, z, zs, i + 1, e, h => by
    simp only [nth] at h
    simp [fill_set es z zs i e h]
theorem fill_rep {α : Type} {es : List α} {z : α} {i : Nat} {e : α} (h : nth es i = some e) : (es.take i ++ List.replicate (es.length - i) z).set i e = es.take (i + 1) ++ List.replicate (es.length - (i + 1)) z := by
  have hl : i < es.length := by rw [nth_get] at h; exact (List.getElem?_eq_some_iff.1 h).1
  rw [show es.length - i = (es.length - (i + 1)) + 1 by omega, List.replicate_succ, fill_set es z _ i e h]
theorem nth_rep {α : Type} {es : List α} {z : α} {i : Nat} (hl : i < es.length) : nth (es.take i ++ List.replicate (es.length - i) z) i = some z := by
  rw [nth_get, List.getElem?_append_right (by simp; omega)]
  simp [List.getElem?_replicate]
  omega
theorem len_rep {α : Type} {es : List α} {z : α} {i : Nat} (hl : i ≤ es.length) : (es.take i ++ List.replicate (es.length - i) z).length = es.length := by
  simp; omega
end Go.Proofs.Ytmaigpiappmpcaa
