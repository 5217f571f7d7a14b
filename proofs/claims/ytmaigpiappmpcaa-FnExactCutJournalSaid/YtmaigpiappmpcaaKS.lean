/-
  The machine's equations as one set of rewrite rules. No program is named here.
-/
import Derived.Test.YtmaigpiappmpcaaKTy
import Derived.Attr
namespace Go.Proofs.Ytmaigpiappmpcaa
set_option linter.unusedVariables false
set_option linter.unusedSimpArgs false

/-! ### each step only where what it waits for is there -/
section
variable {cf : Cf} {mf : Mf}
@[go_sem] theorem thn_norm (g : St → Option (Ex × St)) (s : St) : thn g (some (.norm, s)) = g s := rfl
@[go_sem] theorem thn_exit (g : St → Option (Ex × St)) (i : Nat) (s : St) : thn g (some (.exit i, s)) = some (.exit i, s) := rfl
@[go_sem] theorem thn_ret (g : St → Option (Ex × St)) (s : St) : thn g (some (.ret, s)) = some (.ret, s) := rfl
@[go_sem] theorem thn_none (g : St → Option (Ex × St)) : thn g none = none := rfl
@[go_sem] theorem ife_true (x y : Option (Ex × St)) : ife (.d (.bool true)) x y = x := rfl
@[go_sem] theorem ife_false (x y : Option (Ex × St)) : ife (.d (.bool false)) x y = y := rfl
@[go_sem] theorem ife_dec (p : Prop) [Decidable p] (x y : Option (Ex × St)) : ife (.d (.bool (decide p))) x y = if p then x else y := by by_cases h : p <;> simp [h, ife]
@[go_sem] theorem ife_not (b : Bool) (x y : Option (Ex × St)) : ife (.d (.bool (!b))) x y = ife (.d (.bool b)) y x := by cases b <;> rfl
@[go_sem] theorem blk_norm (i : Nat) (s : St) : blk i (some (.norm, s)) = some (.norm, s) := rfl
@[go_sem] theorem blk_exit (i j : Nat) (s : St) : blk i (some (.exit j, s)) = if j = i then some (.norm, s) else some (.exit j, s) := rfl
@[go_sem] theorem blk_ret (i : Nat) (s : St) : blk i (some (.ret, s)) = some (.ret, s) := rfl
@[go_sem] theorem blk_none (i : Nat) : blk i none = none := rfl
@[go_sem] theorem nrm_some (kp : Keep) (s : St) : nrm kp (some s) = some (.norm, s.keep kp) := rfl
@[go_sem] theorem nrd_some (s : St) : nrd (some s) = some (.norm, s) := rfl
def leaveR (res : List KR) (args : List A) (s : St) : Option (List A × List A) :=
  match resAs s res, outAs s 0 args with
  | some (rs, l), some (outs, l') => if nodupB (l ++ l') then some (rs, outs) else none
  | _, _ => none
def finR (res : List KR) (args : List A) : Option (Ex × St) → Option (List A × List A)
  | some (.norm, s) => leaveR res args s
  | some (.ret, s) => leaveR res args s
  | _ => none
@[go_sem] theorem fin_norm (res : List KR) (as : List A) (s : St) : finR res as (some (.norm, s)) = leaveR res as s := rfl
@[go_sem] theorem fin_ret (res : List KR) (as : List A) (s : St) : finR res as (some (.ret, s)) = leaveR res as s := rfl
/-- a function, from its parts -/
theorem lim_fn {T : Nat → Option KF} {f np : Nat} {body : K} {res : List KR} (hT : T f = some ⟨np, body, res⟩) {args : List A} (hl : args.length = np) :
    lim T f args = finR res args (ev T mf0 body (enterAs 0 args ⟨[], [], []⟩)) := by
  rw [lim_run T hT]
  simp only [run, hl, if_true]
  generalize ev T mf0 body (enterAs 0 args ⟨[], [], []⟩) = x
  rcases x with _ | ⟨_ | _ | _, s⟩ <;> rfl
theorem run_fn {T : Nat → Option KF} {np : Nat} {body : K} {res : List KR} {args : List A} (hl : args.length = np) :
    run T mf ⟨np, body, res⟩ args = finR res args (ev T mf body (enterAs 0 args ⟨[], [], []⟩)) := by
  simp only [run, hl, if_true]
  generalize ev T mf body (enterAs 0 args ⟨[], [], []⟩) = x
  rcases x with _ | ⟨_ | _ | _, s⟩ <;> rfl
/-- a loop that counts up -/
theorem loop_up {T : Nat → Option KF} {body : K} (st : Nat → St) {n : Nat} {e : Ex} {s : St} (he : e ≠ .norm) (hend : ev T mf body (st n) = some (e, s)) (hstep : ∀ i, i < n → ev T mf body (st i) = some (.norm, st (i + 1))) :
    ∀ m i, i + m = n → ev T mf (.loop body) (st i) = some (e, s)
  | 0, i, h => by
    rw [ev_loop, show i = n by omega, hend]
    cases e with
    | norm => exact absurd rfl he
    | exit j => rfl
    | ret => rfl
  | m + 1, i, h => by
    rw [ev_loop, hstep i (by omega)]
    exact loop_up st he hend hstep m (i + 1) (by omega)
theorem loop0 {T : Nat → Option KF} {body : K} (st : Nat → St) (n : Nat) {e : Ex} {s : St} (he : e ≠ .norm) (hend : ev T mf body (st n) = some (e, s)) (hstep : ∀ i, i < n → ev T mf body (st i) = some (.norm, st (i + 1))) : ev T mf (.loop body) (st 0) = some (e, s) :=
  loop_up st he hend hstep n 0 (by omega)
@[go_sem] theorem short_val (ag : Bool) (cs : List RV) : A.short (.val ag cs) = decide (cs.length ≤ 30) := by
  simp only [A.short]
  by_cases h : cs.length ≤ 30
  · simp only [h, decide_true]; exact Nat.ble_eq_true_of_le h
  · simp only [h, decide_false]
    cases hb : Nat.ble cs.length 30 with
    | false => rfl
    | true => exact absurd (Nat.le_of_ble_eq_true hb) h
@[go_sem] theorem evOps_nil (s : St) : evOps cf mf [] s = some s := rfl
@[go_sem] theorem evOps_cons (i : KI) (is : List KI) (s : St) : evOps cf mf (i :: is) s = (evI cf mf s i).bind (evOps cf mf is) := by
  simp only [evOps]; cases evI cf mf s i <;> rfl
@[go_sem] theorem evI_none (s : St) (d : Option Nat) (o : KO) : evI cf mf s ⟨d, o, none⟩ = evO cf mf s d o := rfl
def gdn (cf : Cf) (mf : Mf) (s : St) (d : Option Nat) (o : KO) (w : Bool) : C → Option St
  | .d (.bool b) => if b = w then evO cf mf s d o else some (s.put d .und)
  | .und => some (s.put d .und)
  | _ => none
@[go_sem] theorem evI_some (s : St) (d : Option Nat) (o : KO) (g : Nat) (w : Bool) : evI cf mf s ⟨d, o, some (g, w)⟩ = gdn cf mf s d o w (s.get g) := by
  simp only [evI, gdn]; cases s.get g <;> rfl
@[go_sem] theorem gdn_tt (s : St) (d : Option Nat) (o : KO) : gdn cf mf s d o true (.d (.bool true)) = evO cf mf s d o := rfl
@[go_sem] theorem gdn_ff (s : St) (d : Option Nat) (o : KO) : gdn cf mf s d o false (.d (.bool false)) = evO cf mf s d o := rfl
@[go_sem] theorem gdn_tf (s : St) (d : Option Nat) (o : KO) : gdn cf mf s d o true (.d (.bool false)) = some (s.put d .und) := rfl
@[go_sem] theorem gdn_ft (s : St) (d : Option Nat) (o : KO) : gdn cf mf s d o false (.d (.bool true)) = some (s.put d .und) := rfl
@[go_sem] theorem gdn_und (s : St) (d : Option Nat) (o : KO) (w : Bool) : gdn cf mf s d o w .und = some (s.put d .und) := rfl
@[go_sem] theorem evDs_nil (kp : Keep) (tk : List (List Nat × Nat)) (s : St) : evDs cf mf kp .nil tk s = some (s.keep kp) := by simp only [evDs]
def lod (s : St) (d : Option Nat) (dn : List Nat) (tk : List (List Nat × Nat)) (k : List (List Nat × Nat) → St → Option St) : Option C → Option (Option Nat) → Option St
  | some c, some b => k (tkAdd dn tk b) (s.put d c)
  | _, _ => none
@[go_sem] theorem evDs_quiet (kp : Keep) (j : Nat) (al dn : List Nat) (d : Option Nat) (o : KO) (is : KT) (tk : List (List Nat × Nat)) (s : St) :
    evDs cf mf kp (.op ⟨j, true, al, dn, ⟨d, o, none⟩⟩ is) tk s = lod s d dn tk (evDs cf mf kp is) (evP s o) (ldBox s o) := by
  simp only [evDs, if_true, lod]; cases evP s o <;> cases ldBox s o <;> rfl
@[go_sem] theorem lod_some (s : St) (d : Option Nat) (dn : List Nat) (tk : List (List Nat × Nat)) (k : List (List Nat × Nat) → St → Option St) (c : C) (b : Option Nat) : lod s d dn tk k (some c) (some b) = k (tkAdd dn tk b) (s.put d c) := rfl
def lodg (s : St) (d : Option Nat) (o : KO) (dn : List Nat) (tk : List (List Nat × Nat)) (k : List (List Nat × Nat) → St → Option St) (w : Bool) : C → Option St
  | .d (.bool t) => if t = w then lod s d dn tk k (evP s o) (ldBox s o) else k tk (s.put d .und)
  | .und => k tk (s.put d .und)
  | _ => none
@[go_sem] theorem evDs_quiet_g (kp : Keep) (j : Nat) (al dn : List Nat) (d : Option Nat) (o : KO) (g : Nat) (w : Bool) (is : KT) (tk : List (List Nat × Nat)) (s : St) :
    evDs cf mf kp (.op ⟨j, true, al, dn, ⟨d, o, some (g, w)⟩⟩ is) tk s = lodg s d o dn tk (evDs cf mf kp is) w (s.get g) := by
  simp only [evDs, if_true, lodg]
  cases s.get g with
  | d x =>
    cases x with
    | bool t =>
      simp only [lod]
      split
      · cases evP s o <;> cases ldBox s o <;> rfl
      · rfl
    | _ => rfl
  | _ => rfl
section
variable (s : St) (d : Option Nat) (o : KO) (dn : List Nat) (tk : List (List Nat × Nat)) (k : List (List Nat × Nat) → St → Option St)
@[go_sem] theorem lodg_tt : lodg s d o dn tk k true (.d (.bool true)) = lod s d dn tk k (evP s o) (ldBox s o) := rfl
@[go_sem] theorem lodg_ff : lodg s d o dn tk k false (.d (.bool false)) = lod s d dn tk k (evP s o) (ldBox s o) := rfl
@[go_sem] theorem lodg_tf : lodg s d o dn tk k true (.d (.bool false)) = k tk (s.put d .und) := rfl
@[go_sem] theorem lodg_ft : lodg s d o dn tk k false (.d (.bool true)) = k tk (s.put d .und) := rfl
@[go_sem] theorem lodg_und (w : Bool) : lodg s d o dn tk k w .und = k tk (s.put d .und) := rfl
end
@[go_sem] theorem evDs_noisy (kp : Keep) (j : Nat) (al dn : List Nat) (i : KI) (is : KT) (tk : List (List Nat × Nat)) (s : St) :
    evDs cf mf kp (.op ⟨j, false, al, dn, i⟩ is) tk s = stepN cf mf ⟨j, false, al, dn, i⟩ tk s (evDs cf mf kp is) := by simp only [evDs, Bool.false_eq_true, if_false]
@[go_sem] theorem evDs_alt (kp : Keep) (x : KD) (is r : KT) (tk : List (List Nat × Nat)) (s : St) :
    evDs cf mf kp (.alt x is r) tk s = both (stepN cf mf x tk s (evDs cf mf kp is)) (evDs cf mf kp r tk s) := by simp only [evDs]
def stp (x : KD) (s : St) (tk : List (List Nat × Nat)) (k : List (List Nat × Nat) → St → Option St) : Option St → Option St
  | some s' => if tk.all (fun p => !(touch s x.i.dst x.i.op).contains p.2 && (look s'.bx p.2).isSome && !(x.i.dst == some p.2)) then k tk s' else none
  | none => none
@[go_sem] theorem stepN_eq (x : KD) (tk : List (List Nat × Nat)) (s : St) (k : List (List Nat × Nat) → St → Option St) : stepN cf mf x tk s k = stp x s (tkCut x.j tk) k (evI cf mf s x.i) := by
  simp only [stepN, stp]; cases evI cf mf s x.i <;> rfl
@[go_sem] theorem stp_nil (x : KD) (s s' : St) (k : List (List Nat × Nat) → St → Option St) : stp x s [] k (some s') = k [] s' := rfl
@[go_sem] theorem stp_cons (x : KD) (s s' : St) (p : List Nat × Nat) (tk : List (List Nat × Nat)) (k : List (List Nat × Nat) → St → Option St) : stp x s (p :: tk) k (some s') = if (p :: tk).all (fun p => !(touch s x.i.dst x.i.op).contains p.2 && (look s'.bx p.2).isSome && !(x.i.dst == some p.2)) then k (p :: tk) s' else none := rfl
@[go_sem] theorem both_same {α : Type} (a : α) : both (some a) (some a) = some a := by simp [both]
def rsl (s : St) (d : Option Nat) (cs : List C) : Option (List A × List A) → Option St
  | none => none
  | some (rs, outs) => if rs.all A.short then
        let s0 := if rs.all A.closed && outs.all A.closed then s else shareAll s (lentAll cs)
        let s1 := dropBoxes (dropRows s0 (movedAll s cs)) (boxesOf cs)
        let s2 := wback s1 cs outs
        let (l, s4) := resCells (d.getD 0) 0 rs s2
        some (s4.put d (match l with | [c] => c | l => .tup l))
        else none
def evCa (cf : Cf) (s : St) (d : Option Nat) (f : Nat) (cs : List C) : Option (List A) → Option St
  | some as => if nodupB (movedAll s cs) && nodupB (boxesOf cs) && (movedAll s cs).all (fun r => !(lentAll cs).contains r) then rsl s d cs (cf f as) else none
  | none => none
@[go_sem] theorem evCall_eq (s : St) (d : Option Nat) (f : Nat) (cs : List C) : evCall cf s d f cs = evCa cf s d f cs (toAs s cs) := by
  simp only [evCall, evCa]
  cases toAs s cs with
  | none => rfl
  | some as =>
    dsimp only
    split
    · cases cf f as with
      | none => rfl
      | some r => rfl
    · rfl
@[go_sem] theorem evCa_some (s : St) (d : Option Nat) (f : Nat) (cs : List C) (as : List A) : evCa cf s d f cs (some as) = if nodupB (movedAll s cs) && nodupB (boxesOf cs) && (movedAll s cs).all (fun r => !(lentAll cs).contains r) then rsl s d cs (cf f as) else none := rfl
@[go_sem] theorem rsl_some (s : St) (d : Option Nat) (cs : List C) (rs outs : List A) : rsl s d cs (some (rs, outs)) = if rs.all A.short then
        let s0 := if rs.all A.closed && outs.all A.closed then s else shareAll s (lentAll cs)
        let s1 := dropBoxes (dropRows s0 (movedAll s cs)) (boxesOf cs)
        let s2 := wback s1 cs outs
        let (l, s4) := resCells (d.getD 0) 0 rs s2
        some (s4.put d (match l with | [c] => c | l => .tup l))
        else none := rfl
end
attribute [go_sem] ev_seq ev_cond ev_block ev_reg ev_drw ev_ret ev_exit ev_skip ev_share ev_dat
attribute [go_sem] datS leaveR resAs resA outAs outA
attribute [go_sem] optI evO evP evN evX KO.pure_ KO.isLd ldBox touch tkAdd tkCut
attribute [go_sem] St.get St.put St.setBox St.setRow St.dropRow St.newBox St.newRow St.kill St.keep keepL look drp killS killB rid nth
attribute [go_sem] C.kill C.kills C.cells C.const C.cell C.isAgg emb embs plains D.plain binI binS binB binD rdCell wrCell mapO toA toAs rowsOf moved movedAll lentAll boxesOf RV.closed A.closed Row.share shareAll inCells wback resCells nodupB dropRows splC dropBoxes fillC rowsAll callIds cellM cellsM backM enterA enterAs appSrc
attribute [go_sem] List.length_cons List.length_nil List.map_cons List.map_nil List.all_cons List.all_nil List.filter_cons List.filter_nil List.append_nil List.nil_append List.cons_append List.take_succ_cons List.take_zero List.drop_succ_cons List.drop_zero List.drop_nil List.take_nil List.contains_cons List.contains_nil List.headD_cons
attribute [go_sem] Option.map_some Option.map_none Option.getD_some Option.getD_none Option.isSome_some Option.toList_some Option.bind_some
attribute [go_sem] Option.some_beq_some Option.none_beq_some
attribute [go_sem] if_true if_false Bool.and_true Bool.true_and Bool.and_false Bool.false_and Bool.not_true Bool.not_false Bool.or_true Bool.true_or Bool.or_false Bool.false_or and_true true_and and_false false_and
attribute [go_sem] Nat.zero_add Nat.add_zero Bool.false_eq_true ite_true ite_false decide_true decide_false Int.toNat_natCast Bool.true_eq_false beq_self_eq_true bne_self_eq_false imp_self false_imp_iff true_imp_iff
theorem wi {i n : Nat} (h : i < n) (hn : n ≤ maxLen) : IntKind.i64.wrap ((i : Int) + 1) = ((i + 1 : Nat) : Int) := by
  rw [i64_wrap (by simp [maxLen] at hn; omega)]; omega
theorem ilt {i n : Nat} (h : i < n) : ((i : Int) < (n : Int)) = True := by simp; omega
theorem nlt (n : Nat) : ((n : Int) < (n : Int)) = False := by simp
theorem szr_pos {n : Nat} {l : Int} (h : (n : Int) ≤ l) : szr n l = l - n := by simp [szr, h]
theorem szr_neg {n : Nat} {l : Int} (h : l < (n : Int)) : szr n l = -1 := by simp [szr]; omega
theorem szr_lt {n : Nat} {l : Int} (h0 : 0 ≤ l) (h : szr n l < 0) : l < (n : Int) := by unfold szr at h; split at h <;> omega
theorem szr_nn {n : Nat} {l : Int} (h : ¬ szr n l < 0) : szr n l = l - n ∧ (n : Int) ≤ l := by unfold szr at h ⊢; split at h <;> simp_all
theorem ret_int {a b : Int} (h : a = b) : some ([A.val false [RV.d (D.int .i64 a)]], ([] : List A)) = some ([A.val false [RV.d (D.int .i64 b)]], []) := by rw [h]
theorem OkC.drop {B : Nat} : ∀ (o : Nat) (ts : List Ty) (ds : List D), OkC B ts ds → OkC B (ts.drop o) (ds.drop o)
  | 0, _, _, h => by simpa using h
  | o + 1, [], [], h => by simpa using h
  | o + 1, t :: ts, d :: ds, h => by simp only [OkC] at h; simpa using OkC.drop o ts ds h.2
  | _, [], _ :: _, h | _, _ :: _, [], h => by simp only [OkC] at h
theorem OkC.take {B : Nat} : ∀ (o : Nat) (ts : List Ty) (ds : List D), OkC B ts ds → OkC B (ts.take o) (ds.take o)
  | 0, _, _, _ => by simp [OkC]
  | o + 1, [], [], h => by simpa using h
  | o + 1, t :: ts, d :: ds, h => by simp only [OkC] at h; simp only [List.take_succ_cons, OkC]; exact ⟨h.1, OkC.take o ts ds h.2⟩
  | _, [], _ :: _, h | _, _ :: _, [], h => by simp only [OkC] at h
theorem OkC.sub {B : Nat} (o m : Nat) {ts : List Ty} {ds : List D} (h : OkC B ts ds) : OkC B ((ts.drop o).take m) ((ds.drop o).take m) := OkC.take m _ _ (OkC.drop o _ _ h)
theorem size_in {k : Nat} {fl : Bool} {es : List (List D)} {ds e : List D} (h : D.list k fl es ∈ ds) (he : e ∈ es) : SizeOf.sizeOf e < SizeOf.sizeOf ds := by
  have h1 := List.sizeOf_lt_of_mem h
  have h2 := List.sizeOf_lt_of_mem he
  simp only [D.list.sizeOf_spec] at h1
  omega
theorem drop_nth {α : Type} : ∀ (es : List α) (i : Nat) (e : α), nth es i = some e → es.drop i = e :: es.drop (i + 1)
  | [], _, _, h => by simp [nth] at h
  | x :: es, 0, e, h => by simp only [nth, Option.some.injEq] at h; simp [h]
  | x :: es, i + 1, e, h => by simp only [nth] at h; simp [drop_nth es i e h]
/-- a loop that pays out of a purse -/
theorem loop_sz {T : Nat → Option KF} {mf : Mf} {body : K} {es : List (List D)} (st : Nat → Int → St) (fin : Int → St) (r : St)
    (hgo : ∀ i e l, nth es i = some e → 0 ≤ l → l ≤ 4611686018427387904 → (szC e : Int) ≤ l → ev T mf body (st i l) = some (.norm, st (i + 1) (l - szC e)))
    (hno : ∀ i e l, nth es i = some e → 0 ≤ l → l ≤ 4611686018427387904 → l < (szC e : Int) → ev T mf body (st i l) = some (.ret, r))
    (hend : ∀ l, 0 ≤ l → l ≤ 4611686018427387904 → ev T mf body (st es.length l) = some (.exit 0, fin l)) :
    ∀ (m i : Nat) (l : Int), i + m = es.length → 0 ≤ l → l ≤ 4611686018427387904 → ev T mf (.loop body) (st i l) = if (szE (es.drop i) : Int) ≤ l then some (.exit 0, fin (l - szE (es.drop i))) else some (.ret, r)
  | 0, i, l, h, h0, h1 => by
    obtain rfl : i = es.length := by omega
    rw [ev_loop, hend l h0 h1, List.drop_length]
    simp [szE, h0, thn]
  | m + 1, i, l, h, h0, h1 => by
    have hn := nth_lt (l := es) (i := i) (by omega)
    rw [drop_nth es i _ hn, szE, ev_loop]
    by_cases c : (szC es[i] : Int) ≤ l
    · rw [hgo i _ l hn h0 h1 c]
      simp only [thn]
      rw [loop_sz st fin r hgo hno hend m (i + 1) _ (by omega) (by omega) (by omega)]
      by_cases d : (szE (es.drop (i + 1)) : Int) ≤ l - szC es[i]
      · rw [if_pos d, if_pos (by omega), show l - (szC es[i] : Int) - (szE (es.drop (i + 1)) : Int) = l - ((szC es[i] + szE (es.drop (i + 1)) : Nat) : Int) by omega]
      · rw [if_neg d, if_neg (by omega)]
    · rw [hno i _ l hn h0 h1 (by omega), if_neg (by omega)]
      rfl
theorem szE_zero : ∀ (es : List (List D)), (∀ e ∈ es, szC e = 0) → szE es = 0
  | [], _ => rfl
  | e :: es, h => by rw [szE, h e (by simp), szE_zero es (fun e he => h e (by simp [he]))]
theorem szr_fin {n : Nat} {l m : Int} (h : (n : Int) = l - m) (hm : 0 ≤ m) : szr n l = m := by rw [szr_pos (by omega)]; omega
theorem size_in2 {k : Nat} {fl : Bool} {x es : List (List D)} {e : List D} (h : D.list k fl x ∈ e) (he : e ∈ es) : SizeOf.sizeOf x < SizeOf.sizeOf es := by
  have h1 := List.sizeOf_lt_of_mem h
  have h2 := List.sizeOf_lt_of_mem he
  simp only [D.list.sizeOf_spec] at h1
  omega
/-- a loop that looks whether two lists are the same -/
theorem loop_same {T : Nat → Option KF} {mf : Mf} {body : K} {es es' : List (List D)} (st : Nat → St) (fin r : St) {n : Nat} (hn : es.length = n) (hn' : es'.length = n)
    (hgo : ∀ i e, nth es i = some e → nth es' i = some e → ev T mf body (st i) = some (.norm, st (i + 1)))
    (hno : ∀ i e e', nth es i = some e → nth es' i = some e' → e ≠ e' → ev T mf body (st i) = some (.ret, r))
    (hend : ev T mf body (st n) = some (.exit 0, fin)) :
    ∀ m i, i + m = n → (es.drop i = es'.drop i → ev T mf (.loop body) (st i) = some (.exit 0, fin)) ∧ (es.drop i ≠ es'.drop i → ev T mf (.loop body) (st i) = some (.ret, r))
  | 0, i, h => by
    obtain rfl : i = n := by omega
    refine ⟨fun _ => by rw [ev_loop, hend]; rfl, fun hne => absurd ?_ hne⟩
    rw [List.drop_of_length_le (by omega), List.drop_of_length_le (by omega)]
  | m + 1, i, h => by
    have a1 := nth_lt (l := es) (i := i) (by omega)
    have a2 := nth_lt (l := es') (i := i) (by omega)
    have ih := loop_same st fin r hn hn' hgo hno hend m (i + 1) (by omega)
    rw [drop_nth es i _ a1, drop_nth es' i _ a2, ev_loop]
    by_cases he : es[i]'(by omega) = es'[i]'(by omega)
    · rw [hgo i _ a1 (by rw [a2, he])]
      simp only [thn, he, List.cons.injEq, true_and, ne_eq]
      exact ih
    · rw [hno i _ _ a1 a2 he]
      refine ⟨fun h => absurd (List.cons.inj h).1 he, fun _ => rfl⟩
end Go.Proofs.Ytmaigpiappmpcaa
