/-
  A machine over plain data: the small language K, its values C, and what a piece of K does (evC, evF). It knows lists as values; a list that a function builds itself is a row of its own. No program is named here.
-/
import Derived.Test.YtmaigpiappmpcaaKBase
namespace Go.Proofs.Ytmaigpiappmpcaa
set_option linter.unusedVariables false
set_option linter.unusedSimpArgs false

/-- a list under construction: deep: all that it holds is its own; app: it may grow; fz: its elements are settled -/
structure Row where
  es : List (List D)
  k : Nat
  fl : Bool
  deep : Bool
  app : Bool
  fz : Bool

inductive C where
  | d (x : D)
  | nil (k : Nat) (fl : Bool)
  | ref (r : Nat)
  | ptr (b o : Nat)
  | ept (r k i o : Nat)
  | dpt (cs : List D)
  | agg (cs : List C)
  | tup (cs : List C)
  | und
  | any
instance : Inhabited C := ⟨.any⟩

mutual
def C.kill (i : Nat) : C → C
  | .ref r => if r = i then .any else .ref r
  | .ptr b o => if b = i then .any else .ptr b o
  | .ept r k a o => if r = i then .any else .ept r k a o
  | .agg cs => .agg (C.kills i cs)
  | .tup cs => .tup (C.kills i cs)
  | c => c
def C.kills (i : Nat) : List C → List C
  | [] => []
  | c :: cs => C.kill i c :: C.kills i cs
end

/-- a value between functions -/
inductive RV where
  | d (x : D)
  | row (r : Row)
inductive A where
  | val (agg : Bool) (cs : List RV)
  | box (cs : List RV)

structure St where
  sl : List (Nat × C)
  bx : List (Nat × List C)
  rw : List (Nat × Row)

def look {α : Type} : List (Nat × α) → Nat → Option α
  | [], _ => none
  | (k, x) :: l, d => if k = d then some x else look l d
def drp {α : Type} (l : List (Nat × α)) (d : Nat) : List (Nat × α) := l.filter (fun p => p.1 != d)
def killS (i : Nat) (l : List (Nat × C)) : List (Nat × C) := l.map fun p => (p.1, p.2.kill i)
def killB (i : Nat) (l : List (Nat × List C)) : List (Nat × List C) := l.map fun p => (p.1, C.kills i p.2)
def St.kill (s : St) (i : Nat) : St := ⟨killS i s.sl, killB i s.bx, s.rw⟩
def St.get (s : St) (d : Nat) : C := (look s.sl d).getD .any
def St.put (s : St) (dst : Option Nat) (c : C) : St :=
  match dst with
  | some d => { s with sl := (d, c) :: s.sl }
  | none => s
def St.setBox (s : St) (b : Nat) (cs : List C) : St := { s with bx := (b, cs) :: drp s.bx b }
def St.setRow (s : St) (r : Nat) (x : Row) : St := { s with rw := (r, x) :: drp s.rw r }
def St.dropRow (s : St) (r : Nat) : St := { s with rw := drp s.rw r }
def St.newBox (s : St) (b : Nat) (cs : List C) : St := (s.kill b).setBox b cs
def St.newRow (s : St) (r : Nat) (x : Row) : St := (s.kill r).setRow r x
/-- where the row of cell j at place d is kept -/
def rid (d j : Nat) : Nat := 1000 * (d + 1) + j

inductive KX where
  | s (d : Nat)
  | k (c : C)
def evX (s : St) : KX → C
  | .s d => s.get d
  | .k c => c
def C.cells : C → List C
  | .agg cs => cs
  | c => [c]
def nth {α : Type} : List α → Nat → Option α
  | [], _ => none
  | x :: _, 0 => some x
  | _ :: l, i + 1 => nth l i
def C.const : C → Bool
  | .d x => D.plain x
  | .nil _ _ => true
  | _ => false
/-- one cell that may stand in a box -/
def C.cell : C → Bool
  | .d _ => true
  | .nil _ _ => true
  | .ref _ => true
  | _ => false

/-- cells as plain data of a row's element; rows among them are taken in. The flag: all is the row's own -/
def emb : St → List C → Option (List D × Bool × St)
  | s, [] => some ([], true, s)
  | s, c :: cs =>
    match c with
    | .d x => (emb s cs).map fun (ds, dp, s') => (x :: ds, D.plain x && dp, s')
    | .nil k fl => (emb s cs).map fun (ds, dp, s') => (.list k fl [] :: ds, dp, s')
    | .ref r =>
      match look s.rw r with
      | some x => (emb (s.dropRow r) cs).map fun (ds, dp, s') => (.list x.k x.fl x.es :: ds, x.deep && !x.fz && dp, s')
      | none => none
    | _ => none
def plains (ds : List D) : Bool := ds.all D.plain
/-- elements of a new row -/
def embs (k : Nat) (fl : Bool) : St → List C → Option (List (List D) × Bool × St)
  | s, [] => some ([], true, s)
  | s, c :: cs =>
    match emb s c.cells with
    | some (ds, dp, s1) => if ds.length = k ∧ (fl = true → plains ds = true) then (embs k fl s1 cs).map fun (es, dp', s') => (ds :: es, dp && dp', s') else none
    | none => none

def room : Nat := 140737488355328

inductive KO where
  | mv (x : KX)
  | pick (c x y : KX)
  | alloc (zs : List C)
  | box (x : KX)
  | build (zs : List C) (ps : List (Nat × Nat × KX))
  | mkrow (k : Nat) (fl : Bool) (xs : List KX)
  | make (k by_ : Nat) (fl : Bool) (zs : List D) (x : KX)
  | ld (n : Nat) (x : KX)
  | st (n : Nat) (x y : KX)
  | fa (o : Nat) (x : KX)
  | ia (k : Nat) (x i : KX)
  | six (x i : KX)
  | bin (op : BinOp) (x y : KX)
  | bib (op : BinOp) (x y : KX)
  | not (x : KX)
  | neg (x : KX)
  | conv (k : IntKind) (x : KX)
  | len (x : KX)
  | sln (x : KX)
  | app (k by_ : Nat) (fl : Bool) (x y : KX)
  | min (x y : KX)
  | max (x y : KX)
  | ext (x : KX) (i : Nat)
  | slc (x hi : KX)
  | nck (x : KX)
  | bts (x : KX)
  | call (f : Nat) (xs : List KX)
  | mrk (f : Nat) (x y : KX)
  | cut (k : Nat) (x : KX) (lo hi : Option KX)

structure KI where
  dst : Option Nat
  op : KO
  gd : Option (Nat × Bool)

/-- an entry of a region that draws its order: the operation's number, whether it is quiet, what waits for it, and those of them that write -/
structure KD where
  j : Nat
  q : Bool
  al : List Nat
  dn : List Nat
  i : KI

/-- an order of them; alt: this one first, or else another way -/
inductive KT where
  | nil
  | op (x : KD) (t : KT)
  | alt (x : KD) (t r : KT)

/-- what lives on behind a region: slots, boxes, rows -/
structure Keep where
  s : List Nat
  b : List Nat
  r : List Nat

inductive K where
  | skip
  | reg (ops : List KI) (kp : Keep)
  | drw (ops : KT) (kp : Keep)
  | seq (a b : K)
  | cond (c : KX) (a b : K)
  | block (id : Nat) (a : K)
  | loop (a : K)
  | exit (id : Nat)
  | ret
  | share (r : Nat) (a : K)
  | dat (d : Nat) (a : K)

inductive Ex where
  | norm
  | exit (id : Nat)
  | ret

def binI (op : BinOp) (k : IntKind) (a b : Int) : Option D :=
  match op with
  | .add => some (.int k (k.wrap (a + b)))
  | .sub => some (.int k (k.wrap (a - b)))
  | .mul => some (.int k (k.wrap (a * b)))
  | .lss => some (.bool (decide (a < b)))
  | .leq => some (.bool (decide (a ≤ b)))
  | .gtr => some (.bool (decide (b < a)))
  | .geq => some (.bool (decide (b ≤ a)))
  | .eql => some (.bool (decide (a = b)))
  | .neq => some (.bool (!decide (a = b)))
  | .quo => if k = .i64 ∧ 0 ≤ a ∧ 1 ≤ b then some (.int k (a / b)) else none
  | .rem => if k = .i64 ∧ 0 ≤ a ∧ 1 ≤ b then some (.int k (a % b)) else none
  | _ => none
def binS (op : BinOp) (a b : ByteArray) : Option D :=
  match op with
  | .add => if a.size + b.size ≤ maxLen then some (.str (a ++ b)) else none
  | .eql => some (.bool (decide (a = b)))
  | .neq => some (.bool (!decide (a = b)))
  | _ => none
def binB (op : BinOp) (a b : Bool) : Option D :=
  match op with
  | .eql => some (.bool (decide (a = b)))
  | .neq => some (.bool (!decide (a = b)))
  | _ => none
def binD (op : BinOp) : C → C → Option C
  | .d (.int k a), .d (.int k' b) => if k = k' then (binI op k a b).map .d else none
  | .d (.str a), .d (.str b) => (binS op a b).map .d
  | _, _ => none

/-- the cells of a list as it is handed to a function that reads it -/
def rdCell (s : St) : C → Option RV
  | .d x => some (.d x)
  | .nil k fl => some (.d (.list k fl []))
  | .ref r => (look s.rw r).map fun x => .d (.list x.k x.fl x.es)
  | _ => none
/-- .. to a function that may write it -/
def wrCell (s : St) : C → Option RV
  | .d x => some (.d x)
  | .nil k fl => some (.row ⟨[], k, fl, true, true, false⟩)
  | .ref r => (look s.rw r).map .row
  | _ => none
def mapO {α β : Type} (f : α → Option β) : List α → Option (List β)
  | [] => some []
  | x :: xs => match f x with
    | some y => (mapO f xs).map (y :: ·)
    | none => none
def C.isAgg : C → Bool
  | .agg _ => true
  | _ => false
def toA (s : St) (c : C) : Option A :=
  match c with
  | .ptr b 0 => match look s.bx b with
    | some cs => (mapO (wrCell s) cs).map .box
    | none => none
  | c => (mapO (rdCell s) c.cells).map (.val c.isAgg)
def toAs (s : St) : List C → Option (List A)
  | [] => some []
  | c :: cs => match toA s c with
    | some a => (toAs s cs).map (a :: ·)
    | none => none
/-- the rows that some cells name -/
def rowsOf : List C → List Nat
  | [] => []
  | .ref r :: cs => r :: rowsOf cs
  | _ :: cs => rowsOf cs
/-- the rows that an argument hands over (in a box), and those that it lets read -/
def moved (s : St) : C → List Nat
  | .ptr b 0 => rowsOf ((look s.bx b).getD [])
  | _ => []
def movedAll (s : St) : List C → List Nat
  | [] => []
  | c :: cs => moved s c ++ movedAll s cs
def lentAll : List C → List Nat
  | [] => []
  | c :: cs => rowsOf c.cells ++ lentAll cs
def boxesOf : List C → List Nat
  | [] => []
  | .ptr b _ :: cs => b :: boxesOf cs
  | _ :: cs => boxesOf cs
def RV.closed : RV → Bool
  | .d x => D.plain x
  | .row r => r.deep
def A.closed : A → Bool
  | .val _ cs => cs.all RV.closed
  | .box cs => cs.all RV.closed
def Row.share (r : Row) : Row := { r with fz := true, deep := r.fl }
def shareAll (s : St) : List Nat → St
  | [] => s
  | r :: rs => match look s.rw r with
    | some x => shareAll (s.setRow r x.share) rs
    | none => shareAll s rs
/-- cells that came back: rows get places of their own -/
def inCells (d : Nat) : Nat → List RV → St → List C × St
  | _, [], s => ([], s)
  | j, .d x :: cs, s => let (l, s') := inCells d (j + 1) cs s; (.d x :: l, s')
  | j, .row r :: cs, s => let (l, s') := inCells d (j + 1) cs (s.newRow (rid d j) r); (.ref (rid d j) :: l, s')
/-- boxes that come back -/
def wback (s : St) : List C → List A → St
  | .ptr b 0 :: cs, .box vs :: outs => let (l, s') := inCells (b + 500) 0 vs s; wback (s'.setBox b l) cs outs
  | .ptr _ 0 :: _, _ => s
  | _ :: cs, outs => wback s cs outs
  | [], _ => s
def resCells (d : Nat) : Nat → List A → St → List C × St
  | _, [], s => ([], s)
  | q, .val ag vs :: rs, s =>
    let (l, s1) := inCells d (30 * q) vs s
    let (m, s2) := resCells d (q + 1) rs s1
    ((if ag then .agg l else l.headD .any) :: m, s2)
  | _, .box _ :: _, s => ([], s)
def nodupB : List Nat → Bool
  | [] => true
  | x :: xs => !xs.contains x && nodupB xs
def dropRows (s : St) : List Nat → St
  | [] => s
  | r :: rs => dropRows (s.dropRow r) rs

def splC {α : Type} (l : List α) (o : Nat) (n : List α) : List α := l.take o ++ n ++ l.drop (o + n.length)

def A.short : A → Bool
  | .val _ cs => Nat.ble cs.length 30
  | .box _ => false
def dropBoxes (s : St) : List Nat → St
  | [] => s
  | b :: bs => dropBoxes { s with bx := drp s.bx b } bs
def fillC (zs : List C) : List (Nat × Nat × List C) → Option (List C)
  | [] => some zs
  | (o, n, cs) :: ps => if cs.length = n ∧ o + n ≤ zs.length ∧ cs.all C.cell = true then fillC (splC zs o cs) ps else none
def rowsAll : List C → List Nat
  | [] => []
  | c :: cs => rowsOf c.cells ++ rowsAll cs
def upto (d : Nat) : Nat → List Nat
  | 0 => []
  | n + 1 => rid d n :: upto d n
/-- ids that a call may touch: the boxes and rows handed over, and the places of what comes back -/
def callIds (s : St) (cs : List C) : List Nat := boxesOf cs ++ movedAll s cs ++ lentAll cs

def bytesOf : List (List D) → Option (List Int)
  | [] => some []
  | [.int .u8 n] :: es => (bytesOf es).map (n :: ·)
  | _ => none
/-- cells that may be marked in place: plain ones, empty lists, lists that are all their own -/
def cellM (s : St) : C → Option D
  | .d x => match x with
    | .list k fl [] => some (.list k fl [])
    | .list _ _ _ => none
    | x => some x
  | .nil k fl => some (.list k fl [])
  | .ref r => match look s.rw r with
    | some row => if row.deep = true ∧ row.fz = false then some (.list row.k row.fl row.es) else none
    | none => none
  | _ => none
def cellsM (s : St) : List C → Option (List D)
  | [] => some []
  | c :: cs => match cellM s c with
    | some x => (cellsM s cs).map (x :: ·)
    | none => none
def backM (s : St) : List C → List D → St → Option St
  | [], [], acc => some acc
  | .ref r :: cs, .list k fl es :: ds, acc => match look s.rw r with
    | some row => if k = row.k ∧ fl = row.fl then backM s cs ds (acc.setRow r ⟨es, row.k, row.fl, true, false, false⟩) else none
    | none => none
  | .ref _ :: _, _, _ => none
  | _ :: cs, _ :: ds, acc => backM s cs ds acc
  | _, _, _ => none
section
variable (cf : Nat → List A → Option (List A × List A)) (mf : Nat → Bool → List D → Int → Option (List D × Int))

def evCall (s : St) (d : Option Nat) (f : Nat) (cs : List C) : Option St :=
  match toAs s cs with
  | none => none
  | some as =>
    if nodupB (movedAll s cs) && nodupB (boxesOf cs) && (movedAll s cs).all (fun r => !(lentAll cs).contains r) then
      match cf f as with
      | none => none
      | some (rs, outs) => if rs.all A.short then
        let s0 := if rs.all A.closed && outs.all A.closed then s else shareAll s (lentAll cs)
        let s1 := dropBoxes (dropRows s0 (movedAll s cs)) (boxesOf cs)
        let s2 := wback s1 cs outs
        let (l, s4) := resCells (d.getD 0) 0 rs s2
        some (s4.put d (match l with | [c] => c | l => .tup l))
        else none
    else none

/-- an operation that only reads -/
def evP (s : St) : KO → Option C
  | .mv x => some (evX s x)
  | .pick c x y => match evX s c with
    | .d (.bool b) => some (if b then evX s x else evX s y)
    | _ => none
  | .build zs ps => (fillC zs (ps.map fun p => (p.1, p.2.1, (evX s p.2.2).cells))).map .agg
  | .ld n x => match evX s x with
    | .ptr b o => match look s.bx b with
      | some cs => if n = 0 then nth cs o else if o + n ≤ cs.length then some (.agg ((cs.drop o).take n)) else none
      | none => none
    | .dpt cs => if n = 0 then (nth cs 0).map .d else if n ≤ cs.length then some (.agg ((cs.take n).map .d)) else none
    | .ept r k i o => match look s.rw r with
      | some row => match nth row.es i with
        | some e => if row.k = k ∧ o + max n 1 ≤ k ∧ (plains ((e.drop o).take (max n 1)) || !row.deep) = true then
            (if n = 0 then (nth e o).map .d else some (.agg (((e.drop o).take n).map .d))) else none
        | none => none
      | none => none
    | _ => none
  | .fa o x => match evX s x with
    | .ptr b p => some (.ptr b (p + o))
    | .dpt cs => some (.dpt (cs.drop o))
    | .ept r k i p => some (.ept r k i (p + o))
    | _ => none
  | .ia k x i => match evX s x, evX s i with
    | .d (.list k' _ es), .d (.int .i64 n) => if 0 ≤ n ∧ k' = k then (nth es n.toNat).map .dpt else none
    | .ref r, .d (.int .i64 n) => match look s.rw r with
      | some row => if 0 ≤ n ∧ n.toNat < row.es.length ∧ row.k = k then some (.ept r k n.toNat 0) else none
      | none => none
    | _, _ => none
  | .six x i => match evX s x, evX s i with
    | .d (.str t), .d (.int .i64 n) => if 0 ≤ n ∧ n.toNat < t.size then some (.d (.int .u8 (bAt t n.toNat))) else none
    | _, _ => none
  | .bin op x y => binD op (evX s x) (evX s y)
  | .bib op x y => match evX s x, evX s y with
    | .d (.bool a), .d (.bool b) => (binB op a b).map .d
    | _, _ => none
  | .not x => match evX s x with
    | .d (.bool b) => some (.d (.bool (!b)))
    | _ => none
  | .neg x => match evX s x with
    | .d (.int k a) => some (.d (.int k (k.wrap (-a))))
    | _ => none
  | .conv k x => match evX s x with
    | .d (.int _ a) => some (.d (.int k (k.wrap a)))
    | _ => none
  | .len x => match evX s x with
    | .d (.list _ _ es) => some (.d (.int .i64 es.length))
    | .nil _ _ => some (.d (.int .i64 0))
    | .ref r => match look s.rw r with
      | some row => some (.d (.int .i64 row.es.length))
      | none => none
    | _ => none
  | .sln x => match evX s x with
    | .d (.str t) => some (.d (.int .i64 t.size))
    | _ => none
  | .min x y => match evX s x, evX s y with
    | .d (.int .i64 a), .d (.int .i64 b) => some (.d (.int .i64 (if b < a then b else a)))
    | _, _ => none
  | .max x y => match evX s x, evX s y with
    | .d (.int .i64 a), .d (.int .i64 b) => some (.d (.int .i64 (if a < b then b else a)))
    | _, _ => none
  | .ext x i => match evX s x with
    | .tup cs => nth cs i
    | _ => none
  | .slc x y => match evX s x, evX s y with
    | .d (.list k fl es), .d (.int .i64 n) => if 0 ≤ n ∧ n.toNat ≤ es.length then some (.d (.list k fl (es.take n.toNat))) else none
    | _, _ => none
  | .nck x => match evX s x with
    | .ptr b o => some (.ptr b o)
    | .dpt cs => some (.dpt cs)
    | .ept r k i o => some (.ept r k i o)
    | _ => none
  | .bts x => match evX s x with
    | .ref r => match look s.rw r with
      | some row => if row.k = 1 ∧ row.es ≠ [] then (bytesOf row.es).map fun xs => .d (.str ⟨(xs.map fun n => UInt8.ofNat n.toNat).toArray⟩) else none
      | none => none
    | _ => none
  | _ => none

/-- a bound of a slice -/
def optI (s : St) (o : Option KX) (z : Nat) : Option Nat :=
  match o with
  | none => some z
  | some e => match evX s e with
    | .d (.int .i64 n) => if 0 ≤ n then some n.toNat else none
    | _ => none
/-- the source of an append: its elements, whether they are its own, what is left -/
def appSrc (s : St) (k : Nat) (fl : Bool) : C → Option (List (List D) × Bool × St)
  | .d (.list k' fl' es) => if k' = k ∧ fl' = fl then some (es, fl, s) else none
  | .nil _ _ => some ([], true, s)
  | .ref q => match look s.rw q with
    | some row => if row.k = k ∧ row.fl = fl then some (row.es, (row.deep && !row.fz) || fl, s.dropRow q) else none
    | none => none
  | _ => none

def evN (s : St) (d : Option Nat) : KO → Option St
  | .alloc zs => match d with
    | some b => if zs.all C.const then some ((s.newBox b zs).put d (.ptr b 0)) else none
    | none => none
  | .box x => match d with
    | some b => if (evX s x).cells.all C.cell then some ((s.newBox b (C.kills b (evX s x).cells)).put d (.ptr b 0)) else none
    | none => none
  | .mkrow k fl xs => match d with
    | some r => match embs k fl s (xs.map (evX s)) with
      | some (es, dp, s1) => if 0 < k then some ((s1.newRow r ⟨es, k, fl, dp, true, false⟩).put d (.ref r)) else none
      | none => none
    | none => none
  | .make k by_ fl zs x => match d, evX s x with
    | some r, .d (.int .i64 n) => if 0 ≤ n ∧ n.toNat * by_ ≤ room ∧ n ≤ 4611686018427387904 then some ((s.newRow r ⟨List.replicate n.toNat zs, k, fl, true, true, false⟩).put d (.ref r)) else none
    | _, _ => none
  | .st n x y => match evX s x with
    | .ptr b o => match look s.bx b with
      | some cs => if (evX s y).cells.all C.cell = true ∧ (evX s y).cells.length = n ∧ o + n ≤ cs.length then some (s.setBox b (splC cs o (evX s y).cells)) else none
      | none => none
    | .ept r k i o => match emb s (evX s y).cells with
      | some (ds, dp, s1) => match look s1.rw r with
        | some row => match nth row.es i with
          | some e => if row.k = k ∧ row.fz = false ∧ row.app = true ∧ ds.length = n ∧ o + n ≤ k ∧ (row.fl = true → plains ds = true) ∧ (dp || !row.deep) = true then
              some (s1.setRow r { row with es := row.es.set i (splC e o ds) }) else none
          | none => none
        | none => none
      | none => none
    | _ => none
  | .app k by_ fl x y => match d with
    | none => none
    | some d0 => match appSrc s k fl (evX s y) with
      | none => none
      | some (es, dp, s1) => match evX s x with
        | .nil k' fl' => if k' = k ∧ fl' = fl ∧ es.length * by_ ≤ room ∧ es.length ≤ maxLen then some ((s1.newRow d0 ⟨es, k, fl, dp, true, false⟩).put d (.ref d0)) else none
        | .ref r => match look s1.rw r with
          | some row => if row.k = k ∧ row.fl = fl ∧ row.app = true ∧ (row.es.length + es.length) * by_ ≤ room ∧ row.es.length + es.length ≤ maxLen then
              some ((s1.newRow r { row with es := row.es ++ es, deep := row.deep && dp }).put d (.ref r)) else none
          | none => none
        | _ => none
  | .call f xs => evCall cf s d f (xs.map (evX s))
  | .cut k x lo hi => match d with
    | none => none
    | some _ => match evX s x with
      | .nil k' fl => match optI s lo 0, optI s hi 0 with
        | some a, some b => if k' = k ∧ a = 0 ∧ b = 0 then some (s.put d (.nil k' fl)) else none
        | _, _ => none
      | .ref r => match look s.rw r with
        | some row => match optI s lo 0, optI s hi row.es.length with
          | some a, some b => if row.k = k ∧ a ≤ b ∧ b ≤ row.es.length ∧ row.fz = false then some ((s.newRow r { row with es := (row.es.take b).drop a, app := row.app && lo.isNone }).put d (.ref r)) else none
          | _, _ => none
        | none => none
      | _ => none
  | .mrk f x y => match d, evX s y with
    | some d0, .d (.int .i64 q) => match cellsM s (evX s x).cells with
      | some ds => if nodupB (rowsOf (evX s x).cells) then (match mf f (evX s x).isAgg ds q with
        | some (ds', q') => (backM s (evX s x).cells ds' (dropRows s (rowsOf (evX s x).cells))).map fun s' => s'.put (some d0) (.d (.int .i64 q'))
        | none => none) else none
      | none => none
    | _, _ => none
  | _ => none
def KO.pure_ : KO → Bool
  | .alloc _ => false
  | .box _ => false
  | .mkrow _ _ _ => false
  | .make _ _ _ _ _ => false
  | .st _ _ _ => false
  | .app _ _ _ _ _ => false
  | .call _ _ => false
  | .mrk _ _ _ => false
  | .cut _ _ _ _ => false
  | _ => true
def evO (s : St) (d : Option Nat) (o : KO) : Option St :=
  if o.pure_ then (evP s o).map (s.put d) else evN cf mf s d o

def evI (s : St) (i : KI) : Option St :=
  match i.gd with
  | none => evO cf mf s i.dst i.op
  | some (g, want) => match s.get g with
    | .d (.bool b) => if b = want then evO cf mf s i.dst i.op else some (s.put i.dst .und)
    | .und => some (s.put i.dst .und)
    | _ => none
def evOps : List KI → St → Option St
  | [], s => some s
  | i :: is, s => match evI cf mf s i with
    | some s' => evOps is s'
    | none => none
def KO.isLd : KO → Bool
  | .ld _ _ => true
  | .bts _ => true
  | _ => false
/-- a box that a load reads -/
def ldBox (s : St) : KO → Option (Option Nat)
  | .ld _ x => match evX s x with
    | .ptr b _ => some (some b)
    | .dpt _ => some none
    | _ => none
  | .bts _ => none
  | _ => some none
/-- what an operation touches -/
def touch (s : St) (d : Option Nat) : KO → List Nat
  | .st _ x y => (match evX s x with
      | .ptr b _ => [b]
      | .ept r _ _ _ => r :: rowsOf (evX s y).cells
      | _ => [])
  | .mkrow _ _ xs => d.toList ++ rowsAll (xs.map (evX s))
  | .app _ _ _ x y => d.toList ++ rowsOf [evX s x] ++ rowsOf [evX s y]
  | .call f xs => callIds s (xs.map (evX s))
  | .mrk _ x _ => rowsOf (evX s x).cells
  | .cut _ x _ _ => d.toList ++ rowsOf [evX s x]
  | _ => d.toList
/-- a region that draws its order. A quiet operation is taken first; the box that it read stays as it is until one that waits for it comes up (tk) -/
def tkAdd (dn : List Nat) (tk : List (List Nat × Nat)) : Option Nat → List (List Nat × Nat)
  | some b => (dn, b) :: tk
  | none => tk
def tkCut (j : Nat) (tk : List (List Nat × Nat)) : List (List Nat × Nat) := tk.filter fun p => !p.1.contains j
def keepL {α : Type} (l : List (Nat × α)) : List Nat → List (Nat × α)
  | [] => []
  | d :: ds => match look l d with
    | some x => (d, x) :: keepL l ds
    | none => keepL l ds
def St.keep (s : St) (kp : Keep) : St := ⟨keepL s.sl kp.s, keepL s.bx kp.b, keepL s.rw kp.r⟩
def stepN (x : KD) (tk : List (List Nat × Nat)) (s : St) (k : List (List Nat × Nat) → St → Option St) : Option St :=
  match evI cf mf s x.i with
  | some s' => if (tkCut x.j tk).all (fun p => !(touch s x.i.dst x.i.op).contains p.2 && (look s'.bx p.2).isSome && !(x.i.dst == some p.2)) then k (tkCut x.j tk) s' else none
  | none => none
open Classical in
/-- two ways that must lead to the same -/
noncomputable def both {α : Type} : Option α → Option α → Option α
  | some a, some b => if a = b then some a else none
  | _, _ => none
noncomputable def evDs (kp : Keep) : KT → List (List Nat × Nat) → St → Option St
  | .nil, _, s => some (s.keep kp)
  | .op ⟨j, quiet, al, dn, i⟩ is, tk, s =>
    if quiet then
      (match i.gd with
      | none => (match evP s i.op, ldBox s i.op with
        | some c, some b => evDs kp is (tkAdd dn tk b) (s.put i.dst c)
        | _, _ => none)
      | some (g, want) => match s.get g with
        | .d (.bool t) => if t = want then (match evP s i.op, ldBox s i.op with
            | some c, some b => evDs kp is (tkAdd dn tk b) (s.put i.dst c)
            | _, _ => none) else evDs kp is tk (s.put i.dst .und)
        | .und => evDs kp is tk (s.put i.dst .und)
        | _ => none)
    else stepN cf mf ⟨j, quiet, al, dn, i⟩ tk s (evDs kp is)
  | .alt x is r, tk, s => both (stepN cf mf x tk s (evDs kp is)) (evDs kp r tk s)
def iter (f : St → Option (Ex × St)) : Nat → St → Option (Ex × St)
  | 0, _ => none
  | n + 1, s => match f s with
    | some (.norm, s') => iter f n s'
    | r => r
noncomputable def evC (n : Nat) : K → St → Option (Ex × St)
  | .skip, s => some (.norm, s)
  | .reg ops kp, s => match evOps cf mf ops s with
    | some s' => some (.norm, s'.keep kp)
    | none => none
  | .drw ops kp, s => match evDs cf mf kp ops [] s with
    | some s' => some (.norm, s')
    | none => none
  | .seq a b, s => match evC n a s with
    | some (.norm, s') => evC n b s'
    | r => r
  | .cond c a b, s => match evX s c with
    | .d (.bool t) => if t then evC n a s else evC n b s
    | _ => none
  | .block id a, s => match evC n a s with
    | some (.exit i, s') => if i = id then some (.norm, s') else some (.exit i, s')
    | r => r
  | .loop a, s => iter (evC n a) n s
  | .exit id, s => some (.exit id, s)
  | .ret, s => some (.ret, s)
  | .share r a, s => evC n a (shareAll s [r])
  | .dat d a, s => match s.get d with
    | .ref r => match look s.rw r with
      | some x => evC n a ((shareAll s [r]).put (some d) (.d (.list x.k x.fl x.es)))
      | none => none
    | _ => evC n a s
end

inductive KR where
  | t (d : Nat)
  | c (d n : Nat)
structure KF where
  np : Nat
  body : K
  res : List KR

def enterA (p : Nat) (a : A) (s : St) : St :=
  match a with
  | .val ag vs => let (l, s') := inCells p 0 vs s; s'.put (some p) (if ag then .agg l else l.headD .any)
  | .box vs => let (l, s') := inCells (p + 500) 0 vs s; (s'.newBox (900 + p) l).put (some p) (.ptr (900 + p) 0)
def enterAs : Nat → List A → St → St
  | _, [], s => s
  | p, a :: as, s => enterAs (p + 1) as (enterA p a s)
def resA (s : St) : KR → Option (A × List Nat)
  | .t d => (mapO (wrCell s) (s.get d).cells).map fun vs => (.val (s.get d).isAgg vs, rowsOf (s.get d).cells)
  | .c d n => match s.get d with
   | .ptr b 0 => match look s.bx b with
    | some cs => if n = 0 then (match cs with
        | [c] => (mapO (wrCell s) cs).map fun vs => (.val false vs, rowsOf cs)
        | _ => none)
      else if cs.length = n then (mapO (wrCell s) cs).map fun vs => (.val true vs, rowsOf cs) else none
    | none => none
   | _ => none
def resAs (s : St) : List KR → Option (List A × List Nat)
  | [] => some ([], [])
  | r :: rs => match resA s r with
    | some (a, l) => (resAs s rs).map fun (as, l') => (a :: as, l ++ l')
    | none => none
def outA (s : St) (p : Nat) : A → Option (List A × List Nat)
  | .val _ _ => some ([], [])
  | .box _ => match look s.bx (900 + p) with
    | some cs => (mapO (wrCell s) cs).map fun vs => ([.box vs], rowsOf cs)
    | none => none
def outAs (s : St) : Nat → List A → Option (List A × List Nat)
  | _, [] => some ([], [])
  | p, a :: as => match outA s p a with
    | some (l, r) => (outAs s (p + 1) as).map fun (l', r') => (l ++ l', r ++ r')
    | none => none

def leave (kf : KF) (args : List A) (s : St) : Option (List A × List A) :=
  match resAs s kf.res, outAs s 0 args with
  | some (rs, l), some (outs, l') => if nodupB (l ++ l') then some (rs, outs) else none
  | _, _ => none

noncomputable def runF (cf : Nat → List A → Option (List A × List A)) (mf : Nat → Bool → List D → Int → Option (List D × Int)) (n : Nat) (kf : KF) (args : List A) : Option (List A × List A) :=
  if args.length = kf.np then
    match evC cf mf n kf.body (enterAs 0 args ⟨[], [], []⟩) with
    | some (.norm, s) => leave kf args s
    | some (.ret, s) => leave kf args s
    | _ => none
  else none
noncomputable def evF (T : Nat → Option KF) : Nat → Nat → List A → Option (List A × List A)
  | 0, _, _ => none
  | n + 1, f, args => match T f with
    | none => none
    | some kf => runF (evF T n) (fun _ _ _ _ => none) n kf args
abbrev i_ (d : Nat) (o : KO) : KI := ⟨some d, o, none⟩
abbrev n_ (o : KO) : KI := ⟨none, o, none⟩
abbrev g_ (d g : Nat) (w : Bool) (o : KO) : KI := ⟨some d, o, some (g, w)⟩
abbrev q_ (j : Nat) (i : KI) (t : KT) : KT := .op ⟨j, true, [], [], i⟩ t
abbrev l_ (j : Nat) (al dn : List Nat) (i : KI) (t : KT) : KT := .op ⟨j, true, al, dn, i⟩ t
abbrev w_ (j : Nat) (i : KI) (t : KT) : KT := .op ⟨j, false, [], [], i⟩ t
abbrev a_ (j : Nat) (i : KI) (t r : KT) : KT := .alt ⟨j, false, [], [], i⟩ t r
abbrev S_ (d : Nat) : KX := .s d
abbrev Z_ (n : Int) : KX := .k (.d (.int .i64 n))
end Go.Proofs.Ytmaigpiappmpcaa
