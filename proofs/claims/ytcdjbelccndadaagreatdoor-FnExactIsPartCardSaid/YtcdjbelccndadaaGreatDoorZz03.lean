/- Part of the proof: a machine over plain data, its proof, the functions of the program run on symbols, what they answer. Condition: none. -/
import Derived.Test.YtcdjbelccndadaaGreatDoorZz02
set_option linter.unusedVariables false
set_option linter.unusedSimpArgs false
namespace Go.Proofs.YtcdjbelccndadaaGreatDoor
section
inductive SRV where
 |d
 |row (k:Nat) (fl deep app fz:Bool)
 deriving DecidableEq
inductive SA where
 |val (ag:Bool) (l:List SRV)
 |box (l:List SRV)
 deriving DecidableEq
structure SSig where
 f:Nat
 args:List SA
 res:List (List SA×List SA)
 deriving DecidableEq
def SA.n:SA→Nat
 | .val _ l=>l.length
 | .box l=>l.length
def SA.l:SA→List SRV
 | .val _ l=>l
 | .box l=>l
def encV:SRV→D→Option RV
 | .d,x=>some (.d x)
 | .row k fl deep app fz,.list k' fl' es=>if k'=k∧fl'=fl then some (.row ⟨es,k,fl,deep,app,fz⟩) else none
 |_,_=>none
def encVs:List SRV→List D→Option (List RV)
 |[],[]=>some []
 |v::vs,x::xs=>match encV v x with
  |some r=>(encVs vs xs).map (r::·)
  |none=>none
 |_,_=>none
def encA:SA→List D→Option A
 | .val ag l,xs=>(encVs l xs).map (.val ag)
 | .box l,xs=>(encVs l xs).map .box
def encAs:List SA→List D→Option (List A)
 |[],[]=>some []
 |[],_::_=>none
 |a::as,xs=>match encA a (xs.take a.n) with
  |some r=>(encAs as (xs.drop a.n)).map (r::·)
  |none=>none
def cntA:List SA→Nat
 |[]=>0
 |a::as=>a.n+cntA as
def encR(v:List SA×List SA)(xs:List D):Option (List A×List A):=
 match encAs v.1 (xs.take (cntA v.1)),encAs v.2 (xs.drop (cntA v.1)) with
 |some rs,some outs=>some (rs,outs)
 |_,_=>none
def Gok(cf:Cf)(Sg_:List (Nat×SSig))(G:Gf):Prop:=
 ∀i sg,look Sg_ i=some sg→∀ws j us,G i ws=some (j,us)→∃as r v,encAs sg.args ws=some as∧nth sg.res j=some v∧encR v us=some r∧cf sg.f as=some r
def rdS(S:SS):SB→Option SE
 | .d e=>some e
 | .nil k fl=>some (.k (.nil k fl))
 | .ref r=>(look S.rw r).map (·.e)
 | .any=>none
def wrS(S:SS):SB→Option (SRV×SE)
 | .d e=>some (.d,e)
 | .nil k fl=>some (.row k fl true true false,.k (.nil k fl))
 | .ref r=>(look S.rw r).map fun x=>(.row x.k x.fl x.deep x.app x.fz,x.e)
 | .any=>none
def SC.isAgg:SC→Bool
 | .agg _=>true
 |_=>false
def symA(S:SS):SC→Option (SA×List SE)
 | .ptr b 0=>match look S.bx b with
  |some xs=>(mapO (wrS S) xs).map fun l=>(.box (l.map (·.1)),l.map (·.2))
  |none=>none
 |c=>match c.cells with
  |some xs=>(mapO (rdS S) xs).map fun l=>(.val c.isAgg (l.map fun _=>.d),l)
  |none=>none
def symAs(S:SS):List SC→Option (List SA×List SE)
 |[]=>some ([],[])
 |c::cs=>match symA S c with
  |some (a,es)=>(symAs S cs).map fun p=>(a::p.1,es++p.2)
  |none=>none
def rowsOfS:List SB→List Nat
 |[]=>[]
 | .ref r::cs=>r::rowsOfS cs
 |_::cs=>rowsOfS cs
def movedS1(S:SS):SC→List Nat
 | .ptr b 0=>rowsOfS ((look S.bx b).getD [])
 |_=>[]
def movedS(S:SS):List SC→List Nat
 |[]=>[]
 |c::cs=>movedS1 S c++movedS S cs
def lentS:List SC→List Nat
 |[]=>[]
 |c::cs=>rowsOfS (c.cells.getD [])++lentS cs
def boxesS:List SC→List Nat
 |[]=>[]
 | .ptr b _::cs=>b::boxesS cs
 |_::cs=>boxesS cs
section
variable {ρ:List D} {S:SS} {s:St}
theorem rdS_ok(h:Rel ρ S s){x:SB}{v:C}{e:SE}(hv:SBr ρ x v)(he:rdS S x=some e):∃y,e.d ρ=some y∧rdCell s v=some (.d y):=by
 cases x with
 |d e'=>cases he;obtain⟨y,h1,rfl⟩:=hv;exact⟨y,h1,rfl⟩
 |nil k fl=>cases he;simp only[SBr]at hv;subst hv;exact⟨_,rfl,rfl⟩
 |ref r=>
  simp only[SBr]at hv;subst hv;obtain⟨x,h1,rfl⟩:=Option.map_eq_some_iff.1 he;obtain⟨y,h2,es,h3,rfl⟩:=h.rw r x h1;exact⟨_,h3,by simp only[rdCell,h2,Option.map_some]⟩
 |any=>cases he
theorem wrS_ok(h:Rel ρ S s){x:SB}{v:C}{p:SRV×SE}(hv:SBr ρ x v)(he:wrS S x=some p):∃y r,p.2.d ρ=some y∧wrCell s v=some r∧encV p.1 y=some r:=by
 cases x with
 |d e'=>cases he;obtain⟨y,h1,rfl⟩:=hv;exact⟨y,_,h1,rfl,rfl⟩
 |nil k fl=>cases he;simp only[SBr]at hv;subst hv;exact⟨_,_,rfl,rfl,by simp[SK.d,encV]⟩
 |ref r=>
  simp only[SBr]at hv;subst hv;obtain⟨x,h1,rfl⟩:=Option.map_eq_some_iff.1 he;obtain⟨y,h2,es,h3,rfl⟩:=h.rw r x h1;exact⟨_,.row ⟨es,x.k,x.fl,x.deep,x.app,x.fz⟩,h3,by simp only[wrCell,h2,Option.map_some],by simp[encV]⟩
 |any=>cases he
theorem rdSs_ok(h:Rel ρ S s):∀{xs:List SB} {vs:List C} {es:List SE},SBrs ρ xs vs→mapO (rdS S) xs=some es→∃ys rs,evE ρ es=some ys∧mapO (rdCell s) vs=some rs∧encVs (es.map fun _=>.d) ys=some rs
 |[],vs,_,hv,he=>by cases he;simp only[SBrs]at hv;subst hv;exact⟨[],[],rfl,rfl,rfl⟩
 |x::xs,_,es,⟨v,vs,hv,h1,h2⟩,he=>by
  subst hv;simp only[mapO]at he
  split at he
  ·rename_i e he1;obtain⟨es',h3,rfl⟩:=Option.map_eq_some_iff.1 he;obtain⟨y,h4,h5⟩:=rdS_ok h h1 he1;obtain⟨ys,rs,h6,h7,h8⟩:=rdSs_ok h h2 h3;exact⟨y::ys,.d y::rs,by simp only[evE,h4,h6,Option.map_some],by simp only[mapO,h5,h7,Option.map_some],by simp only[List.map_cons,encVs,encV,h8,Option.map_some]⟩
  ·cases he
theorem wrSs_ok(h:Rel ρ S s):∀{xs:List SB} {vs:List C} {ps:List (SRV×SE)},SBrs ρ xs vs→mapO (wrS S) xs=some ps→∃ys rs,evE ρ (ps.map (·.2))=some ys∧mapO (wrCell s) vs=some rs∧encVs (ps.map (·.1)) ys=some rs
 |[],vs,_,hv,he=>by cases he;simp only[SBrs]at hv;subst hv;exact⟨[],[],rfl,rfl,rfl⟩
 |x::xs,_,es,⟨v,vs,hv,h1,h2⟩,he=>by
  subst hv;simp only[mapO]at he
  split at he
  ·rename_i p he1;obtain⟨es',h3,rfl⟩:=Option.map_eq_some_iff.1 he;obtain⟨y,r,h4,h5,h5'⟩:=wrS_ok h h1 he1;obtain⟨ys,rs,h6,h7,h8⟩:=wrSs_ok h h2 h3;exact⟨y::ys,r::rs,by simp only[List.map_cons,evE,h4,h6,Option.map_some],by simp only[mapO,h5,h7,Option.map_some],by simp only[List.map_cons,encVs,h5',h8,Option.map_some]⟩
  ·cases he
theorem encVs_len:∀{l:List SRV} {xs:List D} {rs:List RV},encVs l xs=some rs→xs.length=l.length
 |[],[],_,_=>rfl
 |[],_::_,_,h=>by cases h
 |_::_,[],_,h=>by cases h
 |v::l,x::xs,rs,h=>by
  simp only[encVs]at h
  split at h
  ·obtain⟨ys,h1,_⟩:=Option.map_eq_some_iff.1 h;simp[encVs_len h1]
  ·cases h
theorem mapO_all{α β:Type}{f:α→Option β}{p:α→Bool}(hf:∀x y,f x=some y→p x=true):∀{xs:List α} {ys:List β},mapO f xs=some ys→xs.all p=true
 |[],_,_=>rfl
 |x::xs,_,h=>by
  simp only[mapO]at h
  split at h
  ·rename_i y hy;obtain⟨ys,h1,_⟩:=Option.map_eq_some_iff.1 h;simp only[List.all_cons,hf x y hy,mapO_all hf h1,Bool.and_self]
  ·cases h
theorem rdS_cell{x:SB}{e:SE}(h:rdS S x=some e):x.cell=true:=by cases x<;>first|rfl|cases h
theorem wrS_cell{x:SB}{e:SRV×SE}(h:wrS S x=some e):x.cell=true:=by cases x<;>first|rfl|cases h
theorem rows_ok:∀{xs:List SB} {vs:List C},SBrs ρ xs vs→xs.all SB.cell=true→rowsOf vs=rowsOfS xs
 |[],_,h,_=>by simp only[SBrs]at h;subst h;rfl
 |x::xs,_,⟨v,vs,hv,h1,h2⟩,hc=>by
  subst hv;simp only[List.all_cons,Bool.and_eq_true]at hc;cases x with
  |d e=>obtain⟨y,_,rfl⟩:=h1;simp only[rowsOf,rowsOfS];exact rows_ok h2 hc.2
  |nil k fl=>simp only[SBr]at h1;subst h1;simp only[rowsOf,rowsOfS];exact rows_ok h2 hc.2
  |ref r=>simp only[SBr]at h1;subst h1;simp only[rowsOf,rowsOfS,rows_ok h2 hc.2]
  |any=>cases hc.1
def ArgS(c:SC)(v:C):Prop:=(∃b,c=.ptr b 0∧v=.ptr b 0)∨((∀b o,c≠.ptr b o)∧∀b o,v≠.ptr b o)
theorem symA_ok(h:Rel ρ S s){c:SC}{v:C}{a:SA}{es:List SE}(hv:SCr ρ c v)(ha:symA S c=some (a,es)) :
  ∃ws r,evE ρ es=some ws∧toA s v=some r∧encA a ws=some r∧ws.length=a.n∧moved s v=movedS1 S c∧rowsOf v.cells=rowsOfS (c.cells.getD [])∧ArgS c v:=by
 have val:∀{xs:List SB} {l:List SE},c.cells=some xs→mapO (rdS S) xs=some l→a=.val c.isAgg (l.map fun _=>.d)→es=l→(∀b o,c≠.ptr b o)→
   ∃ws r,evE ρ es=some ws∧toA s v=some r∧encA a ws=some r∧ws.length=a.n∧moved s v=movedS1 S c∧rowsOf v.cells=rowsOfS (c.cells.getD [])∧ArgS c v:=by
  rintro xs l hc hl rfl rfl hn
  have hall:=mapO_all (fun _ _=>rdS_cell) hl;have hr:=hv.cells hc hall;obtain⟨ys,rs,h1,h2,h3⟩:=rdSs_ok h hr hl;have hnp:∀b o,v≠.ptr b o:=by
   rintro b o rfl
   cases c with
   |b x=>
    cases hc;have:=SBr.cell hv (by simpa using hall);cases this
   |agg ys=>obtain⟨cs,h4,_⟩:=hv;cases h4
   |ptr b o=>exact hn b o rfl
   |tup _=>cases hc
   |ept _ _ _ _=>cases hc
   |dpt _ _=>cases hc
   |any=>cases hc
  have hag:v.isAgg=c.isAgg:=by
   cases c with
   |b x=>
    cases hc;have:=SBr.cell hv (by simpa using hall);cases v<;>first|rfl|cases this
   |agg ys=>obtain⟨cs,rfl,_⟩:=hv;rfl
   |ptr b o=>exact absurd rfl (hn b o)
   |tup _=>cases hc
   |ept _ _ _ _=>cases hc
   |dpt _ _=>cases hc
   |any=>cases hc
  refine⟨ys,.val v.isAgg rs,h1,?_,by rw[hag];simp only[encA,h3,Option.map_some],by rw[encVs_len h3];rfl,?_,?_,.inr ⟨hn,hnp⟩⟩
  ·unfold toA;split
   ·exact absurd rfl (hnp _ _)
   ·simp only[h2,Option.map_some]
  ·have:moved s v=[]:=by
    unfold moved;split
    ·exact absurd rfl (hnp _ _)
    ·rfl
   rw[this];unfold movedS1;split
   ·exact absurd rfl (hn _ _)
   ·rfl
  ·rw[hc,rows_ok hr hall];rfl
 have box:∀{b:Nat} {xs:List SB} {l:List (SRV×SE)},c=.ptr b 0→look S.bx b=some xs→mapO (wrS S) xs=some l→a=.box (l.map (·.1))→es=l.map (·.2)→
   ∃ws r,evE ρ es=some ws∧toA s v=some r∧encA a ws=some r∧ws.length=a.n∧moved s v=movedS1 S c∧rowsOf v.cells=rowsOfS (c.cells.getD [])∧ArgS c v:=by
  rintro b xs l rfl hl h1 rfl rfl
  simp only[SCr]at hv;subst hv;obtain⟨cs,h3,h4⟩:=h.bx b xs hl;obtain⟨ys,rs,h5,h6,h7⟩:=wrSs_ok h h4 h1;refine⟨ys,.box rs,h5,by simp only[toA,h3,h6,Option.map_some],by simp only[encA,h7,Option.map_some],by rw[encVs_len h7];rfl,?_,rfl,.inl ⟨b,rfl,rfl⟩⟩;have:=rows_ok h4 (mapO_all (p:=SB.cell) (fun _ _=>wrS_cell) h1);simp only[moved,movedS1,h3,hl,Option.getD_some,this]
 have val2:(∀b o,c≠.ptr b o)→(match c.cells with
  |some xs=>(mapO (rdS S) xs).map fun l=>(SA.val c.isAgg (l.map fun _=>SRV.d),l)
  |none=>none)=some (a,es)→∃ws r,evE ρ es=some ws∧toA s v=some r∧encA a ws=some r∧ws.length=a.n∧moved s v=movedS1 S c∧rowsOf v.cells=rowsOfS (c.cells.getD [])∧ArgS c v:=by
  intro hn ha;rcases hc:c.cells with _|xs
  ·rw[hc]at ha;cases ha
  ·have ha':=ha;rw[hc]at ha';obtain⟨l,h1,h2⟩:=Option.map_eq_some_iff.1 ha';simp only[Prod.mk.injEq]at h2;have:=val hc h1 h2.1.symm h2.2.symm hn;rw[hc]at this;exact this
 cases c with
 |ptr b o=>
  cases o with
  |zero=>
   rcases hl:look S.bx b with _|xs
   ·simp only[symA,hl]at ha;cases ha
   ·simp only[symA,hl]at ha;obtain⟨l,h1,h2⟩:=Option.map_eq_some_iff.1 ha;simp only[Prod.mk.injEq]at h2;have:=box rfl hl h1 h2.1.symm h2.2.symm;exact this
  |succ o=>cases ha
 |b x=>exact val2 (fun _ _ h=>by cases h) ha
 |agg x=>exact val2 (fun _ _ h=>by cases h) ha
 |tup x=>exact val2 (fun _ _ h=>by cases h) ha
 |ept _ _ _ _=>exact val2 (fun _ _ h=>by cases h) ha
 |dpt _ _=>exact val2 (fun _ _ h=>by cases h) ha
 |any=>exact val2 (fun _ _ h=>by cases h) ha
def ArgSs:List SC→List C→Prop
 |[],vs=>vs=[]
 |c::cs,vs=>∃v vs',vs=v::vs'∧ArgS c v∧ArgSs cs vs'
theorem take_left'{α:Type}{a b:List α}{n:Nat}(h:a.length=n):(a++b).take n=a:=by subst h;exact List.take_left
theorem drop_left'{α:Type}{a b:List α}{n:Nat}(h:a.length=n):(a++b).drop n=b:=by subst h;exact List.drop_left
theorem symAs_ok(h:Rel ρ S s):∀{cs:List SC} {vs:List C} {as:List SA} {es:List SE},SCrs ρ cs vs→symAs S cs=some (as,es)→
  ∃ws rs,evE ρ es=some ws∧toAs s vs=some rs∧encAs as ws=some rs∧movedAll s vs=movedS S cs∧lentAll vs=lentS cs∧boxesOf vs=boxesS cs∧ArgSs cs vs
 |[],_,_,_,hv,ha=>by
  simp only[SCrs]at hv;subst hv;cases ha;exact⟨[],[],rfl,rfl,rfl,rfl,rfl,rfl,rfl⟩
 |c::cs,_,as,es,⟨v,vs,hv,h1,h2⟩,ha=>by
  subst hv;simp only[symAs]at ha
  split at ha
  ·rename_i a es1 h3;obtain⟨p,h4,h5⟩:=Option.map_eq_some_iff.1 ha;obtain⟨as',es2⟩:=p;simp only[Prod.mk.injEq]at h5;obtain⟨rfl,rfl⟩:=h5;obtain⟨ws,r,q1,q2,q3,q4,q5,q6,q7⟩:=symA_ok h h1 h3;obtain⟨ws',rs,w1,w2,w3,w4,w5,w6,w7⟩:=symAs_ok h h2 h4;refine⟨ws++ws',r::rs,evE_app q1 w1,by simp only[toAs,q2,w2,Option.map_some],?_,by simp only[movedAll,movedS,q5,w4],by simp only[lentAll,lentS,q6,w5],?_,v,vs,rfl,q7,w7⟩
   ·simp only[encAs,take_left' q4,drop_left' q4,q3,w3,Option.map_some]
   ·rcases q7 with ⟨b,rfl,rfl⟩|⟨n1,n2⟩
    ·simp only[boxesOf,boxesS,w6]
    ·have e1:boxesS (c::cs)=boxesS cs:=by
      cases c<;>first|rfl|exact absurd rfl (n1 _ _)
     have e2:boxesOf (v::vs)=boxesOf vs:=by
      cases v<;>first|rfl|exact absurd rfl (n2 _ _)
     rw[e1,e2,w6]
  ·cases ha
def Loc(ρ:List D)(c:Nat)(us:List D):Prop:=∀i x,nth us i=some x→nth ρ (c+i)=some x
theorem Loc.tail{c:Nat}{x:D}{us:List D}(h:Loc ρ c (x::us)):Loc ρ (c+1) us:=fun i y hy=>by
 have:=h (i+1) y hy;rw[Nat.add_assoc,Nat.add_comm 1 i];exact this
theorem Loc.drop:∀{us:List D} {c:Nat} (n:Nat),Loc ρ c us→Loc ρ (c+n) (us.drop n)
 |us,c,0,h=>h
 |[],c,n+1,h=>fun i y hy=>by cases hy
 |x::us,c,n+1,h=>by
  have:=Loc.drop n h.tail;rw[Nat.add_assoc,Nat.add_comm 1 n]at this;exact this
theorem nth_take{α:Type}:∀{us:List α} {n i:Nat} {x:α},nth (us.take n) i=some x→nth us i=some x
 |[],n,i,x,h=>by simp[nth]at h
 |y::us,0,i,x,h=>by simp[nth]at h
 |y::us,n+1,0,x,h=>h
 |y::us,n+1,i+1,x,h=>nth_take (us:=us) h
theorem Loc.take{us:List D}{c:Nat}(n:Nat)(h:Loc ρ c us):Loc ρ c (us.take n):=fun i x hx=>h i x (nth_take hx)
theorem Loc.new(us:List D):Loc (ρ++us) ρ.length us:=by
 intro i x hx
 induction ρ with
 |nil=>simpa using hx
 |cons y ρ ih=>rw[List.length_cons,Nat.add_right_comm];exact ih
def inS(d:Nat):Nat→List SRV→Nat→SS→List SB×SS
 |_,[],_,S=>([],S)
 |j,.d::l,c,S=>match inS d (j+1) l (c+1) S with
  |(xs,S')=>(.d (.v c)::xs,S')
 |j,.row k fl deep app fz::l,c,S=>match inS d (j+1) l (c+1) (S.newRow (rid d j) ⟨.v c,k,fl,deep,app,fz⟩) with
  |(xs,S')=>(.ref (rid d j)::xs,S')
theorem inS_ok{d:Nat}:∀{l:List SRV} {j c:Nat} {S S':SS} {s:St} {us:List D} {vs:List RV} {xs:List SB},Rel ρ S s→encVs l us=some vs→Loc ρ c us→inS d j l c S=(xs,S')→
  ∃cs s',inCells d j vs s=(cs,s')∧Rel ρ S' s'∧SBrs ρ xs cs
 |[],j,c,S,S',s,[],vs,xs,h,he,hl,hi=>by
  cases he;cases hi;exact⟨[],s,rfl,h,rfl⟩
 |[],_,_,_,_,_,_::_,_,_,_,he,_,_=>by cases he
 |_::_,_,_,_,_,_,[],_,_,_,he,_,_=>by cases he
 |v::l,j,c,S,S',s,u::us,vs,xs,h,he,hl,hi=>by
  simp only[encVs]at he
  split at he
  ·rename_i r hr;obtain⟨vs',h1,rfl⟩:=Option.map_eq_some_iff.1 he;have hc:=hl 0 u rfl;cases v with
   |d=>
    cases hr;simp only[inS]at hi;generalize hq:inS d (j+1) l (c+1) S=q at hi;obtain⟨ys,S1⟩:=q;cases hi;obtain⟨cs,s',w1,w2,w3⟩:=inS_ok h h1 hl.tail hq;exact⟨.d u::cs,s',by simp only[inCells,w1],w2,_,_,rfl,⟨u,hc,rfl⟩,w3⟩
   |row k fl deep app fz=>
    cases u with
    |list k' fl' es=>
     simp only[encV]at hr
     split at hr
     ·rename_i hk;obtain⟨rfl,rfl⟩:=hk;cases hr;simp only[inS]at hi;generalize hq:inS d (j+1) l (c+1) _=q at hi;obtain⟨ys,S1⟩:=q;cases hi;obtain⟨cs,s',w1,w2,w3⟩:=inS_ok (h.newRow (rid d j) (x:=⟨.v c,k',fl',deep,app,fz⟩) (y:=⟨es,k',fl',deep,app,fz⟩) ⟨es,hc,rfl⟩) h1 hl.tail hq;exact⟨.ref (rid d j)::cs,s',by simp only[inCells,w1],w2,_,_,rfl,rfl,w3⟩
     ·cases hr
    |_=>cases hr
  ·cases he
def wbackS:SS→List SC→List SA→Nat→Option SS
 |S,[],_,_=>some S
 |S,.ptr b 0::cs,.box l::outs,c=>match inS (b+500) 0 l c S with
  |(xs,S')=>wbackS (S'.setBox b xs) cs outs (c+l.length)
 |S,.ptr _ _::_,_,_=>none
 |S,_::cs,outs,c=>wbackS S cs outs c
def resS(d:Nat):Nat→List SA→Nat→SS→Option (List (SB ⊕ List SB)×SS)
 |_,[],_,S=>some ([],S)
 |q,.val ag l::rs,c,S=>match inS d (30 * q) l c S with
  |(xs,S1)=>match resS d (q+1) rs (c+l.length) S1 with
   |some (ms,S2)=>if ag=true then some (.inr xs::ms,S2) else match xs with
    |[x]=>some (.inl x::ms,S2)
    |_=>none
   |none=>none
 |_,.box _::_,_,_=>none
theorem encAs_cons{a:SA}{as:List SA}{us:List D}{rs:List A}(h:encAs (a::as) us=some rs):∃r rs',encA a (us.take a.n)=some r∧encAs as (us.drop a.n)=some rs'∧rs=r::rs':=by
 simp only[encAs]at h
 split at h
 ·rename_i r hr;obtain⟨rs',h1,rfl⟩:=Option.map_eq_some_iff.1 h;exact⟨r,rs',hr,h1,rfl⟩
 ·cases h
theorem resS_ok{d:Nat}:∀{l:List SA} {q c:Nat} {S S':SS} {s:St} {us:List D} {rs:List A} {ms:List (SB ⊕ List SB)},Rel ρ S s→encAs l us=some rs→Loc ρ c us→resS d q l c S=some (ms,S')→
  ∃cs s',resCells d q rs s=(cs,s')∧Rel ρ S' s'∧STr ρ ms cs
 |[],q,c,S,S',s,us,rs,ms,h,he,hl,hi=>by
  cases us with
  |nil=>
   cases he;cases hi;exact⟨[],s,rfl,h,rfl⟩
  |cons u us=>cases he
 | .box _::_,_,_,_,_,_,_,_,_,_,_,_,hi=>by cases hi
 | .val ag l::as,q,c,S,S',s,us,rs,ms,h,he,hl,hi=>by
  obtain⟨r,rs',h1,h2,rfl⟩:=encAs_cons he;simp only[encA]at h1;obtain⟨vs,h3,rfl⟩:=Option.map_eq_some_iff.1 h1;simp only[resS]at hi;generalize hq:inS d (30 * q) l c S=p at hi;obtain⟨xs,S1⟩:=p;simp only at hi
  obtain⟨cs,s1,w1,w2,w3⟩:=inS_ok h h3 (hl.take _) hq
  split at hi
  ·rename_i ms' S2 hr;obtain⟨cs',s2,v1,v2,v3⟩:=resS_ok w2 h2 (hl.drop _) hr;refine⟨_,s2,by simp only[resCells,w1,v1];rfl,?_⟩
   split at hi
   ·rename_i hag;cases hi;subst hag;exact⟨v2,cs,cs',rfl,w3,v3⟩
   ·rename_i hag
    split at hi
    ·cases hi;obtain⟨c0,cs0,rfl,u1,u2⟩:=w3;have:ag=false:=by simpa using hag
     subst this;exact⟨v2,c0,cs',rfl,u1,v3⟩
    ·cases hi
  ·cases hi
theorem wbackS_ok:∀{cs:List SC} {vs:List C} {l:List SA} {c:Nat} {S S':SS} {s:St} {us:List D} {outs:List A},Rel ρ S s→ArgSs cs vs→encAs l us=some outs→Loc ρ c us→wbackS S cs l c=some S'→Rel ρ S' (wback s vs outs)
 |[],vs,l,c,S,S',s,us,outs,h,ha,he,hl,hw=>by
  simp only[ArgSs]at ha;subst ha;cases hw;exact h
 |x::cs,_,l,c,S,S',s,us,outs,h,⟨v,vs,hv,h1,h2⟩,he,hl,hw=>by
  subst hv;rcases h1 with ⟨b,rfl,rfl⟩|⟨n1,n2⟩
  ·cases l with
   |nil=>cases hw
   |cons a l=>
    cases a with
    |val ag l=>cases hw
    |box l0=>
     obtain⟨r,rs',h3,h4,rfl⟩:=encAs_cons he;simp only[encA]at h3;obtain⟨ws,h5,rfl⟩:=Option.map_eq_some_iff.1 h3;simp only[wbackS]at hw;generalize hq:inS (b+500) 0 l0 c S=p at hw;obtain⟨xs,S1⟩:=p;simp only at hw
     obtain⟨cs',s1,w1,w2,w3⟩:=inS_ok h h5 (hl.take _) hq;simp only[wback,w1];exact wbackS_ok (w2.setBox b w3) h2 h4 (hl.drop _) hw
  ·have e1:wbackS S (x::cs) l c=wbackS S cs l c:=by
    cases x<;>first|rfl|exact absurd rfl (n1 _ _)
   have e2:wback s (v::vs) outs=wback s vs outs:=by
    cases v<;>first|rfl|exact absurd rfl (n2 _ _)
   rw[e1]at hw;rw[e2];exact wbackS_ok h h2 he hl hw
def SR.share(r:SR):SR:={r with fz:=true,deep:=r.fl }
def shareS(S:SS):List Nat→Option SS
 |[]=>some S
 |r::rs=>match look S.rw r with
  |some x=>shareS (S.setRow r x.share) rs
  |none=>none
theorem shareS_ok:∀{rs:List Nat} {S S':SS} {s:St},Rel ρ S s→shareS S rs=some S'→Rel ρ S' (shareAll s rs)
 |[],S,S',s,h,hs=>by cases hs;exact h
 |r::rs,S,S',s,h,hs=>by
  simp only[shareS]at hs
  split at hs
  ·rename_i x hx;obtain⟨y,h1,es,h2,rfl⟩:=h.rw r x hx;simp only[shareAll,h1];exact shareS_ok (h.setRow r (x:=x.share) (y:=Row.share _) ⟨es,h2,rfl⟩) hs
  ·cases hs
def dropRowsS(S:SS):List Nat→SS
 |[]=>S
 |r::rs=>dropRowsS (S.dropRow r) rs
def dropBoxesS(S:SS):List Nat→SS
 |[]=>S
 |b::bs=>dropBoxesS {S with bx:=drp S.bx b } bs
theorem dropRowsS_ok:∀{rs:List Nat} {S:SS} {s:St},Rel ρ S s→Rel ρ (dropRowsS S rs) (dropRows s rs)
 |[],_,_,h=>h
 |r::rs,_,_,h=>dropRowsS_ok (rs:=rs) (h.dropRow r)
theorem dropBoxesS_ok:∀{bs:List Nat} {S:SS} {s:St},Rel ρ S s→Rel ρ (dropBoxesS S bs) (dropBoxes s bs)
 |[],_,_,h=>h
 |b::bs,S,s,h=>by
  refine dropBoxesS_ok (bs:=bs) (S:={S with bx:=drp S.bx b }) (s:={s with bx:=drp s.bx b }) ⟨h.sl,fun e xs hl=>?_,h.rw⟩;simp only[look_drp]at hl ⊢
  split at hl
  ·cases hl
  ·rename_i he;rw[if_neg he];exact h.bx e xs hl
end
end
section
def clsL:Nat→List SRV→Bool×List SE
 |_,[]=>(true,[])
 |c,.d::l=>match clsL (c+1) l with
  |(b,pl)=>(b,.v c::pl)
 |c,.row _ _ deep _ _::l=>match clsL (c+1) l with
  |(b,pl)=>(deep && b,pl)
def clsA:Nat→List SA→Bool×List SE
 |_,[]=>(true,[])
 |c,a::as=>match clsL c a.l with
  |(b,pl)=>match clsA (c+a.n) as with
   |(b',pl')=>(b && b',pl++pl')
def shortS:List SA→Bool
 |[]=>true
 | .val _ l::as=>Nat.ble l.length 30 && shortS as
 | .box _::_=>false
def shrS(hint:List Nat)(d:Nat)(lent:List Nat)(b:Bool)(pl:List SE):Bs×Bool:=
 if lent=[] then ([],false) else if b=false then ([],true) else match pl with
  |[]=>([],false)
  |pl=>if hint.contains (1000 * d+pl.length) then ([(.npl,pl)],true) else ([(.pl,pl)],false)
def putC:List (SB ⊕ List SB)→SC
 |[.inl x]=>.b x
 |[.inr xs]=>.agg xs
 |ms=>.tup ms
def putCC(l:List C):C:=match l with|[c]=>c|l=>.tup l
def symCallR(hint:List Nat)(S:SS)(cs:List SC)(d:Option Nat)(n:Nat)(v:List SA×List SA):Option (Bs×SS):=
 if shortS v.1=true then
  match clsA n v.1,clsA (n+cntA v.1) v.2 with
  |(b1,pl1),(b2,pl2)=>match shrS hint (d.getD 0) (lentS cs) (b1 && b2) (pl1++pl2) with
   |(bs,shr)=>match (if shr=true then shareS S (lentS cs) else some S) with
    |some S0=>match wbackS (dropBoxesS (dropRowsS S0 (movedS S cs)) (boxesS cs)) cs v.2 (n+cntA v.1) with
     |some S2=>match resS (d.getD 0) 0 v.1 n S2 with
      |some (ms,S3)=>some (bs,S3.put d ⟨[],putC ms⟩)
      |none=>none
     |none=>none
    |none=>none
 else none
section
variable {ρ ρ':List D} {S S':SS} {s:St}
theorem clsL_ok:∀{l:List SRV} {c:Nat} {us:List D} {vs:List RV} {b:Bool} {pl:List SE},encVs l us=some vs→Loc ρ c us→clsL c l=(b,pl)→∃ps,evE ρ pl=some ps∧vs.all RV.closed=(b && plains ps)
 |[],_,[],_,_,_,he,_,hc=>by cases he;cases hc;exact⟨[],rfl,rfl⟩
 |[],_,_::_,_,_,_,he,_,_=>by cases he
 |_::_,_,[],_,_,_,he,_,_=>by cases he
 |v::l,c,u::us,vs,b,pl,he,hl,hc=>by
  simp only[encVs]at he
  split at he
  ·rename_i r hr;obtain⟨vs',h1,rfl⟩:=Option.map_eq_some_iff.1 he;have hu:nth ρ c=some u:=hl 0 u rfl;cases v with
   |d=>
    cases hr;simp only[clsL]at hc;generalize hq:clsL (c+1) l=q at hc;obtain⟨b',pl'⟩:=q;cases hc;obtain⟨ps,g1,g2⟩:=clsL_ok h1 hl.tail hq;refine⟨u::ps,by simp only[evE,SE.d,hu,g1,Option.map_some],?_⟩;rw[List.all_cons,g2,plains_cons];simp only[RV.closed];cases D.plain u<;>cases b'<;>simp
   |row k fl deep app fz=>
    simp only[clsL]at hc;generalize hq:clsL (c+1) l=q at hc;obtain⟨b',pl'⟩:=q;cases hc;obtain⟨ps,g1,g2⟩:=clsL_ok h1 hl.tail hq;refine⟨ps,g1,?_⟩;cases u with
    |list k' fl' es=>
     simp only[encV]at hr
     split at hr
     ·cases hr;rw[List.all_cons,g2];simp only[RV.closed,Bool.and_assoc]
     ·cases hr
    |_=>cases hr
  ·cases he
theorem clsA_ok:∀{l:List SA} {c:Nat} {us:List D} {rs:List A} {b:Bool} {pl:List SE},encAs l us=some rs→Loc ρ c us→clsA c l=(b,pl)→∃ps,evE ρ pl=some ps∧rs.all A.closed=(b && plains ps)
 |[],_,[],_,_,_,he,_,hc=>by cases he;cases hc;exact⟨[],rfl,rfl⟩
 |[],_,_::_,_,_,_,he,_,_=>by cases he
 |a::as,c,us,rs,b,pl,he,hl,hc=>by
  obtain⟨r,rs',h1,h2,rfl⟩:=encAs_cons he;simp only[clsA]at hc;generalize hq:clsL c a.l=q at hc;obtain⟨b1,pl1⟩:=q;simp only at hc
  generalize hq2:clsA (c+a.n) as=q at hc;obtain⟨b2,pl2⟩:=q;cases hc;obtain⟨ps2,g3,g4⟩:=clsA_ok h2 (hl.drop _) hq2;have:∃ps,evE ρ pl1=some ps∧A.closed r=(b1 && plains ps):=by
   cases a with
   |val ag l=>
    simp only[encA]at h1;obtain⟨vs,h3,rfl⟩:=Option.map_eq_some_iff.1 h1;obtain⟨ps,q1,q2⟩:=clsL_ok h3 (hl.take _) hq;exact⟨ps,q1,q2⟩
   |box l=>
    simp only[encA]at h1;obtain⟨vs,h3,rfl⟩:=Option.map_eq_some_iff.1 h1;obtain⟨ps,q1,q2⟩:=clsL_ok h3 (hl.take _) hq;exact⟨ps,q1,q2⟩
  obtain⟨ps,g1,g2⟩:=this;refine⟨ps++ps2,evE_app g1 g3,?_⟩;rw[List.all_cons,g2,g4,plains_app];cases b1<;>cases b2<;>simp
theorem shortS_ok:∀{l:List SA} {us:List D} {rs:List A},encAs l us=some rs→shortS l=true→rs.all A.short=true
 |[],[],_,he,_=>by cases he;rfl
 |[],_::_,_,he,_=>by cases he
 | .box _::_,_,_,_,h=>by cases h
 | .val ag l::as,us,rs,he,h=>by
  obtain⟨r,rs',h1,h2,rfl⟩:=encAs_cons he;simp only[shortS,Bool.and_eq_true]at h;simp only[encA]at h1;obtain⟨vs,h3,rfl⟩:=Option.map_eq_some_iff.1 h1;have hl:vs.length=l.length:=by
   clear h h1 he h2;generalize us.take (SA.val ag l).n=xs at h3
   induction l generalizing xs vs with
   |nil=>cases xs<;>cases h3;rfl
   |cons v l ih=>
    cases xs with
    |nil=>cases h3
    |cons x xs=>
     simp only[encVs]at h3
     split at h3
     ·obtain⟨ys,q1,rfl⟩:=Option.map_eq_some_iff.1 h3;simp[ih _ _ q1]
     ·cases h3
  rw[List.all_cons,shortS_ok h2 h.2,Bool.and_true];simp only[A.short,hl,h.1]
theorem shrS_ok{hint:List Nat}{d:Nat}{lent:List Nat}{b shr:Bool}{pl:List SE}{bs:Bs}{ps τ:List D}(hs:shrS hint d lent b pl=(bs,shr))(hb:runB ρ bs=some (ρ++τ))(hp:evE ρ pl=some ps)(h:Rel ρ S s){S0:SS}(h0:(if shr=true then shareS S lent else some S)=some S0) :
  Rel ρ S0 (if (b && plains ps)=true then s else shareAll s lent):=by
 unfold shrS at hs
 split at hs
 ·rename_i hl;subst hl;cases hs;cases h0;split
  ·exact h
  ·exact h
 ·split at hs
  ·rename_i hb0;cases hs;subst hb0;simp only[Bool.false_and,Bool.false_eq_true,if_false];exact shareS_ok h h0
  ·rename_i hb';have hb':b=true:=by simpa using hb'
   subst hb'
   split at hs
   ·cases hs;cases hp;cases h0;exact h
   ·split at hs
    ·cases hs;obtain⟨xs,x,h1,h2,h3⟩:=runB_one hb;rw[hp]at h1;cases h1;simp only[evPO]at h2
     split at h2
     ·cases h2
     ·rename_i hn;have hn:plains ps=false:=by simpa using hn
      rw[hn];simp only[Bool.and_false,Bool.false_eq_true,if_false];exact shareS_ok h h0
    ·cases hs;obtain⟨xs,x,h1,h2,h3⟩:=runB_one hb;rw[hp]at h1;cases h1;simp only[evPO]at h2
     split at h2
     ·rename_i hn;rw[hn];cases h0;exact h
     ·cases h2
theorem putC_ok{ms:List (SB ⊕ List SB)}{cs:List C}(h:STr ρ ms cs):SCr ρ (putC ms) (putCC cs):=by
 unfold putC;split
 ·obtain⟨c,cs',rfl,h1,h2⟩:=h;simp only[STr]at h2;subst h2;exact h1
 ·obtain⟨ds,cs',rfl,h1,h2⟩:=h;simp only[STr]at h2;subst h2;exact⟨ds,rfl,h1⟩
 ·rename_i n1 n2;have:putCC cs=.tup cs:=by
   unfold putCC;split
   ·rename_i c;cases ms with
    |nil=>simp only[STr]at h;cases h
    |cons m ms=>
     cases m with
     |inl x=>
      obtain⟨c,cs',e,h1,h2⟩:=h;cases e;cases ms with
      |nil=>exact absurd rfl (n1 x)
      |cons m ms=>cases m<;>(obtain⟨_,_,e,_⟩:=h2;cases e)
     |inr x=>
      obtain⟨c,cs',e,h1,h2⟩:=h;cases e;cases ms with
      |nil=>exact absurd rfl (n2 x)
      |cons m ms=>cases m<;>(obtain⟨_,_,e,_⟩:=h2;cases e)
   ·rfl
  rw[this];exact⟨cs,rfl,h⟩
theorem symCall_ok{cf:Cf}{mf:Mf}{Sg_:List (Nat×SSig)}{G:Gf}(hG:Gok cf Sg_ G)(h:Rel ρ S s){kn:Gs}(hk:gsO ρ kn=some true){hint:List Nat}{n:Nat}(hn:n=ρ.length){d:Option Nat}{f:Nat}{xs:List KX}{cs:List SC}{es:List SE}{i:Nat}{sg:SSig}
  (hx:symXs S kn xs=some cs) (ha:symAs S cs=some (sg.args,es)) (hi:look Sg_ i=some sg) (hf:sg.f=f) (hd:(nodupB (movedS S cs) && nodupB (boxesS cs) && (movedS S cs).all (fun r=>!(lentS cs).contains r))=true)
  {ws us:List D} {j:Nat} (hw:evE ρ es=some ws) (hg:G i ws=some (j,us)) {v:List SA×List SA} (hv:nth sg.res j=some v) {bs:Bs} (hr:symCallR hint S cs d n v=some (bs,S')) (hb:runB (ρ++us) bs=some ρ') :
  ∃s',evN cf mf s d (.call f xs)=some s'∧Rel ρ' S' s':=by
 obtain⟨ws',as,q1,q2,q3,q4,q5,q6,q7⟩:=symAs_ok h (symXs_rel h hk hx) ha;rw[hw]at q1;cases q1;obtain⟨as',r,v',w1,w2,w3,w4⟩:=hG i sg hi ws j us hg;rw[q3]at w1;cases w1;rw[hv]at w2;cases w2;rw[hf]at w4;obtain⟨rs,outs⟩:=r;unfold encR at w3
 split at w3
 ·rename_i rs' outs' e1 e2;cases w3;unfold symCallR at hr
  split at hr
  ·rename_i hsh;generalize hc1:clsA n v.1=p1 at hr;generalize hc2:clsA (n+cntA v.1) v.2=p2 at hr;obtain⟨b1,pl1⟩:=p1;obtain⟨b2,pl2⟩:=p2;simp only at hr
   generalize hs1:shrS hint (d.getD 0) (lentS cs) (b1 && b2) (pl1++pl2)=p3 at hr;obtain⟨bs',shr⟩:=p3;simp only at hr
   split at hr
   ·rename_i S0 hS0
    split at hr
    ·rename_i S2 hS2
     split at hr
     ·rename_i ms S3 hS3;cases hr;have hloc:Loc (ρ++us) n us:=by rw[hn];exact Loc.new us
      obtain⟨ps1,t1,t2⟩:=clsA_ok e1 (hloc.take _) hc1;obtain⟨ps2,t3,t4⟩:=clsA_ok e2 (hloc.drop _) hc2;obtain⟨τ,hτ⟩:=runB_ext hb;subst hτ;have hR0:=shrS_ok hs1 hb (evE_app t1 t3) (h.mono us) hS0;have hcl:(b1 && b2 && plains (ps1++ps2))=(rs.all A.closed && outs.all A.closed):=by
       rw[t2,t4,plains_app];cases b1<;>cases b2<;>simp
      rw[hcl]at hR0;have hR1:=dropBoxesS_ok (bs:=boxesS cs) (dropRowsS_ok (rs:=movedS S cs) hR0);have hR2:=wbackS_ok hR1 q7 e2 (hloc.drop _) hS2;obtain⟨l,s4,u1,u2,u3⟩:=resS_ok hR2 e1 (hloc.take _) hS3;refine⟨s4.put d (putCC l),?_,(u2.put d (SGr.nil (putC_ok u3))).mono τ⟩;simp only[evN,evCall,q2,q4,q5,q6,hd,w4,if_true,shortS_ok e1 hsh,u1];rfl
     ·cases hr
    ·cases hr
   ·cases hr
  ·cases hr
 ·cases w3
end
end
section
abbrev SX:=Option (Option Nat)
def exS:SX→Ex
 |none=>.norm
 |some none=>.ret
 |some (some i)=>.exit i
structure SO where
 x:SX
 S:SS
 m:Nat
 deriving DecidableEq
def addO(o:SO):List SO→Nat×List SO
 |[]=>(0,[o])
 |p::ps=>if o=p then (0,p::ps) else match addO o ps with
  |(j,qs)=>(j+1,p::qs)
def addOs:List SO→List SO→List Nat×List SO
 |[],acc=>([],acc)
 |o::os,acc=>match addO o acc with
  |(j,acc')=>match addOs os acc' with
   |(js,acc'')=>(j::js,acc'')
def mapT(f:List Nat)(t:ST):ST:=if f=List.range f.length then t else .map f t
def leafO(x:SX)(kn:Gs)(S:SS):ST×List SO:=match canS kn S with
 |(S',es)=>(.leaf 0 es,[⟨x,S',es.length⟩])
def fanS(k:(List SA×List SA)→Option (ST×List SO)):List (List SA×List SA)→List SO→Option (ST×List SO)
 |[],acc=>some (.nil,acc)
 |v::vs,acc=>match k v with
  |some (t,os)=>match addOs os acc with
   |(f,acc1)=>match fanS k vs acc1 with
    |some (ts,acc2)=>some (.cons (mapT f t) ts,acc2)
    |none=>none
  |none=>none
def opsG(gs:Gs):Bs→ST→ST
 |[],t=>t
 |(o,es)::bs,t=>.op gs o es (opsG gs bs t)
def undG:SG:=⟨[(.k (.bool false),true)],.any⟩
def Fits(G:Gf)(t:ST)(outs:List SO)(ρ:List D)(run:Option (Ex×St)):Prop:=
 ∀j σ,denT G t 0 ρ=some (j,σ)→∃o s',nth outs j=some o∧run=some (exS o.x,s')∧σ.length=o.m∧Rel σ o.S s'
theorem addO_ok(o:SO):∀{l l':List SO} {j:Nat},addO o l=(j,l')→nth l' j=some o∧∀i x,nth l i=some x→nth l' i=some x
 |[],l',j,h=>by cases h;exact⟨rfl,fun i x hx=>by cases hx⟩
 |p::ps,l',j,h=>by
  simp only[addO]at h
  split at h
  ·rename_i he;cases h;subst he;exact⟨rfl,fun _ _ hx=>hx⟩
  ·generalize hq:addO o ps=q at h;obtain⟨j',qs⟩:=q;cases h;obtain⟨h1,h2⟩:=addO_ok o hq;refine⟨h1,fun i x hx=>?_⟩;cases i with
   |zero=>exact hx
   |succ i=>exact h2 i x hx
theorem addOs_ok:∀{os acc acc':List SO} {js:List Nat},addOs os acc=(js,acc')→(∀i o,nth os i=some o→∃j,nth js i=some j∧nth acc' j=some o)∧∀i x,nth acc i=some x→nth acc' i=some x
 |[],acc,acc',js,h=>by cases h;exact⟨fun i o ho=>(by cases ho),fun _ _ hx=>hx⟩
 |o::os,acc,acc',js,h=>by
  simp only[addOs]at h;generalize hq:addO o acc=q at h;obtain⟨j,acc1⟩:=q;simp only at h
  generalize hq2:addOs os acc1=q at h;obtain⟨js',acc2⟩:=q;cases h;obtain⟨h1,h2⟩:=addO_ok o hq;obtain⟨h3,h4⟩:=addOs_ok hq2;refine⟨fun i p hp=>?_,fun i x hx=>h4 i x (h2 i x hx)⟩;cases i with
  |zero=>
   cases hp;exact⟨j,rfl,h4 j _ h1⟩
  |succ i=>exact h3 i p hp
theorem nth_range:∀{n i:Nat},i < n→nth (List.range n) i=some i:=by
 intro n i h;rw[nth_get];simp[h]
theorem nth_bound{α:Type}:∀{l:List α} {i:Nat} {x:α},nth l i=some x→i < l.length
 |_::_,0,_,_=>by simp
 |_::l,i+1,x,h=>by simpa using nth_bound (l:=l) h
 |[],_,_,h=>by simp[nth]at h
section
variable {G:Gf} {ρ:List D} {run:Option (Ex×St)}
theorem Fits.map{t:ST}{outs outs':List SO}{f:List Nat}(h:Fits G t outs ρ run)(hf:∀i o,nth outs i=some o→∃j,nth f i=some j∧nth outs' j=some o):Fits G (mapT f t) outs' ρ run:=by
 intro j σ hd;unfold mapT at hd
 split at hd
 ·rename_i hr;obtain⟨o,s',h1,h2,h3,h4⟩:=h j σ hd;obtain⟨j',q1,q2⟩:=hf j o h1;have hb:=nth_bound q1;rw[hr,nth_range hb]at q1;cases q1;exact⟨o,s',q2,h2,h3,h4⟩
 ·simp only[denT]at hd
  split at hd
  ·rename_i j0 σ0 h0;obtain⟨j1,h1,h2⟩:=Option.map_eq_some_iff.1 hd;simp only[Prod.mk.injEq]at h2;obtain⟨rfl,rfl⟩:=h2;obtain⟨o,s',g1,g2,g3,g4⟩:=h j0 σ0 h0;obtain⟨j',q1,q2⟩:=hf j0 o g1;rw[h1]at q1;cases q1;exact⟨o,s',q2,g2,g3,g4⟩
  ·cases hd
theorem Fits.more{t:ST}{outs outs':List SO}(h:Fits G t outs ρ run)(hf:∀i o,nth outs i=some o→nth outs' i=some o):Fits G t outs' ρ run:=fun j σ hd=>by
 obtain⟨o,s',h1,h2⟩:=h j σ hd;exact⟨o,s',hf j o h1,h2⟩
theorem leafO_ok{x:SX}{kn:Gs}{S:SS}{s:St}{t:ST}{outs:List SO}(h:Rel ρ S s)(hk:gsO ρ kn=some true)(hl:leafO x kn S=(t,outs)):Fits G t outs ρ (some (exS x,s)):=by
 intro j σ hd;unfold leafO at hl;generalize hq:canS kn S=q at hl;obtain⟨S',es⟩:=q;cases hl;simp only[denT]at hd
 split at hd
 ·rename_i xs hx;cases hd;exact⟨_,s,rfl,rfl,evE_map hx,canS_ok h hk hq hx⟩
 ·cases hd
theorem opsG_ok{gs:Gs}:∀{bs:Bs} {t:ST} {ρ:List D} {r:Nat×List D} {b:Bool},gsO ρ gs=some b→denT G (opsG gs bs t) 0 ρ=some r→∃τ,τ.length=bs.length∧denT G t 0 (ρ++τ)=some r∧(b=true→runB ρ bs=some (ρ++τ))
 |[],t,ρ,r,b,hg,h=>⟨[],rfl,by rw[List.append_nil];exact h,fun _=>by simp[runB]⟩
 |(o,es)::bs,t,ρ,r,b,hg,h=>by
  simp only[opsG,denT,hg]at h;cases b with
  |true=>
   simp only at h
   split at h
   ·rename_i xs hx
    split at h
    ·rename_i x ho;obtain⟨τ,h1,h2,h3⟩:=opsG_ok (gsO_mono [x] hg) h;refine⟨x::τ,by simp[h1],by simpa using h2,fun _=>?_⟩;simp only[runB,hx,ho]
     simpa using h3 rfl
    ·cases h
   ·cases h
  |false=>
   simp only at h
   obtain⟨τ,h1,h2,h3⟩:=opsG_ok (gsO_mono [.bool false] hg) h;exact⟨.bool false::τ,by simp[h1],by simpa using h2,fun h=>by cases h⟩
theorem evI_gd{cf:Cf}{mf:Mf}{S:SS}{s:St}(h:Rel ρ S s){d:Option Nat}{op:KO}{g:Nat}{w:Bool}{gs0:Gs}{e:SE}(hl:look S.sl g=some ⟨gs0,.b (.d e)⟩){b:Bool}(hb:gsO ρ (gs0++[(e,w)])=some b) :
  evI cf mf s ⟨d,op,some (g,w)⟩=if b=true then evO cf mf s d op else some (s.put d .und):=by
 obtain⟨b0,h1,h2,h3⟩:=h.sl g _ hl;have app:∀{gs:Gs} {c:Bool},gsO ρ gs=some c→gsO ρ (gs++[(e,w)])=if c=true then gsO ρ [(e,w)] else some false:=by
  intro gs
  induction gs with
  |nil=>intro c hc;cases hc;rfl
  |cons p gs ih=>
   intro c hc;obtain⟨a,v⟩:=p;simp only[gsO,List.cons_append]at hc ⊢
   split at hc
   ·split at hc
    ·rename_i hv;rw[if_pos hv];exact ih hc
    ·rename_i hv;rw[if_neg hv];cases hc;rfl
   ·cases hc
 rw[app h1]at hb;cases b0 with
 |false=>
  simp only[Bool.false_eq_true,if_false]at hb;cases hb;simp only[evI,h3 rfl,Bool.false_eq_true,if_false]
 |true=>
  simp only[if_true]at hb;obtain⟨x,q1,q2⟩:=h2 rfl;simp only[gsO,q1]at hb
  split at hb
  ·rename_i t ht;cases ht;simp only[evI,q2]
   split at hb
   ·rename_i hw;cases hb;rw[if_pos hw,if_pos rfl]
   ·rename_i hw;cases hb;rw[if_neg hw,if_neg (by simp)]
  ·cases hb
theorem und_ok{c:C}(h:c=.und):SGr ρ undG c:=⟨false,rfl,fun h=>(by cases h),fun _=>h⟩
theorem gs_app{gs hs:Gs}(h:gsO ρ gs=some true)(h':gsO ρ hs=some true):gsO ρ (gs++hs)=some true:=gs_of fun p hp=>by
 rcases List.mem_append.1 hp with hp|hp
 ·exact gs_all h p hp
 ·exact gs_all h' p hp
theorem gs_false:∀{gs:Gs},gsO ρ gs=some false→∃p∈gs,p.1.d ρ=some (.bool (!p.2))
 |[],h=>by cases h
 |(g,w)::gs,h=>by
  simp only[gsO]at h
  split at h
  ·rename_i b hb
   split at h
   ·obtain⟨p,h1,h2⟩:=gs_false h;exact⟨p,List.mem_cons_of_mem _ h1,h2⟩
   ·rename_i hw;refine⟨(g,w),List.mem_cons_self,?_⟩;rw[hb];cases b<;>cases w<;>simp_all
  ·cases h
end
end
section
def findSig(f:Nat)(as:List SA):List (Nat×SSig)→Option Nat
 |[]=>none
 |(i,sg)::l=>if sg.f=f∧sg.args=as then some i else findSig f as l
def symNoisy(hint:List Nat)(Sg_:List (Nat×SSig))(S:SS)(kn:Gs)(n:Nat)(d:Option Nat)(op:KO)(k:SS→Nat→Option (ST×List SO)):Option (ST×List SO):=
 match op with
 | .call f xs=>match symXs S kn xs with
  |some cs=>match symAs S cs with
   |some (as,es)=>match findSig f as Sg_ with
    |some i=>match look Sg_ i with
     |some sg=>if sg.f=f∧sg.args=as∧(nodupB (movedS S cs) && nodupB (boxesS cs) && (movedS S cs).all (fun r=>!(lentS cs).contains r))=true then
       (match fanS (fun v=>match symCallR hint S cs d n v with
        |some (bs,S')=>match k S' (n+(cntA v.1+cntA v.2)+bs.length) with
         |some (t,outs)=>some (opsG [] bs t,outs)
         |none=>none
        |none=>none) sg.res []with
       |some (ts,outs)=>some (.call i es ts,outs)
       |none=>none) else none
     |none=>none
    |none=>none
   |none=>none
  |none=>none
 |op=>match symN hint S kn n d op with
  |some (bs,S')=>match k S' (n+bs.length) with
   |some (t,outs)=>some (opsG [] bs t,outs)
   |none=>none
  |none=>none
def stepO(hint:List Nat)(Sg_:List (Nat×SSig))(S:SS)(kn:Gs)(n:Nat)(d:Option Nat)(op:KO)(k:SS→Nat→Option (ST×List SO)):Option (ST×List SO):=
 if op.pure_=true then (match symP S kn n op with
  |some (bs,c)=>match k (S.put d ⟨[],c⟩) (n+bs.length) with
   |some (t,outs)=>some (opsG [] bs t,outs)
   |none=>none
  |none=>none) else symNoisy hint Sg_ S kn n d op k
def seenG(S:SS)(gs:Gs):Bool:=(S.sl.take 3).any fun p=>match look S.sl p.1 with
 |some g=>decide (g.gs=gs)
 |none=>false
def full(S:SS)(gs:Gs)(bs:Bs):Bs:=match bs with
 |[]=>if seenG S gs=true then [] else [(.pl,[])]
 |bs=>bs
def splitG(k1 k0:Gs→Option (ST×List SO)):Gs→Gs→Option (ST×List SO)
 |[],kn=>k1 kn
 |p::ps,kn=>if p∈kn then splitG k1 k0 ps kn else match splitG k1 k0 ps (p::kn),k0 ((p.1,!p.2)::kn) with
  |some (ta,oa),some (tb,ob)=>match addOs ob oa with
   |(f,outs)=>some (.gd [p] ta (mapT f tb),outs)
  |_,_=>none
def symI(hint:List Nat)(Sg_:List (Nat×SSig))(S:SS)(kn:Gs)(n:Nat)(i:KI)(k:SS→Gs→Nat→Option (ST×List SO)):Option (ST×List SO):=
 match i with
 |⟨d,op,none⟩=>stepO hint Sg_ S kn n d op (fun S' n'=>k S' kn n')
 |⟨d,op,some (g,w)⟩=>match look S.sl g with
  |some ⟨gs0,.b (.d e)⟩=>
   if (gs0++[(e,w)]).all (fun p=>decide (p∈kn))=true then stepO hint Sg_ S kn n d op (fun S' n'=>k S' kn n')
   else if (gs0++[(e,w)]).any (fun p=>decide ((p.1,!p.2)∈kn))=true then k (S.put d undG) kn n
   else if op.pure_=true then (match symP S ((gs0++[(e,w)])++kn) n op with
    |some (bs,c)=>match k (S.put d ⟨gs0++[(e,w)],c⟩) kn (n+(full S (gs0++[(e,w)]) bs).length) with
     |some (t,outs)=>some (opsG (gs0++[(e,w)]) (full S (gs0++[(e,w)]) bs) t,outs)
     |none=>none
    |none=>none)
   else splitG (fun kn'=>stepO hint Sg_ S kn' n d op (fun S' n'=>k S' kn' n')) (fun kn'=>k (S.put d undG) kn' n) (gs0++[(e,w)]) kn
  |some ⟨gs0,.any⟩=>if gs0=undG.gs then k (S.put d undG) kn n else none
  |_=>none
def symOps(hint:List Nat)(Sg_:List (Nat×SSig))(kp:Keep):List KI→SS→Gs→Nat→Option (ST×List SO)
 |[],S,kn,n=>some (leafO none kn (S.keep kp))
 |i::is,S,kn,n=>symI hint Sg_ S kn n i (fun S' kn' n'=>symOps hint Sg_ kp is S' kn' n')
section
variable {ρ:List D} {S:SS} {s:St} {G:Gf} {cf:Cf} {mf:Mf} {Sg_:List (Nat×SSig)} {hint:List Nat} {n:Nat} {d:Option Nat} {kn:Gs}
theorem encAs_len:∀{l:List SA} {us:List D} {rs:List A},encAs l us=some rs→us.length=cntA l
 |[],[],_,_=>rfl
 |[],_::_,_,h=>by cases h
 |a::as,us,rs,h=>by
  obtain⟨r,rs',h1,h2,rfl⟩:=encAs_cons h;have h3:=encAs_len h2;have h4:(us.take a.n).length=a.n:=by
   cases a with
   |val ag l=>simp only[encA]at h1;obtain⟨vs,h5,_⟩:=Option.map_eq_some_iff.1 h1;exact encVs_len h5
   |box l=>simp only[encA]at h1;obtain⟨vs,h5,_⟩:=Option.map_eq_some_iff.1 h1;exact encVs_len h5
  rw[List.length_drop]at h3;rw[List.length_take]at h4;simp only[cntA];omega
theorem encR_len{v:List SA×List SA}{us:List D}{r:List A×List A}(h:encR v us=some r):us.length=cntA v.1+cntA v.2:=by
 unfold encR at h
 split at h
 ·rename_i rs outs h1 h2;have h3:=encAs_len h1;have h4:=encAs_len h2;rw[List.length_take]at h3;rw[List.length_drop]at h4;omega
 ·cases h
def FitsAt(G:Gf)(t:ST)(j:Nat)(outs:List SO)(ρ:List D)(run:Option (Ex×St)):Prop:=
 ∀i σ,denT G t j ρ=some (i,σ)→∃o s',nth outs i=some o∧run=some (exS o.x,s')∧σ.length=o.m∧Rel σ o.S s'
theorem fanS_ok{k:(List SA×List SA)→Option (ST×List SO)}:∀{vs:List (List SA×List SA)} {acc acc':List SO} {ts:ST},fanS k vs acc=some (ts,acc')→
  (∀i x,nth acc i=some x→nth acc' i=some x)∧∀j v,nth vs j=some v→∃t os,k v=some (t,os)∧∀run ρ,Fits G t os ρ run→FitsAt G ts j acc' ρ run
 |[],acc,acc',ts,h=>by cases h;exact⟨fun _ _ hx=>hx,fun j v hv=>(by cases hv)⟩
 |v::vs,acc,acc',ts,h=>by
  simp only[fanS]at h
  split at h
  ·rename_i t os hk;generalize hq:addOs os acc=q at h;obtain⟨f,acc1⟩:=q;simp only at h
   split at h
   ·rename_i ts' acc2 hf;cases h;obtain⟨h1,h2⟩:=addOs_ok hq;obtain⟨h3,h4⟩:=fanS_ok hf;refine⟨fun i x hx=>h3 i x (h2 i x hx),fun j w hw=>?_⟩;cases j with
    |zero=>
     cases hw;refine⟨t,os,hk,fun run ρ hfit i σ hd=>?_⟩;have:=hfit.map (f:=f) (outs':=acc') (fun i o ho=>by obtain⟨j,q1,q2⟩:=h1 i o ho;exact⟨j,q1,h3 j o q2⟩);exact this i σ hd
    |succ j=>
     obtain⟨t',os',g1,g2⟩:=h4 j w hw;exact⟨t',os',g1,fun run ρ hfit i σ hd=>g2 run ρ hfit i σ hd⟩
   ·cases h
  ·cases h
theorem opsG_fits{bs:Bs}{t:ST}{outs:List SO}{run:Option (Ex×St)}(h:∀ρ',runB ρ bs=some ρ'→Fits G t outs ρ' run):Fits G (opsG [] bs t) outs ρ run:=by
 intro j σ hd;obtain⟨τ,h1,h2,h3⟩:=opsG_ok (gs:=[]) rfl hd;exact h _ (h3 rfl) j σ h2
theorem symNoisy_ok(hG:Gok cf Sg_ G)(h:Rel ρ S s)(hk:gsO ρ kn=some true)(hn:n=ρ.length){op:KO}{k:SS→Nat→Option (ST×List SO)}{t:ST}{outs:List SO}{run:St→Option (Ex×St)}
  (hc:∀S' ρ' s' t outs,Rel ρ' S' s'→gsO ρ' kn=some true→k S' ρ'.length=some (t,outs)→Fits G t outs ρ' (run s')) (hs:symNoisy hint Sg_ S kn n d op k=some (t,outs)) :
  op.pure_=false∧Fits G t outs ρ ((evN cf mf s d op).bind run):=by
 unfold symNoisy at hs
 split at hs
 ·rename_i f xs;refine⟨rfl,?_⟩
  split at hs
  ·rename_i cs hx
   split at hs
   ·rename_i as es ha
    split at hs
    ·rename_i i hi
     split at hs
     ·rename_i sg hl
      split at hs
      ·rename_i hq;obtain⟨rfl,rfl,hd⟩:=hq
       split at hs
       ·rename_i ts outs' hf;cases hs;obtain⟨_,h2⟩:=fanS_ok (G:=G) hf;intro j σ hden;simp only[denT]at hden
        split at hden
        ·rename_i ws hw
         split at hden
         ·rename_i j0 us hg;obtain⟨as,r,v,w1,w2,w3,w4⟩:=hG i sg hl ws j0 us hg;obtain⟨t,os,g1,g2⟩:=h2 j0 v w2
          split at g1
          ·rename_i bs S' hr
           split at g1
           ·rename_i t' os' hkk;cases g1;refine g2 _ (ρ++us) ?_ j σ hden;refine opsG_fits fun ρ' hb=>?_;obtain⟨s',e1,e2⟩:=symCall_ok (cf:=cf) (mf:=mf) hG h hk hn hx ha hl rfl hd hw hg w2 hr hb;rw[e1];obtain⟨τ,hτ⟩:=runB_ext hb;refine hc S' ρ' s' _ _ e2 (by rw[hτ,List.append_assoc];exact gsO_mono _ hk) ?_;rw[runB_len hb,List.length_append,← hn,encR_len w3];exact hkk
           ·cases g1
          ·cases g1
         ·cases hden
        ·cases hden
       ·cases hs
      ·cases hs
     ·cases hs
    ·cases hs
   ·cases hs
  ·cases hs
 ·split at hs
  ·rename_i bs S' hN
   split at hs
   ·rename_i t' outs' hkk;cases hs;have hp:∀ρ',runB ρ bs=some ρ'→op.pure_=false∧∃s',evN cf mf s d op=some s'∧Rel ρ' S' s':=fun ρ' hb=>symN_sound h hk hn hN hb;refine⟨(by cases op<;>first|rfl|cases hN),opsG_fits fun ρ' hb=>?_⟩;obtain⟨_,s',e1,e2⟩:=hp ρ' hb;rw[e1];obtain⟨τ,hτ⟩:=runB_ext hb;refine hc S' ρ' s' _ _ e2 (by rw[hτ];exact gsO_mono _ hk) ?_;rw[runB_len hb,← hn];exact hkk
   ·cases hs
  ·cases hs
theorem stepO_ok(hG:Gok cf Sg_ G)(h:Rel ρ S s)(hk:gsO ρ kn=some true)(hn:n=ρ.length){op:KO}{k:SS→Nat→Option (ST×List SO)}{t:ST}{outs:List SO}{run:St→Option (Ex×St)}
  (hc:∀S' ρ' s' t outs,Rel ρ' S' s'→gsO ρ' kn=some true→k S' ρ'.length=some (t,outs)→Fits G t outs ρ' (run s')) (hs:stepO hint Sg_ S kn n d op k=some (t,outs)) :
  Fits G t outs ρ ((evO cf mf s d op).bind run):=by
 unfold stepO at hs
 split at hs
 ·rename_i hp
  split at hs
  ·rename_i bs c hP
   split at hs
   ·rename_i t' outs' hkk;cases hs;refine opsG_fits fun ρ' hb=>?_;obtain⟨v,e1,e2⟩:=symP_sound h hk hn hP hb;obtain⟨τ,hτ⟩:=runB_ext hb;simp only[evO,hp,if_true,e1,Option.map_some,Option.bind_some];refine hc _ ρ' _ _ _ ((hτ▸h.mono τ:Rel ρ' S s).put d (SGr.nil e2)) (by rw[hτ];exact gsO_mono _ hk) ?_;rw[runB_len hb,← hn];exact hkk
   ·cases hs
  ·cases hs
 ·rename_i hp;obtain⟨h1,h2⟩:=symNoisy_ok (mf:=mf) hG h hk hn hc hs;simp only[evO,h1,Bool.false_eq_true,if_false];exact h2
theorem full_len{gs:Gs}{bs:Bs}{ρ':List D}(h:runB ρ (full S gs bs)=some ρ'):∃τ,ρ'=ρ++τ∧∃ρ1 τ1,runB ρ bs=some ρ1∧ρ'=ρ1++τ1:=by
 obtain⟨τ,hτ⟩:=runB_ext h;refine⟨τ,hτ,?_⟩;cases bs with
 |nil=>exact⟨ρ,τ,rfl,hτ⟩
 |cons b bs=>exact⟨ρ',[],h,by simp⟩
theorem seenG_ok(h:Rel ρ S s){gs:Gs}(hs:seenG S gs=true):∃b,gsO ρ gs=some b:=by
 obtain⟨p,_,hp⟩:=List.any_eq_true.1 hs
 split at hp
 ·rename_i g hl;obtain⟨b,hb,_⟩:=h.sl _ g hl;exact⟨b,(of_decide_eq_true hp)▸hb⟩
 ·cases hp
theorem gd_fits{gs:Gs}{ta tb:ST}{outs:List SO}{run:Option (Ex×St)}(ha:gsO ρ gs=some true→Fits G ta outs ρ run)(hb:gsO ρ gs=some false→Fits G tb outs ρ run):Fits G (.gd gs ta tb) outs ρ run:=by
 intro j σ hd;simp only[denT]at hd
 split at hd
 ·rename_i h;exact ha h j σ hd
 ·rename_i h;exact hb h j σ hd
 ·cases hd
theorem gs_cut:∀{pre:Gs} {p:SE×Bool} {ps:Gs},gsO ρ pre=some true→p.1.d ρ=some (.bool (!p.2))→gsO ρ (pre++p::ps)=some false
 |[],p,ps,_,hp=>by
  obtain⟨e,w⟩:=p;simp only[List.nil_append,gsO]at hp ⊢;rw[hp];cases w<;>rfl
 |(g,v)::pre,p,ps,h,hp=>by
  have hg:=gs_all h (g,v) (by simp);simp only[List.cons_append,gsO]at hg h ⊢;rw[hg]at h ⊢;simp only[if_true]at h ⊢;exact gs_cut h hp
theorem splitG_ok{k1 k0:Gs→Option (ST×List SO)}{run:Option (Ex×St)}{full_:Gs}(h1:∀kn' {t:ST} {o:List SO},gsO ρ kn'=some true→gsO ρ full_=some true→k1 kn'=some (t,o)→Fits G t o ρ run)
  (h0:∀kn' {t:ST} {o:List SO},gsO ρ kn'=some true→gsO ρ full_=some false→k0 kn'=some (t,o)→Fits G t o ρ run):∀{gs pre kn:Gs} {t:ST} {outs:List SO},full_=pre++gs→gsO ρ pre=some true→gsO ρ kn=some true→splitG k1 k0 gs kn=some (t,outs)→Fits G t outs ρ run
 |[],pre,kn,t,outs,hf,hp,hk,hs=>h1 kn hk (by rw[hf,List.append_nil];exact hp) hs
 |p::ps,pre,kn,t,outs,hf,hp,hk,hs=>by
  have hf':full_=(pre++[p])++ps:=by rw[hf];simp
  simp only[splitG]at hs
  split at hs
  ·rename_i hm;exact splitG_ok h1 h0 hf' (gs_app hp (gs_of fun q hq=>by simp only[List.mem_singleton]at hq;subst hq;exact gs_all hk _ hm)) hk hs
  ·split at hs
   ·rename_i ta oa tb ob hA hB;generalize hq:addOs ob oa=q at hs;obtain⟨f,outs'⟩:=q;cases hs;obtain⟨q1,q2⟩:=addOs_ok hq;refine gd_fits (fun hg=>?_) fun hg=>?_
    ·exact (splitG_ok h1 h0 hf' (gs_app hp hg) (gs_app (gs:=[p]) hg hk) hA).more q2
    ·obtain⟨r,hr,he⟩:=gs_false hg;simp only[List.mem_singleton]at hr;subst hr;exact Fits.map (h0 _ (gs_app (gs:=[(r.1,!r.2)]) (gs_of fun q hq=>by simp only[List.mem_singleton]at hq;subst hq;exact he) hk) (by rw[hf];exact gs_cut hp he) hB) q1
   ·cases hs
theorem opsG_guard{gs:Gs}{o:PO}{es:List SE}{bs:Bs}{t:ST}{r:Nat×List D}(h:denT G (opsG gs ((o,es)::bs) t) 0 ρ=some r):∃b,gsO ρ gs=some b:=by
 simp only[opsG,denT]at h
 split at h
 ·exact⟨_,‹_›⟩
 ·exact⟨_,‹_›⟩
 ·cases h
theorem full_b(hr:Rel ρ S s){gs:Gs}{bs:Bs}{t:ST}{r:Nat×List D}(h:denT G (opsG gs (full S gs bs) t) 0 ρ=some r):∃b,gsO ρ gs=some b:=by
 cases bs with
 |nil=>
  simp only[full]at h
  split at h
  ·exact seenG_ok hr ‹_›
  ·exact opsG_guard h
 |cons b bs=>exact opsG_guard h
theorem evI_no{g:Nat}{w:Bool}{op:KO}(h:Rel ρ S s)(hk:gsO ρ kn=some true){gs0:Gs}{e:SE}(hl:look S.sl g=some ⟨gs0,.b (.d e)⟩)(ha:(gs0++[(e,w)]).any (fun p=>decide ((p.1,!p.2)∈kn))=true) :
  evI cf mf s ⟨d,op,some (g,w)⟩=some (s.put d .und):=by
 obtain⟨b0,h1,h2,h3⟩:=h.sl g _ hl;cases b0 with
 |false=>simp only[evI,h3 rfl]
 |true=>
  obtain⟨p,hp,hq⟩:=List.any_eq_true.1 ha;have hn:=gs_all hk _ (of_decide_eq_true hq);rcases List.mem_append.1 hp with hp|hp
  ·have:=gs_all h1 p hp;simp only at hn
   rw[hn]at this;exact absurd this (by cases p.2<;>simp)
  ·simp only[List.mem_singleton]at hp;subst hp;obtain⟨x,q1,q2⟩:=h2 rfl;simp only at hn
   rw[hn]at q1;cases q1;simp only[evI,q2];rw[if_neg (by cases w<;>simp)]
theorem symI_ok(hG:Gok cf Sg_ G)(h:Rel ρ S s)(hk:gsO ρ kn=some true){i:KI}{k:SS→Gs→Nat→Option (ST×List SO)}{t:ST}{outs:List SO}{run:St→Option (Ex×St)}
  (cont:∀{kn':Gs} (S':SS) (ρ':List D) (s':St) (t:ST) (outs:List SO),Rel ρ' S' s'→gsO ρ' kn'=some true→k S' kn' ρ'.length=some (t,outs)→Fits G t outs ρ' (run s'))
  (hs:symI hint Sg_ S kn ρ.length i k=some (t,outs)):Fits G t outs ρ ((evI cf mf s i).bind run):=by
 obtain⟨d,op,gd⟩:=i;cases gd with
 |none=>
  simp only[symI]at hs;exact stepO_ok hG h hk rfl (run:=run) cont hs
 |some gw=>
  obtain⟨g,w⟩:=gw;simp only[symI]at hs
  split at hs
  ·rename_i gs0 e hl
   split at hs
   ·rename_i hall;have hg:gsO ρ (gs0++[(e,w)])=some true:=gs_sub hk hall;rw[evI_gd h hl hg,if_pos rfl];exact stepO_ok hG h hk rfl (run:=run) cont hs
   ·split at hs
    ·rename_i ha;rw[evI_no h hk hl ha,Option.bind_some];exact cont _ _ _ _ _ (h.put d (und_ok rfl)) hk hs
    ·split at hs
     ·rename_i hp
      split at hs
      ·rename_i bs c hP
       split at hs
       ·rename_i t' outs' hr;cases hs;intro j σ hd;obtain⟨b,hg⟩:=full_b h hd;obtain⟨τ,h1,h2,h3⟩:=opsG_ok hg hd;rw[evI_gd h hl hg];have hlen:ρ.length+(full S (gs0++[(e,w)]) bs).length=(ρ++τ).length:=by rw[List.length_append,h1]
        rw[hlen]at hr;cases b with
        |true=>
         obtain⟨_,_,ρ1,τ1,g1,g2⟩:=full_len (h3 rfl);obtain⟨v,e1,e2⟩:=symP_sound h (gs_app hg hk) rfl hP g1;simp only[evO,hp,if_true,e1,Option.map_some,Option.bind_some];refine cont _ _ _ _ _ ((h.mono τ).put d ?_) (gsO_mono τ hk) hr j σ h2;exact⟨true,gsO_mono τ hg,fun _=>g2▸e2.mono τ1,fun h=>(by cases h)⟩
        |false=>
         rw[if_neg (by simp),Option.bind_some];refine cont _ _ _ _ _ ((h.mono τ).put d ?_) (gsO_mono τ hk) hr j σ h2;exact⟨false,gsO_mono τ hg,fun h=>(by cases h),fun _=>rfl⟩
       ·cases hs
      ·cases hs
     ·refine splitG_ok (full_:=gs0++[(e,w)]) (fun kn' _ _ hk' hg hA=>?_) (fun kn' _ _ hk' hg hB=>?_) (pre:=[]) rfl rfl hk hs
      ·rw[evI_gd h hl hg,if_pos rfl];exact stepO_ok hG h hk' rfl (run:=run) cont hA
      ·rw[evI_gd h hl hg,if_neg (by simp),Option.bind_some];exact cont _ _ _ _ _ (h.put d (und_ok rfl)) hk' hB
  ·rename_i gs0 hl
   split at hs
   ·rename_i hg;obtain⟨b,h1,_,h3⟩:=h.sl g _ hl;rw[hg]at h1;cases h1;have he:evI cf mf s ⟨d,op,some (g,w)⟩=some (s.put d .und):=by simp only[evI,h3 rfl]
    rw[he,Option.bind_some];exact cont _ _ _ _ _ (h.put d (und_ok rfl)) hk hs
   ·cases hs
  ·cases hs
theorem symOps_ok(hG:Gok cf Sg_ G){kp:Keep}:∀{is:List KI} {S:SS} {kn:Gs} {ρ:List D} {s:St} {t:ST} {outs:List SO},Rel ρ S s→gsO ρ kn=some true→symOps hint Sg_ kp is S kn ρ.length=some (t,outs)→
  Fits G t outs ρ (nrm kp (evOps cf mf is s))
 |[],S,kn,ρ,s,t,outs,h,hk,hs=>by
  simp only[symOps,Option.some.injEq]at hs;exact leafO_ok (h.keep kp) hk hs
 |i::is,S,kn,ρ,s,t,outs,h,hk,hs=>by
  have bnd:nrm kp (evOps cf mf (i::is) s)=(evI cf mf s i).bind fun s'=>nrm kp (evOps cf mf is s'):=by
   simp only[evOps];cases evI cf mf s i<;>rfl
  rw[bnd];simp only[symOps]at hs;exact symI_ok hG h hk (run:=fun s'=>nrm kp (evOps cf mf is s')) (fun S' ρ' s' t outs h' hk' hs'=>symOps_ok hG h' hk' hs') hs
end
end
section
def KO.opx:KO→List KX
 | .st _ x y=>[x,y]
 | .mkrow _ _ xs=>xs
 | .app _ _ _ x y=>[x,y]
 | .call _ xs=>xs
 | .mrk _ x _=>[x]
 | .cut _ x _ _=>[x]
 | .cpy _ x _=>[x]
 | .jn x _=>[x]
 |_=>[]
def idsC(s:St):C→List Nat
 | .ptr b _=>b::rowsOf ((look s.bx b).getD [])
 | .ept r _ _ _=>[r]
 |c=>rowsOf c.cells
theorem ids_cells(s:St)(c:C):∀q∈rowsOf c.cells,q∈idsC s c:=by
 intro q h;cases c<;>first|exact h|(simp[C.cells,rowsOf]at h)
theorem ids_one(s:St)(c:C):∀q∈rowsOf [c],q∈idsC s c:=by
 intro q h;cases c<;>first|exact h|(simp[rowsOf]at h)
theorem ids_all(s:St)(f:C→List Nat)(hf:∀c,∀q∈f c,q∈idsC s c)(g:List C→List Nat)(h0:g []=[])(h1:∀c cs,g (c::cs)=f c++g cs):∀(xs:List KX),∀q∈g (xs.map (evX s)),∃x∈xs,q∈idsC s (evX s x)
 |[],q,h=>by simp[h0]at h
 |x::xs,q,h=>by
  rw[List.map_cons,h1]at h;rcases List.mem_append.1 h with h|h
  ·exact⟨x,by simp,hf _ q h⟩
  ·obtain⟨y,hy,hq⟩:=ids_all s f hf g h0 h1 xs q h;exact⟨y,by simp[hy],hq⟩
theorem touch_ids(s:St)(d:Option Nat)(op:KO):∀q∈touch s d op,q∈d.toList∨∃x∈op.opx,q∈idsC s (evX s x):=by
 intro q h;cases op with
 |st n x y=>
  simp only[touch]at h
  split at h
  ·rename_i b o hx;simp only[List.mem_singleton]at h;exact .inr ⟨x,by simp[KO.opx],by rw[hx];simp[idsC,h]⟩
  ·rename_i r k i o hx;rcases List.mem_cons.1 h with h|h
   ·exact .inr ⟨x,by simp[KO.opx],by rw[hx];simp[idsC,h]⟩
   ·exact .inr ⟨y,by simp[KO.opx],ids_cells s _ q h⟩
  ·cases h
 |mkrow k fl xs=>
  simp only[touch]at h;rcases List.mem_append.1 h with h|h
  ·exact .inl h
  ·exact .inr (ids_all s (fun c=>rowsOf c.cells) (ids_cells s) rowsAll rfl (fun _ _=>rfl) xs q h)
 |app k by_ fl x y=>
  simp only[touch]at h;rcases List.mem_append.1 h with h|h
  ·rcases List.mem_append.1 h with h|h
   ·exact .inl h
   ·exact .inr ⟨x,by simp[KO.opx],ids_one s _ q h⟩
  ·exact .inr ⟨y,by simp[KO.opx],ids_one s _ q h⟩
 |call f xs=>
  simp only[touch,callIds]at h;rcases List.mem_append.1 h with h|h
  ·rcases List.mem_append.1 h with h|h
   ·refine .inr (ids_all s (fun c=>match c with | .ptr b _=>[b]|_=>[]) (fun c q h=>?_) boxesOf rfl (fun c cs=>by cases c<;>rfl) xs q h)
    split at h
    ·simp only[List.mem_singleton]at h;simp[idsC,h]
    ·cases h
   ·refine .inr (ids_all s (moved s) (fun c q h=>?_) (movedAll s) rfl (fun c cs=>rfl) xs q h);unfold moved at h
    split at h
    ·simp only[idsC,List.mem_cons];exact .inr h
    ·cases h
  ·exact .inr (ids_all s (fun c=>rowsOf c.cells) (ids_cells s) lentAll rfl (fun _ _=>rfl) xs q h)
 |mrk f x y=>simp only[touch]at h;exact .inr ⟨x,by simp[KO.opx],ids_cells s _ q h⟩
 |cut k x lo hi=>
  simp only[touch]at h;rcases List.mem_append.1 h with h|h
  ·exact .inl h
  ·exact .inr ⟨x,by simp[KO.opx],ids_one s _ q h⟩
 |cpy k x y=>
  simp only[touch]at h;rcases List.mem_append.1 h with h|h
  ·exact .inl h
  ·exact .inr ⟨x,by simp[KO.opx],ids_one s _ q h⟩
 |jn x y=>
  simp only[touch]at h;rcases List.mem_append.1 h with h|h
  ·exact .inl h
  ·exact .inr ⟨x,by simp[KO.opx],ids_one s _ q h⟩
 |_=>exact .inl h
def idsS(S:SS):SC→Option (List Nat)
 | .b x=>if x.cell=true then some (rowsOfS [x]) else none
 | .agg xs=>if xs.all SB.cell=true then some (rowsOfS xs) else none
 | .ptr b _=>match look S.bx b with
  |some xs=>if xs.all SB.cell=true then some (b::rowsOfS xs) else none
  |none=>none
 | .ept r _ _ _=>some [r]
 | .dpt _ _=>some []
 | .tup _=>some []
 | .any=>none
def idsX(S:SS):KX→Option (List Nat)
 | .s d=>match look S.sl d with
  |some g=>if g.gs=undG.gs then some [] else idsS S g.c
  |none=>none
 |x=>match symX S [] x with
  |some c=>idsS S c
  |none=>none
def ldBoxS(S:SS)(gs:Gs):KO→Option (Option Nat)
 | .ld _ x=>match symX S gs x with
  |some (.ptr b _)=>some (some b)
  |some (.dpt _ _)=>some none
  |_=>none
 | .bts _=>none
 |_=>some none
def ldBoxG(S:SS)(kn:Gs)(i:KI):Option (Option Nat):=
 match i.gd with
 |none=>ldBoxS S kn i.op
 |some (g,w)=>match look S.sl g with
  |some ⟨gs0,.b (.d e)⟩=>if (gs0++[(e,w)]).any (fun p=>decide ((p.1,!p.2)∈kn))=true then some none else ldBoxS S ((gs0++[(e,w)])++kn) i.op
  |some ⟨gs0,.any⟩=>if gs0=undG.gs then some none else none
  |_=>none
def offS(S:SS)(tk:List (List Nat×Nat))(i:KI):Bool:=
 tk.all (fun p=>!(i.dst ==some p.2)) && i.op.opx.all fun x=>match idsX S x with
  |some l=>tk.all fun p=>!l.contains p.2
  |none=>tk.isEmpty
def SB.det:SB→Bool
 | .any=>false
 |_=>true
def detT:List (SB ⊕ List SB)→Bool
 |[]=>true
 | .inl x::xs=>x.det && detT xs
 | .inr l::xs=>l.all SB.det && detT xs
def SC.det:SC→Bool
 | .b x=>x.det
 | .agg xs=>xs.all SB.det
 | .tup xs=>detT xs
 | .any=>false
 |_=>true
def detS(kp:Keep)(S:SS):Bool:=
 kp.s.all (fun d=>match look S.sl d with
  |some g=>g.c.det ||decide (g.gs=undG.gs)
  |none=>false) && kp.b.all (fun b=>match look S.bx b with
  |some xs=>xs.all SB.det
  |none=>false) && kp.r.all fun r=>(look S.rw r).isSome
def symDs(hint:List Nat)(Sg_:List (Nat×SSig))(kp:Keep):KT→List (List Nat×Nat)→SS→Gs→Nat→Option (ST×List SO)
 | .nil,_,S,kn,n=>some (leafO none kn (S.keep kp))
 | .alt ⟨j,_,_,_,i⟩ is r,tk,S,kn,n=>
  if offS S (tkCut j tk) i=true then (match symI hint Sg_ S kn n i (fun S' kn' n'=>
    if (tkCut j tk).all (fun p=>(look S'.bx p.2).isSome)=true then symDs hint Sg_ kp is (tkCut j tk) S' kn' n' else none),symDs hint Sg_ kp r tk S kn n with
   |some (ta,oa),some (tb,ob)=>match addOs ob oa with
    |(f,outs)=>if outs.all (fun o=>detS kp o.S)=true then some (.both ta (mapT f tb),outs) else none
   |_,_=>none) else none
 | .op ⟨j,q,al,dn,i⟩ is,tk,S,kn,n=>
  if q=true then (if i.op.pure_=true then (match ldBoxG S kn i with
   |some b=>symI hint Sg_ S kn n i (fun S' kn' n'=>symDs hint Sg_ kp is (tkAdd dn tk b) S' kn' n')
   |none=>none) else none)
  else if offS S (tkCut j tk) i=true then symI hint Sg_ S kn n i (fun S' kn' n'=>
   if (tkCut j tk).all (fun p=>(look S'.bx p.2).isSome)=true then symDs hint Sg_ kp is (tkCut j tk) S' kn' n' else none) else none
section
variable {ρ:List D} {S:SS} {s:St} {G:Gf} {cf:Cf} {mf:Mf} {Sg_:List (Nat×SSig)} {hint:List Nat} {n:Nat} {d:Option Nat} {kn:Gs}
theorem idsS_ok(h:Rel ρ S s){c:SC}{v:C}{l:List Nat}(hc:SCr ρ c v)(hl:idsS S c=some l):∀q∈idsC s v,q∈l:=by
 intro q hq;cases c with
 |b x=>
  simp only[idsS]at hl
  split at hl
  ·rename_i hx;cases hl;cases x with
   |d e=>obtain⟨y,_,rfl⟩:=hc;simp[idsC,C.cells,rowsOf]at hq
   |nil k fl=>simp only[SCr,SBr]at hc;subst hc;simp[idsC,C.cells,rowsOf]at hq
   |ref r=>simp only[SCr,SBr]at hc;subst hc;simpa [idsC,C.cells,rowsOf,rowsOfS] using hq
   |any=>cases hx
  ·cases hl
 |agg xs=>
  simp only[idsS]at hl
  split at hl
  ·rename_i hx;cases hl;obtain⟨cs,rfl,h1⟩:=hc;simp only[idsC,C.cells]at hq
   rwa [rows_ok h1 hx]at hq
  ·cases hl
 |tup xs=>obtain⟨cs,rfl,h1⟩:=hc;simp[idsC,C.cells,rowsOf]at hq
 |ptr b o=>
  simp only[SCr]at hc;subst hc;simp only[idsS]at hl
  split at hl
  ·rename_i xs hb
   split at hl
   ·rename_i hx;cases hl;obtain⟨cs,h1,h2⟩:=h.bx b xs hb;simp only[idsC,h1,Option.getD_some]at hq
    rwa [rows_ok h2 hx]at hq
   ·cases hl
  ·cases hl
 |ept r k i o=>
  obtain⟨m,_,rfl⟩:=hc;cases hl;exact hq
 |dpt i o=>
  obtain⟨x,cs,_,_,rfl⟩:=hc;simp[idsC,C.cells,rowsOf]at hq
 |any=>cases hl
theorem idsX_ok(h:Rel ρ S s){x:KX}{l:List Nat}(hl:idsX S x=some l):∀q∈idsC s (evX s x),q∈l:=by
 cases x with
 |s d=>
  simp only[idsX]at hl
  split at hl
  ·rename_i g hg;obtain⟨b,h1,h2,h3⟩:=h.sl d g hg
   split at hl
   ·rename_i hu;rw[hu]at h1;cases h1;intro q hq;simp only[evX,h3 rfl,idsC,C.cells,rowsOf]at hq;cases hq
   ·cases b with
    |true=>exact idsS_ok h (h2 rfl) hl
    |false=>
     intro q hq;simp only[evX,h3 rfl,idsC,C.cells,rowsOf]at hq;cases hq
  ·cases hl
 |k c=>
  simp only[idsX]at hl
  split at hl
  ·rename_i c' hc;exact idsS_ok h (symX_rel h (gs:=[]) rfl hc) hl
  ·cases hl
theorem offS_ok(h:Rel ρ S s){tkS:List (List Nat×Nat)}{i:KI}(ho:offS S tkS i=true):∀p∈tkS,(!(touch s i.dst i.op).contains p.2)=true∧(!(i.dst ==some p.2))=true:=by
 intro p hp;simp only[offS,Bool.and_eq_true,List.all_eq_true]at ho;obtain⟨h1,h2⟩:=ho;refine⟨?_,h1 p hp⟩;rw[Bool.not_eq_true',Bool.eq_false_iff];intro hc;rcases touch_ids s i.dst i.op p.2 (by simpa using hc) with hd|⟨x,hx,hq⟩
 ·have:=h1 p hp;cases hi:i.dst with
  |none=>rw[hi]at hd;simp at hd
  |some a=>rw[hi]at hd this;simp at hd;simp[hd]at this
 ·have:=h2 x hx
  split at this
  ·rename_i l hl;have h3:=List.all_eq_true.1 this p hp;have h4:=idsX_ok h hl _ hq;simp[h4]at h3
  ·cases tkS with
   |nil=>cases hp
   |cons a b=>cases this
theorem ldBoxS_ok(h:Rel ρ S s){gs:Gs}(hg:gsO ρ gs=some true){op:KO}{b:Option Nat}(hl:ldBoxS S gs op=some b):ldBox s op=some b:=by
 cases op with
 |ld n x=>
  simp only[ldBoxS]at hl
  split at hl
  ·rename_i b' o hx;cases hl;have:=symX_rel h hg hx;simp only[SCr]at this;simp only[ldBox,this]
  ·rename_i i o hx;cases hl;obtain⟨x,cs,_,_,e⟩:=symX_rel h hg hx;simp only[ldBox,e]
  ·cases hl
 |bts x=>cases hl
 |_=>exact hl
theorem quiet_ok(h:Rel ρ S s)(hk:gsO ρ kn=some true){kp:Keep}{j:Nat}{al dn:List Nat}{i:KI}{is:KT}{tk:List (List Nat×Nat)}{b:Option Nat}(hp:i.op.pure_=true)(hb:ldBoxG S kn i=some b) :
  ∃tk',(∀p∈tk',p∈tkAdd dn tk b)∧evDs cf mf kp (.op ⟨j,true,al,dn,i⟩ is) tk s=(evI cf mf s i).bind (evDs cf mf kp is tk'):=by
 have hsub:∀p∈tk,p∈tkAdd dn tk b:=by
  intro p hp;unfold tkAdd;split
  ·exact List.mem_cons_of_mem _ hp
  ·exact hp
 have now:∀{gs:Gs},gsO ρ gs=some true→ldBoxS S gs i.op=some b→(match evP s i.op,ldBox s i.op with
   |some c,some b=>evDs cf mf kp is (tkAdd dn tk b) (s.put i.dst c)
   |_,_=>none)=(evO cf mf s i.dst i.op).bind (evDs cf mf kp is (tkAdd dn tk b)):=by
  intro gs hg hl;rw[ldBoxS_ok h hg hl];simp only[evO,hp,if_true];cases evP s i.op<;>rfl
 obtain⟨d,op,gd⟩:=i;cases gd with
 |none=>
  refine⟨_,fun p hp=>hp,?_⟩;simp only[evDs,if_true,evI];exact now hk hb
 |some gw=>
  obtain⟨g,w⟩:=gw;simp only[ldBoxG]at hb;simp only[evDs,if_true,evI];cases hc:s.get g with
  |d x=>
   cases x with
   |bool t=>
    simp only
    by_cases ht:t=w
    ·subst ht;simp only[if_true];refine⟨_,fun p hp=>hp,?_⟩
     split at hb
     ·rename_i gs0 e hl;obtain⟨b0,h1,h2,h3⟩:=h.sl g _ hl;cases b0 with
      |false=>rw[h3 rfl]at hc;cases hc
      |true=>
       obtain⟨x,q1,q2⟩:=h2 rfl;rw[hc]at q2;cases q2;have hg:=gs_app h1 (gs_of (gs:=[(e,t)]) fun q hq=>by simp only[List.mem_singleton]at hq;subst hq;exact q1)
       split at hb
       ·rename_i ha;obtain⟨p,hp,hq⟩:=List.any_eq_true.1 ha;have x1:=gs_all hg p hp;have x2:=gs_all hk _ (of_decide_eq_true hq);simp only[x1]at x2;exact absurd x2 (by cases p.2<;>simp)
       ·exact now (gs_app hg hk) hb
     ·rename_i gs0 hl
      split at hb
      ·rename_i hu;obtain⟨b0,h1,_,h3⟩:=h.sl g _ hl;rw[hu]at h1;cases h1;rw[h3 rfl]at hc;cases hc
      ·cases hb
     ·cases hb
    ·simp only[if_neg ht,Option.bind_some];exact⟨tk,hsub,rfl⟩
   |_=>exact⟨tk,hsub,rfl⟩
  |und=>simp only[Option.bind_some];exact⟨tk,hsub,rfl⟩
  |_=>exact⟨tk,hsub,rfl⟩
theorem tkCut_sub{j:Nat}{tk tkS:List (List Nat×Nat)}(h:∀p∈tk,p∈tkS):∀p∈tkCut j tk,p∈tkCut j tkS:=fun p hp=>by
 obtain⟨h1,h2⟩:=List.mem_filter.1 hp;exact List.mem_filter.2 ⟨h p h1,h2⟩
theorem tkAdd_sub{dn:List Nat}{b:Option Nat}{tk tkS:List (List Nat×Nat)}(h:∀p∈tk,p∈tkS):∀p∈tkAdd dn tk b,p∈tkAdd dn tkS b:=fun p hp=>by
 cases b with
 |none=>exact h p hp
 |some b=>
  rcases List.mem_cons.1 hp with hp|hp
  ·exact hp▸List.mem_cons_self
  ·exact List.mem_cons_of_mem _ (h p hp)
theorem nth_in'{α:Type}:∀{l:List α} {i:Nat} {x:α},nth l i=some x→x∈l
 |y::l,0,x,h=>by cases h;exact List.mem_cons_self
 |y::l,i+1,x,h=>List.mem_cons_of_mem _ (nth_in' (l:=l) h)
theorem SBr.det{x:SB}{c c':C}(hd:x.det=true)(h:SBr ρ x c)(h':SBr ρ x c'):c=c':=by
 cases x with
 |d e=>
  obtain⟨y,h1,rfl⟩:=h;obtain⟨z,h2,rfl⟩:=h';rw[h1]at h2;cases h2;rfl
 |any=>cases hd
 |_=>simp only[SBr]at h h';rw[h,h']
theorem SBr.ne{x:SB}{c:C}(hd:x.det=true)(h:SBr ρ x c):c≠.any:=by
 cases x with
 |d e=>obtain⟨y,h1,rfl⟩:=h;intro h;cases h
 |any=>cases hd
 |_=>simp only[SBr]at h;subst h;intro h;cases h
theorem SBrs.det:∀{xs:List SB} {cs cs':List C},xs.all SB.det=true→SBrs ρ xs cs→SBrs ρ xs cs'→cs=cs'
 |[],_,_,_,h,h'=>by simp only[SBrs]at h h';rw[h,h']
 |x::xs,_,_,hd,⟨c,cs,h0,h1,h2⟩,⟨c',cs',g0,g1,g2⟩=>by
  simp only[List.all_cons,Bool.and_eq_true]at hd;rw[h0,g0,h1.det hd.1 g1,SBrs.det hd.2 h2 g2]
theorem STr.det:∀{xs:List (SB ⊕ List SB)} {cs cs':List C},detT xs=true→STr ρ xs cs→STr ρ xs cs'→cs=cs'
 |[],_,_,_,h,h'=>by simp only[STr]at h h';rw[h,h']
 | .inl x::xs,_,_,hd,⟨c,cs,h0,h1,h2⟩,⟨c',cs',g0,g1,g2⟩=>by
  simp only[detT,Bool.and_eq_true]at hd;rw[h0,g0,h1.det hd.1 g1,STr.det hd.2 h2 g2]
 | .inr l::xs,_,_,hd,⟨c,cs,h0,h1,h2⟩,⟨c',cs',g0,g1,g2⟩=>by
  simp only[detT,Bool.and_eq_true]at hd;rw[h0,g0,h1.det hd.1 g1,STr.det hd.2 h2 g2]
theorem SCr.det{x:SC}{c c':C}(hd:x.det=true)(h:SCr ρ x c)(h':SCr ρ x c'):c=c':=by
 cases x with
 |b x=>exact SBr.det hd h h'
 |agg xs=>
  obtain⟨cs,rfl,h1⟩:=h;obtain⟨cs',rfl,h2⟩:=h';rw[h1.det hd h2]
 |tup xs=>
  obtain⟨cs,rfl,h1⟩:=h;obtain⟨cs',rfl,h2⟩:=h';rw[h1.det hd h2]
 |ptr b o=>simp only[SCr]at h h';rw[h,h']
 |ept r k i o=>
  obtain⟨m,h1,rfl⟩:=h;obtain⟨m',h2,rfl⟩:=h';rw[h1]at h2;cases h2;rfl
 |dpt i o=>
  obtain⟨x,cs,h1,h2,rfl⟩:=h;obtain⟨x',cs',h3,h4,rfl⟩:=h';rw[h1]at h3;cases h3;rw[h2]at h4;cases h4;rfl
 |any=>cases hd
theorem SCr.ne{x:SC}{c:C}(hd:x.det=true)(h:SCr ρ x c):c≠.any:=by
 cases x with
 |b x=>exact SBr.ne hd h
 |agg xs=>obtain⟨cs,rfl,h1⟩:=h;intro h;cases h
 |tup xs=>obtain⟨cs,rfl,h1⟩:=h;intro h;cases h
 |ptr b o=>simp only[SCr]at h;subst h;intro h;cases h
 |ept r k i o=>obtain⟨m,h1,rfl⟩:=h;intro h;cases h
 |dpt i o=>obtain⟨x,cs,h1,h2,rfl⟩:=h;intro h;cases h
 |any=>cases hd
theorem keepL_eq{α:Type}(l l':List (Nat×α)):∀(ds:List Nat),(∀d∈ds,∃x,look l d=some x∧look l' d=some x)→keepL l ds=keepL l' ds
 |[],_=>rfl
 |d::ds,h=>by
  obtain⟨x,h1,h2⟩:=h d (by simp);simp only[keepL,h1,h2,keepL_eq l l' ds fun e he=>h e (by simp[he])]
theorem keep_det{kp:Keep}{s s':St}(h:Rel ρ S (s.keep kp))(h':Rel ρ S (s'.keep kp))(hd:detS kp S=true):s.keep kp=s'.keep kp:=by
 simp only[detS,Bool.and_eq_true,List.all_eq_true]at hd;obtain⟨⟨h1,h2⟩,h3⟩:=hd;have e1:keepL s.sl kp.s=keepL s'.sl kp.s:=by
  refine keepL_eq _ _ _ fun d hm=>?_;have hq:=h1 d hm
  split at hq
  ·rename_i g hg;obtain⟨b,q1,q2,q3⟩:=h.sl d g hg;obtain⟨b',r1,r2,r3⟩:=h'.sl d g hg;rw[q1]at r1;cases r1;have hv:(s.keep kp).get d=(s'.keep kp).get d∧(s.keep kp).get d≠.any:=by
    cases b with
    |false=>rw[q3 rfl,r3 rfl];exact⟨rfl,by intro h;cases h⟩
    |true=>
     have hc:g.c.det=true:=by
      simp only[Bool.or_eq_true,decide_eq_true_eq]at hq;rcases hq with hq|hq
      ·exact hq
      ·rw[hq]at q1;cases q1
     exact⟨(q2 rfl).det hc (r2 rfl),(q2 rfl).ne hc⟩
   rw[keep_get s kp hm,keep_get s' kp hm]at hv;unfold St.get at hv;cases h4:look s.sl d with
   |none=>rw[h4]at hv;exact absurd rfl hv.2
   |some x=>
    cases h5:look s'.sl d with
    |none=>rw[h4,h5]at hv;exact absurd hv.1 (by intro h;rw[h]at hv;exact hv.2 rfl)
    |some y=>rw[h4,h5]at hv;exact⟨x,rfl,by rw[show y=x from hv.1.symm]⟩
  ·cases hq
 have e2:keepL s.bx kp.b=keepL s'.bx kp.b:=by
  refine keepL_eq _ _ _ fun d hm=>?_;have hq:=h2 d hm
  split at hq
  ·rename_i xs hx;obtain⟨cs,q1,q2⟩:=h.bx d xs hx;obtain⟨cs',r1,r2⟩:=h'.bx d xs hx;have:=q2.det hq r2;subst this;exact⟨cs,(keep_some _ _ q1).1,(keep_some _ _ r1).1⟩
  ·cases hq
 have e3:keepL s.rw kp.r=keepL s'.rw kp.r:=by
  refine keepL_eq _ _ _ fun d hm=>?_;obtain⟨x,hx⟩:=Option.isSome_iff_exists.1 (h3 d hm);obtain⟨y,q1,es,q2,rfl⟩:=h.rw d x hx;obtain⟨y',r1,es',r2,rfl⟩:=h'.rw d x hx;rw[q2]at r2;cases r2;exact⟨_,(keep_some _ _ q1).1,(keep_some _ _ r1).1⟩
 simp only[St.keep,e1,e2,e3]
theorem both_ok'{α:Type}{a b:Option α}{r:α}(h:both a b=some r):a=some r:=by
 unfold both at h
 split at h
 ·split at h
  ·cases h;rfl
  ·cases h
 ·cases h
theorem evDs_keep{kp:Keep}:∀{is:KT} {tk:List (List Nat×Nat)} {s s':St},evDs cf mf kp is tk s=some s'→∃s0:St,s'=s0.keep kp
 | .nil,tk,s,s',h=>by simp only[evDs,Option.some.injEq]at h;exact⟨s,h.symm⟩
 | .op ⟨j,q,al,dn,i⟩ is,tk,s,s',h=>by
  simp only[evDs]at h
  split at h
  ·split at h
   ·split at h
    ·exact evDs_keep h
    ·cases h
   ·split at h
    ·split at h
     ·split at h
      ·exact evDs_keep h
      ·cases h
     ·exact evDs_keep h
    ·exact evDs_keep h
    ·cases h
  ·simp only[stepN]at h
   split at h
   ·split at h
    ·exact evDs_keep h
    ·cases h
   ·cases h
 | .alt x is r,tk,s,s',h=>by
  simp only[evDs]at h;have h1:=both_ok' h;simp only[stepN]at h1
  split at h1
  ·split at h1
   ·exact evDs_keep h1
   ·cases h1
  ·cases h1
theorem symDs_ok(hG:Gok cf Sg_ G){kp:Keep}:∀{is:KT} {tk tkS:List (List Nat×Nat)} {S:SS} {kn:Gs} {ρ:List D} {s:St} {t:ST} {outs:List SO},(∀p∈tk,p∈tkS)→Rel ρ S s→gsO ρ kn=some true→symDs hint Sg_ kp is tkS S kn ρ.length=some (t,outs)→
  Fits G t outs ρ (nrd (evDs cf mf kp is tk s))
 | .nil,tk,tkS,S,kn,ρ,s,t,outs,ht,h,hk,hs=>by
  simp only[symDs,Option.some.injEq]at hs;exact leafO_ok (h.keep kp) hk hs
 | .alt ⟨j,q,al,dn,i⟩ is r,tk,tkS,S,kn,ρ,s,t,outs,ht,h,hk,hs=>by
  simp only[symDs]at hs
  split at hs
  ·rename_i ho
   split at hs
   ·rename_i ta oa tb ob hA hB;generalize hq:addOs ob oa=q at hs;obtain⟨f,outs'⟩:=q;simp only at hs
    split at hs
    ·rename_i hdet;cases hs;obtain⟨q1,q2⟩:=addOs_ok hq;have fA:Fits G ta oa ρ (nrd (stepN cf mf ⟨j,q,al,dn,i⟩ tk s (evDs cf mf kp is))):=by
      have hoff:=offS_ok h ho;have bnd:nrd (stepN cf mf ⟨j,q,al,dn,i⟩ tk s (evDs cf mf kp is))=(evI cf mf s i).bind fun s'=>if (tkCut j tk).all (fun p=>!(touch s i.dst i.op).contains p.2 && (look s'.bx p.2).isSome && !(i.dst ==some p.2))=true then nrd (evDs cf mf kp is (tkCut j tk) s') else none:=by
       simp only[stepN];cases evI cf mf s i with
       |none=>rfl
       |some s'=>simp only[Option.bind_some];split<;>rfl
      rw[bnd];refine symI_ok hG h hk (run:=fun s'=>if (tkCut j tk).all (fun p=>!(touch s i.dst i.op).contains p.2 && (look s'.bx p.2).isSome && !(i.dst ==some p.2))=true then nrd (evDs cf mf kp is (tkCut j tk) s') else none) (fun S' ρ' s' t outs h' hk' hs'=>?_) hA
      split at hs'
      ·rename_i ha;have hc:(tkCut j tk).all (fun p=>!(touch s i.dst i.op).contains p.2 && (look s'.bx p.2).isSome && !(i.dst ==some p.2))=true:=by
        rw[List.all_eq_true];intro p hp;have hp':=tkCut_sub (j:=j) ht p hp;obtain⟨h1,h2⟩:=hoff p hp';have h3:=List.all_eq_true.1 ha p hp';have h4:(look s'.bx p.2).isSome=true:=by
         obtain⟨xs,hx⟩:=Option.isSome_iff_exists.1 h3;obtain⟨cs,hcs,_⟩:=h'.bx p.2 xs hx;rw[hcs];rfl
        rw[h1,h2,h4];rfl
       show Fits G t outs ρ' (if _ then _ else _);rw[if_pos hc];exact symDs_ok hG (tkCut_sub ht) h' hk' hs'
      ·cases hs'
     have fB:=symDs_ok hG ht h hk hB;intro j' σ hd;simp only[denT]at hd;obtain⟨d1,d2⟩:=bothT_ok hd;obtain⟨o,sA,g1,g2,g3,g4⟩:=fA.more q2 j' σ d1;obtain⟨o',sB,w1,w2,w3,w4⟩:=fB.map q1 j' σ d2;rw[g1]at w1;cases w1;have hA':∃a,stepN cf mf ⟨j,q,al,dn,i⟩ tk s (evDs cf mf kp is)=some a:=by
      cases hx:stepN cf mf ⟨j,q,al,dn,i⟩ tk s (evDs cf mf kp is) with
      |none=>rw[hx]at g2;cases g2
      |some a=>exact⟨a,rfl⟩
     have hB':∃b,evDs cf mf kp r tk s=some b:=by
      cases hx:evDs cf mf kp r tk s with
      |none=>rw[hx]at w2;cases w2
      |some a=>exact⟨a,rfl⟩
     obtain⟨a,ha⟩:=hA';obtain⟨b,hb⟩:=hB';have ka:∃s0:St,a=s0.keep kp:=by
      have ha':=ha;simp only[stepN]at ha'
      split at ha'
      ·split at ha'
       ·exact evDs_keep ha'
       ·cases ha'
      ·cases ha'
     obtain⟨a0,rfl⟩:=ka;obtain⟨b0,rfl⟩:=evDs_keep hb;rw[ha]at g2;rw[hb]at w2;simp only[nrd,Option.some.injEq,Prod.mk.injEq]at g2 w2;obtain⟨ex,rfl⟩:=g2;obtain⟨_,rfl⟩:=w2;have he:=keep_det g4 w4 (List.all_eq_true.1 hdet o (nth_in' g1));refine⟨o,_,g1,?_,g3,g4⟩;simp only[evDs,ha,hb,both,he,if_true,nrd,ex]
    ·cases hs
   ·cases hs
  ·cases hs
 | .op ⟨j,q,al,dn,i⟩ is,tk,tkS,S,kn,ρ,s,t,outs,ht,h,hk,hs=>by
  simp only[symDs]at hs
  split at hs
  ·rename_i hq;subst hq
   split at hs
   ·rename_i hp
    split at hs
    ·rename_i b hb;obtain⟨tk',h1,h2⟩:=quiet_ok (cf:=cf) (mf:=mf) (kp:=kp) (j:=j) (al:=al) (dn:=dn) (is:=is) (tk:=tk) h hk hp hb;rw[h2];have bnd:nrd ((evI cf mf s i).bind (evDs cf mf kp is tk'))=(evI cf mf s i).bind fun s'=>nrd (evDs cf mf kp is tk' s'):=by cases evI cf mf s i<;>rfl
     rw[bnd];exact symI_ok hG h hk (run:=fun s'=>nrd (evDs cf mf kp is tk' s')) (fun S' ρ' s' t outs h' hk' hs'=>symDs_ok hG (fun p hp=>tkAdd_sub ht p (h1 p hp)) h' hk' hs') hs
    ·cases hs
   ·cases hs
  ·rename_i hq;have hq:q=false:=by
    cases q with
    |false=>rfl
    |true=>exact absurd rfl hq
   subst hq
   split at hs
   ·rename_i ho;have hoff:=offS_ok h ho;have bnd:nrd (evDs cf mf kp (.op ⟨j,false,al,dn,i⟩ is) tk s)=(evI cf mf s i).bind fun s'=>if (tkCut j tk).all (fun p=>!(touch s i.dst i.op).contains p.2 && (look s'.bx p.2).isSome && !(i.dst ==some p.2))=true then nrd (evDs cf mf kp is (tkCut j tk) s') else none:=by
     simp only[evDs,stepN,Bool.false_eq_true,if_false];cases evI cf mf s i with
     |none=>rfl
     |some s'=>simp only[Option.bind_some];split<;>rfl
    rw[bnd];refine symI_ok hG h hk (run:=fun s'=>if (tkCut j tk).all (fun p=>!(touch s i.dst i.op).contains p.2 && (look s'.bx p.2).isSome && !(i.dst ==some p.2))=true then nrd (evDs cf mf kp is (tkCut j tk) s') else none) (fun S' ρ' s' t outs h' hk' hs'=>?_) hs
    split at hs'
    ·rename_i ha;have hc:(tkCut j tk).all (fun p=>!(touch s i.dst i.op).contains p.2 && (look s'.bx p.2).isSome && !(i.dst ==some p.2))=true:=by
      rw[List.all_eq_true];intro p hp;have hp':=tkCut_sub (j:=j) ht p hp;obtain⟨h1,h2⟩:=hoff p hp';have h3:=List.all_eq_true.1 ha p hp';have h4:(look s'.bx p.2).isSome=true:=by
       obtain⟨xs,hx⟩:=Option.isSome_iff_exists.1 h3;obtain⟨cs,hcs,_⟩:=h'.bx p.2 xs hx;rw[hcs];rfl
      rw[h1,h2,h4];rfl
     show Fits G t outs ρ' (if _ then _ else _);rw[if_pos hc];exact symDs_ok hG (tkCut_sub ht) h' hk' hs'
    ·cases hs'
   ·cases hs
end
end
section
def fanX{α:Type}(k:α→Option (ST×List SO)):List α→List SO→Option (ST×List SO)
 |[],acc=>some (.nil,acc)
 |v::vs,acc=>match k v with
  |some (t,os)=>match addOs os acc with
   |(f,acc1)=>match fanX k vs acc1 with
    |some (ts,acc2)=>some (.cons (mapT f t) ts,acc2)
    |none=>none
  |none=>none
def varsE:Nat→Nat→List SE
 |_,0=>[]
 |c,m+1=>.v c::varsE (c+1) m
def idO(o:SO):ST×List SO:=(.leaf 0 (varsE 0 o.m),[o])
def blkO(id:Nat)(o:SO):SO:=if o.x=some (some id) then {o with x:=none } else o
def dist:List SO→List SO→List SO→List Nat×List SO×List SO
 |[],hs,outs=>([],hs,outs)
 |o::os,hs,outs=>if o.x=none then (match addO o hs with
   |(j,hs')=>match dist os hs' outs with
    |(f,r)=>(2 * j::f,r))
  else match addO o outs with
   |(j,outs')=>match dist os hs outs' with
    |(f,r)=>((2 * j+1)::f,r)
def loopH(k:SS→Nat→Option (ST×List SO)):Nat→Nat→List SO→List SO→Option (ST×List SO×List SO)
 |0,_,_,_=>none
 |fuel+1,i,hs,outs=>match nth hs i with
  |none=>some (.nil,hs,outs)
  |some o=>match k o.S o.m with
   |some (t,os)=>match dist os hs outs with
    |(f,hs',outs')=>match loopH k fuel (i+1) hs' outs' with
     |some (ts,r)=>some (.cons (.map f t) ts,r)
     |none=>none
   |none=>none
def datB(S:SS):SB→SB
 | .ref r=>match look S.rw r with
  |some x=>.d x.e
  |none=>.any
 |x=>x
def kn0:Gs:=[(.k (.bool true),true),(.k (.bool false),false)]
def symC(hint:List Nat)(Sg_:List (Nat×SSig)):K→SS→Nat→Option (ST×List SO)
 | .skip,S,_=>some (leafO none [] S)
 | .exit id,S,_=>some (leafO (some (some id)) [] S)
 | .ret,S,_=>some (leafO (some none) [] S)
 | .reg ops kp,S,m=>symOps hint Sg_ kp ops S kn0 m
 | .drw ops kp,S,m=>symDs hint Sg_ kp ops [] S kn0 m
 | .seq a b,S,m=>match symC hint Sg_ a S m with
  |some (ta,oa)=>match fanX (fun o=>if o.x=none then symC hint Sg_ b o.S o.m else some (idO o)) oa []with
   |some (ts,outs)=>some (.seq ta ts,outs)
   |none=>none
  |none=>none
 | .cond c a b,S,m=>match sD (symX S [] c),symC hint Sg_ a S m,symC hint Sg_ b S m with
  |some e,some (ta,oa),some (tb,ob)=>match addOs ob oa with
   |(f,outs)=>some (.gd [(e,true)] ta (mapT f tb),outs)
  |_,_,_=>none
 | .block id a,S,m=>match symC hint Sg_ a S m with
  |some (t,outs)=>match addOs (outs.map (blkO id)) []with
   |(f,outs')=>some (mapT f t,outs')
  |none=>none
 | .share r a,S,m=>match shareS S [r]with
  |some S'=>symC hint Sg_ a S' m
  |none=>none
 | .dat d a,S,m=>match look S.sl d with
  |some ⟨[],.b (.ref r)⟩=>match look S.rw r with
   |some x=>symC hint Sg_ a ((S.setRow r x.share).put (some d) ⟨[],.b (.d x.e)⟩) m
   |none=>none
  |some ⟨[],.b (.d _)⟩=>symC hint Sg_ a S m
  |some ⟨[],.b (.nil _ _)⟩=>symC hint Sg_ a S m
  |some ⟨[],.ptr b 0⟩=>match look S.bx b with
   |some xs=>match shareS S (rowsOfS xs) with
    |some S'=>if xs.all SB.cell=true then symC hint Sg_ a (S'.setBox b (xs.map (datB S))) m else none
    |none=>none
   |none=>none
  |_=>none
 | .loop a,S,m=>match canS [] S with
  |(S',es)=>match loopH (symC hint Sg_ a) 40 0 [⟨none,S',es.length⟩] []with
   |some (ts,_,outs)=>some (.loop 0 es ts,outs)
   |none=>none
section
variable {ρ:List D} {S:SS} {s:St} {G:Gf} {T:Nat→Option KF} {mf:Mf} {Sg_:List (Nat×SSig)} {hint:List Nat}
theorem fanX_ok{α:Type}{k:α→Option (ST×List SO)}:∀{vs:List α} {acc acc':List SO} {ts:ST},fanX k vs acc=some (ts,acc')→
  (∀i x,nth acc i=some x→nth acc' i=some x)∧∀j v,nth vs j=some v→∃t os,k v=some (t,os)∧∀run ρ,Fits G t os ρ run→FitsAt G ts j acc' ρ run
 |[],acc,acc',ts,h=>by cases h;exact⟨fun _ _ hx=>hx,fun j v hv=>(by cases hv)⟩
 |v::vs,acc,acc',ts,h=>by
  simp only[fanX]at h
  split at h
  ·rename_i t os hk;generalize hq:addOs os acc=q at h;obtain⟨f,acc1⟩:=q;simp only at h
   split at h
   ·rename_i ts' acc2 hf;cases h;obtain⟨h1,h2⟩:=addOs_ok hq;obtain⟨h3,h4⟩:=fanX_ok hf;refine⟨fun i x hx=>h3 i x (h2 i x hx),fun j w hw=>?_⟩;cases j with
    |zero=>
     cases hw;refine⟨t,os,hk,fun run ρ hfit i σ hd=>?_⟩;have:=hfit.map (f:=f) (outs':=acc') (fun i o ho=>by obtain⟨j,q1,q2⟩:=h1 i o ho;exact⟨j,q1,h3 j o q2⟩);exact this i σ hd
    |succ j=>
     obtain⟨t',os',g1,g2⟩:=h4 j w hw;exact⟨t',os',g1,fun run ρ hfit i σ hd=>g2 run ρ hfit i σ hd⟩
   ·cases h
  ·cases h
theorem varsE_ok:∀{σ σ0:List D},evE (σ0++σ) (varsE σ0.length σ.length)=some σ
 |[],_=>rfl
 |x::σ,σ0=>by
  have h1:SE.d (σ0++x::σ) (.v σ0.length)=some x:=nth_new σ0 x σ;have h2:=varsE_ok (σ:=σ) (σ0:=σ0++[x]);rw[List.length_append,List.append_assoc]at h2;simp only[List.length_cons,varsE,evE,h1];have h3:evE (σ0++x::σ) (varsE (σ0.length+1) σ.length)=some σ:=h2;rw[h3];rfl
theorem idO_ok{o:SO}(hl:ρ.length=o.m)(h:Rel ρ o.S s):Fits G (idO o).1 (idO o).2 ρ (some (exS o.x,s)):=by
 intro j σ hd;simp only[idO,denT]at hd;have:=varsE_ok (σ:=ρ) (σ0:=[]);simp only[List.nil_append,List.length_nil,hl]at this;rw[this]at hd;cases hd;exact⟨o,s,rfl,rfl,hl,h⟩
theorem dist_ok:∀{os hs outs:List SO} {f:List Nat} {hs' outs':List SO},dist os hs outs=(f,hs',outs')→
  (∀i x,nth hs i=some x→nth hs' i=some x)∧(∀i x,nth outs i=some x→nth outs' i=some x)∧
  ∀i o,nth os i=some o→∃c,nth f i=some c∧if o.x=none then (∃j,c=2 * j∧nth hs' j=some o) else ∃j,c=2 * j+1∧nth outs' j=some o
 |[],hs,outs,f,hs',outs',h=>by cases h;exact⟨fun _ _ h=>h,fun _ _ h=>h,fun i o ho=>(by cases ho)⟩
 |o::os,hs,outs,f,hs',outs',h=>by
  simp only[dist]at h
  split at h
  ·rename_i hx;generalize hq:addO o hs=q at h;obtain⟨j,hs1⟩:=q;simp only at h
   generalize hq2:dist os hs1 outs=q at h;obtain⟨f',hs2,outs2⟩:=q;cases h;obtain⟨h1,h2⟩:=addO_ok o hq;obtain⟨h3,h4,h5⟩:=dist_ok hq2;refine⟨fun i x hx=>h3 i x (h2 i x hx),h4,fun i p hp=>?_⟩;cases i with
   |zero=>cases hp;exact⟨2 * j,rfl,by rw[if_pos hx];exact⟨j,rfl,h3 j _ h1⟩⟩
   |succ i=>exact h5 i p hp
  ·rename_i hx;generalize hq:addO o outs=q at h;obtain⟨j,outs1⟩:=q;simp only at h
   generalize hq2:dist os hs outs1=q at h;obtain⟨f',hs2,outs2⟩:=q;cases h;obtain⟨h1,h2⟩:=addO_ok o hq;obtain⟨h3,h4,h5⟩:=dist_ok hq2;refine⟨h3,fun i x hx=>h4 i x (h2 i x hx),fun i p hp=>?_⟩;cases i with
   |zero=>cases hp;exact⟨2 * j+1,rfl,by rw[if_neg hx];exact⟨j,rfl,h4 j _ h1⟩⟩
   |succ i=>exact h5 i p hp
theorem loopH_ok{k:SS→Nat→Option (ST×List SO)}:∀{fuel i:Nat} {hs outs H O:List SO} {ts:ST},loopH k fuel i hs outs=some (ts,H,O)→
  (∀j x,nth hs j=some x→nth H j=some x)∧(∀j x,nth outs j=some x→nth O j=some x)∧
  ∀j o,nth H (i+j)=some o→∃t os f,k o.S o.m=some (t,os)∧(∀ρ,denT G ts j ρ=denT G (.map f t) 0 ρ)∧∀l o',nth os l=some o'→∃c,nth f l=some c∧if o'.x=none then (∃j,c=2 * j∧nth H j=some o') else ∃j,c=2 * j+1∧nth O j=some o'
 |0,_,_,_,_,_,_,h=>by cases h
 |fuel+1,i,hs,outs,H,O,ts,h=>by
  simp only[loopH]at h
  split at h
  ·rename_i hn;cases h;refine⟨fun _ _ h=>h,fun _ _ h=>h,fun j o ho=>?_⟩
   exfalso
   have h1:=nth_bound ho;have h2:∀{l:List SO} {i:Nat},nth l i=none→l.length≤i:=by
    intro l
    induction l with
    |nil=>intro i _;exact Nat.zero_le _
    |cons x l ih=>
     intro i hi;cases i with
     |zero=>cases hi
     |succ i=>have:=ih (i:=i) hi;simp only[List.length_cons];omega
   have:=h2 hn;omega
  ·rename_i o ho
   split at h
   ·rename_i t os hk;generalize hq:dist os hs outs=q at h;obtain⟨f,hs',outs'⟩:=q;simp only at h
    split at h
    ·rename_i ts' r hr;obtain⟨H',O'⟩:=r;cases h;obtain⟨h1,h2,h3⟩:=dist_ok hq;obtain⟨h4,h5,h6⟩:=loopH_ok hr;refine⟨fun j x hx=>h4 j x (h1 j x hx),fun j x hx=>h5 j x (h2 j x hx),fun j p hp=>?_⟩;cases j with
     |zero=>
      rw[Nat.add_zero,h4 i o (h1 i o ho)]at hp;cases hp;refine⟨t,os,f,hk,fun ρ=>rfl,fun l o' hl=>?_⟩;obtain⟨c,q1,q2⟩:=h3 l o' hl;refine⟨c,q1,?_⟩
      split at q2
      ·rename_i hx;rw[if_pos hx];obtain⟨j,q3,q4⟩:=q2;exact⟨j,q3,h4 j o' q4⟩
      ·rename_i hx;rw[if_neg hx];obtain⟨j,q3,q4⟩:=q2;exact⟨j,q3,h5 j o' q4⟩
     |succ j=>
      obtain⟨t',os',f',g1,g2,g3⟩:=h6 j p (by rw[Nat.add_assoc,Nat.add_comm 1 j];exact hp);exact⟨t',os',f',g1,fun ρ=>g2 ρ,g3⟩
    ·cases h
   ·cases h
theorem thn_ne{g:St→Option (Ex×St)}{x:SX}{s:St}(h:x≠none):thn g (some (exS x,s))=some (exS x,s):=by
 cases x with
 |none=>exact absurd rfl h
 |some y=>cases y<;>rfl
theorem blk_o{id:Nat}{o:SO}{s:St}:blk id (some (exS o.x,s))=some (exS (blkO id o).x,s):=by
 unfold blkO;split
 ·rename_i h;rw[h];simp[exS,blk]
 ·rename_i h;rcases hx:o.x with _|_|i
  ·rfl
  ·rfl
  ·have:i≠id:=by rintro rfl;exact h hx
   simp[exS,blk,this]
theorem nth_mapS{α β:Type}(f:α→β):∀{l:List α} {i:Nat} {x:α},nth l i=some x→nth (l.map f) i=some (f x)
 |_::_,0,_,h=>by cases h;rfl
 |_::l,i+1,_,h=>nth_mapS f (l:=l) h
 |[],_,_,h=>by cases h
theorem shareS_has:∀{rs:List Nat} {S S':SS},shareS S rs=some S'→∀r∈rs,∃x y,look S.rw r=some x∧look S'.rw r=some y
 |[],_,_,_,r,hr=>by cases hr
 |q::rs,S,S',h,r,hr=>by
  simp only[shareS]at h
  split at h
  ·rename_i x hx;have keep:∀{rs:List Nat} {S S':SS} {r:Nat} {y:SR},shareS S rs=some S'→look S.rw r=some y→∃z,look S'.rw r=some z:=by
    intro rs
    induction rs with
    |nil=>intro S S' r y h hy;cases h;exact⟨y,hy⟩
    |cons a rs ih=>
     intro S S' r y h hy;simp only[shareS]at h
     split at h
     ·rename_i z hz;by_cases ha:a=r
      ·exact ih h (y:=z.share) (by simp[SS.setRow,look,ha])
      ·exact ih h (y:=y) (by simp only[SS.setRow,look,if_neg ha,look_drp];exact hy)
     ·cases h
   rcases List.mem_cons.1 hr with rfl|hr
   ·obtain⟨z,hz⟩:=keep h (r:=r) (y:=x.share) (by simp[SS.setRow,look]);exact⟨x,z,hx,hz⟩
   ·obtain⟨x',y,g1,g2⟩:=shareS_has h r hr;by_cases ha:q=r
    ·exact⟨x,y,ha▸hx,g2⟩
    ·simp only[SS.setRow,look,if_neg ha,look_drp]at g1;exact⟨x',y,g1,g2⟩
  ·cases h
theorem datB_ok(h:Rel ρ S s):∀{xs:List SB} {cs:List C},(∀r∈rowsOfS xs,∃x,look S.rw r=some x)→SBrs ρ xs cs→SBrs ρ (xs.map (datB S)) (cs.map (datC s))
 |[],_,_,hx=>by simp only[SBrs]at hx;subst hx;rfl
 |x::xs,_,hr,⟨c,cs,h0,h1,h2⟩=>by
  subst h0;refine⟨_,_,rfl,?_,datB_ok h (fun r hm=>hr r (by cases x<;>simp_all[rowsOfS])) h2⟩;cases x with
  |ref r=>
   obtain⟨y,hy⟩:=hr r (by simp[rowsOfS]);obtain⟨z,g1,es,g2,rfl⟩:=h.rw r y hy;simp only[SBr]at h1;subst h1;simp only[datB,hy,datC,g1];exact⟨_,g2,rfl⟩
  |d e=>obtain⟨y,g1,rfl⟩:=h1;exact⟨y,g1,rfl⟩
  |nil k fl=>simp only[SBr]at h1;subst h1;rfl
  |any=>trivial
theorem symC_ok(hG:Gok (lim T) Sg_ G):∀(k:K) {S:SS} {ρ:List D} {s:St} {t:ST} {outs:List SO},Rel ρ S s→symC hint Sg_ k S ρ.length=some (t,outs)→Fits G t outs ρ (ev T mf k s)
 | .skip,S,ρ,s,t,outs,h,hs=>by
  simp only[symC,Option.some.injEq]at hs;rw[ev_skip];exact leafO_ok h rfl hs
 | .exit id,S,ρ,s,t,outs,h,hs=>by
  simp only[symC,Option.some.injEq]at hs;rw[ev_exit];exact leafO_ok h rfl hs
 | .ret,S,ρ,s,t,outs,h,hs=>by
  simp only[symC,Option.some.injEq]at hs;rw[ev_ret];exact leafO_ok h rfl hs
 | .reg ops kp,S,ρ,s,t,outs,h,hs=>by
  simp only[symC]at hs;rw[ev_reg];exact symOps_ok hG h rfl hs
 | .drw ops kp,S,ρ,s,t,outs,h,hs=>by
  simp only[symC]at hs;rw[ev_drw];exact symDs_ok hG (fun _ hp=>hp) h rfl hs
 | .seq a b,S,ρ,s,t,outs,h,hs=>by
  simp only[symC]at hs
  split at hs
  ·rename_i ta oa hA
   split at hs
   ·rename_i ts outs' hf;cases hs;have hfa:=symC_ok hG a h hA;obtain⟨_,h2⟩:=fanX_ok (G:=G) hf;intro j σ hd;simp only[denT]at hd
    split at hd
    ·rename_i j0 σ0 h0;obtain⟨o,s',g1,g2,g3,g4⟩:=hfa j0 σ0 h0;obtain⟨t',os',g5,g6⟩:=h2 j0 o g1;rw[ev_seq,g2]
     split at g5
     ·rename_i hx;rw[← g3]at g5;have hfb:=symC_ok hG b g4 g5;rw[hx];exact g6 _ σ0 hfb j σ hd
     ·rename_i hx;simp only[Option.some.injEq]at g5;have hi:=idO_ok (G:=G) g3 g4;rw[g5]at hi;rw[thn_ne hx];exact g6 _ σ0 hi j σ hd
    ·cases hd
   ·cases hs
  ·cases hs
 | .cond c a b,S,ρ,s,t,outs,h,hs=>by
  simp only[symC]at hs
  split at hs
  ·rename_i e ta oa tb ob hc hA hB;generalize hq:addOs ob oa=q at hs;obtain⟨f,outs'⟩:=q;cases hs;obtain⟨q1,q2⟩:=addOs_ok hq;obtain⟨y,w1,w2⟩:=sD_rel h (gs:=[]) rfl hc;rw[ev_cond,w2];refine gd_fits (fun hg=>?_) fun hg=>?_
   ·have:=gs_all hg (e,true) (by simp);simp only[w1,Option.some.injEq]at this;subst this;exact (symC_ok hG a h hA).more q2
   ·obtain⟨p,hp,he⟩:=gs_false hg;simp only[List.mem_singleton]at hp;subst hp;simp only[w1,Option.some.injEq]at he;subst he;exact (symC_ok hG b h hB).map q1
  ·cases hs
 | .block id a,S,ρ,s,t,outs,h,hs=>by
  simp only[symC]at hs
  split at hs
  ·rename_i t' outs0 hA;generalize hq:addOs (outs0.map (blkO id)) []=q at hs;obtain⟨f,outs'⟩:=q;cases hs;obtain⟨q1,_⟩:=addOs_ok hq;have hfa:=symC_ok hG a h hA;rw[ev_block];refine Fits.map (outs:=outs0.map (blkO id)) ?_ q1;intro j σ hd;obtain⟨o,s',g1,g2,g3,g4⟩:=hfa j σ hd;refine⟨blkO id o,s',nth_mapS _ g1,by rw[g2,blk_o],?_,?_⟩
   ·rw[g3];unfold blkO;split<;>rfl
   ·unfold blkO;split<;>exact g4
  ·cases hs
 | .share r a,S,ρ,s,t,outs,h,hs=>by
  simp only[symC]at hs
  split at hs
  ·rename_i S' hS;rw[ev_share];exact symC_ok hG a (shareS_ok h hS) hs
  ·cases hs
 | .dat d a,S,ρ,s,t,outs,h,hs=>by
  simp only[symC]at hs;rw[ev_dat];have key:∀{c:SC},look S.sl d=some ⟨[],c⟩→SCr ρ c (s.get d):=fun hl=>by
   obtain⟨b,h1,h2,_⟩:=h.sl d _ hl;cases h1;exact h2 rfl
  split at hs
  ·rename_i r hl;have hr:=key hl;simp only[SCr,SBr]at hr
   split at hs
   ·rename_i x hx;obtain⟨y,h1,es,h2,rfl⟩:=h.rw r x hx;have hd:datS s d=some ((shareAll s [r]).put (some d) (.d (.list x.k x.fl es))):=by simp only[datS,hr,h1]
    rw[hd,Option.bind_some];refine symC_ok hG a (Rel.put ?_ _ (SGr.nil (c:=.b (.d x.e)) ⟨_,h2,rfl⟩)) hs;have:=shareS_ok (rs:=[r]) (S':=S.setRow r x.share) h (by simp[shareS,hx]);exact this
   ·cases hs
  ·rename_i e hl;obtain⟨y,_,hr⟩:=key hl;have hd:datS s d=some s:=by simp only[datS,hr]
   rw[hd,Option.bind_some];exact symC_ok hG a h hs
  ·rename_i k fl hl;have hr:=key hl;simp only[SCr,SBr]at hr;have hd:datS s d=some s:=by simp only[datS,hr]
   rw[hd,Option.bind_some];exact symC_ok hG a h hs
  ·rename_i b hl;have hr:=key hl;simp only[SCr]at hr
   split at hs
   ·rename_i xs hx
    split at hs
    ·rename_i S' hS
     split at hs
     ·rename_i hc;obtain⟨cs,h1,h2⟩:=h.bx b xs hx;have hrs:=rows_ok h2 hc;have hd:datS s d=some ((shareAll s (rowsOf cs)).setBox b (cs.map (datC s))):=by simp only[datS,hr,h1]
      rw[hd,Option.bind_some,hrs];refine symC_ok hG a (Rel.setBox (shareS_ok h hS) b ?_) hs;exact datB_ok h (fun r hm=>by obtain⟨x,_,g,_⟩:=shareS_has hS r hm;exact⟨x,g⟩) h2
     ·cases hs
    ·cases hs
   ·cases hs
  ·cases hs
 | .loop a,S,ρ,s,t,outs,h,hs=>by
  simp only[symC]at hs;generalize hq:canS [] S=q at hs;obtain⟨S',es⟩:=q;simp only at hs
  split at hs
  ·rename_i ts H O hL;cases hs;obtain⟨h1,_,h3⟩:=loopH_ok (G:=G) hL;intro j σ hd;simp only[denT]at hd
   split at hd
   ·rename_i σ0 h0;have hrun:=gloop_runs hd;have step:∀{p:Nat×List D} {sg:Sg (Nat×List D) (Nat×List D)} {o:SO} {s:St},goOut (denT G ts p.1 p.2)=some sg→nth H p.1=some o→p.2.length=o.m→Rel p.2 o.S s→
      ∃o' s' j σ',ev T mf a s=some (exS o'.x,s')∧σ'.length=o'.m∧Rel σ' o'.S s'∧((o'.x=none∧sg=.go (j,σ')∧nth H j=some o')∨(o'.x≠none∧sg=.out (j,σ')∧nth outs j=some o')):=by
     intro p sg o s hb ho hl hR;obtain⟨t,os,f,g1,g2,g3⟩:=h3 p.1 o (by rw[Nat.zero_add];exact ho);rw[g2]at hb;simp only[denT]at hb;rw[← hl]at g1;have hfa:=symC_ok hG a hR g1
     split at hb
     ·rename_i l σ' h0;obtain⟨o',s',w1,w2,w3,w4⟩:=hfa l σ' h0;obtain⟨c,q1,q2⟩:=g3 l o' w1;rw[q1]at hb;simp only[Option.map_some,goOut,Option.some.injEq]at hb;refine⟨o',s',c / 2,σ',w2,w3,w4,?_⟩
      split at q2
      ·rename_i hx;obtain⟨j,rfl,q3⟩:=q2;rw[if_pos (by omega)]at hb;have e:2 * j / 2=j:=by omega
       exact .inl ⟨hx,hb.symm,by rw[e];exact q3⟩
      ·rename_i hx;obtain⟨j,rfl,q3⟩:=q2;rw[if_neg (by omega)]at hb;have e:(2 * j+1) / 2=j:=by omega
       exact .inr ⟨hx,hb.symm,by rw[e];exact q3⟩
     ·cases hb
    have main:∀{p r:Nat×List D},Runs (fun p=>goOut (denT G ts p.1 p.2)) p r→∀{o:SO} {s:St},nth H p.1=some o→p.2.length=o.m→Rel p.2 o.S s→∃o' s',nth outs r.1=some o'∧ev T mf (.loop a) s=some (exS o'.x,s')∧r.2.length=o'.m∧Rel r.2 o'.S s':=by
     intro p r hr
     induction hr with
     |out hb=>
      intro o s ho hl hR;obtain⟨o',s',j,σ',w1,w2,w3,w4⟩:=step hb ho hl hR;rcases w4 with ⟨_,w5,_⟩|⟨w5,w6,w7⟩
      ·cases w5
      ·cases w6;exact⟨o',s',w7,by rw[ev_loop,w1,thn_ne w5],w2,w3⟩
     |go hb hr' ih=>
      intro o s ho hl hR;obtain⟨o',s',j,σ',w1,w2,w3,w4⟩:=step hb ho hl hR;rcases w4 with ⟨w5,w6,w7⟩|⟨_,w6,_⟩
      ·cases w6;obtain⟨o2,s2,v1,v2,v3⟩:=ih w7 w2 w3;refine⟨o2,s2,v1,?_,v3⟩;rw[ev_loop,w1,w5];exact v2
      ·cases w6
    exact main hrun (h1 0 _ rfl) (evE_map h0) (canS_ok h rfl hq h0)
   ·cases hd
  ·cases hs
end
end
section
def enterS:Nat→List SA→Nat→SS→Option SS
 |_,[],_,S=>some S
 |p,.val ag l::as,c,S=>match inS p 0 l c S with
  |(xs,S')=>if ag=true then enterS (p+1) as (c+l.length) (S'.put (some p) ⟨[],.agg xs⟩) else match xs with
   |[x]=>enterS (p+1) as (c+l.length) (S'.put (some p) ⟨[],.b x⟩)
   |_=>none
 |p,.box l::as,c,S=>match inS (p+500) 0 l c S with
  |(xs,S')=>enterS (p+1) as (c+l.length) ((S'.newBox (900+p) xs).put (some p) ⟨[],.ptr (900+p) 0⟩)
def wrA(S:SS)(ag:Bool)(xs:List SB):Option (SA×List SE×List Nat):=
 match mapO (wrS S) xs with
 |some l=>some (.val ag (l.map (·.1)),l.map (·.2),rowsOfS xs)
 |none=>none
def resKS(S:SS):KR→Option (SA×List SE×List Nat)
 | .t d=>match look S.sl d with
  |some ⟨[],c⟩=>match c.cells with
   |some xs=>wrA S c.isAgg xs
   |none=>none
  |_=>none
 | .c d n=>match look S.sl d with
  |some ⟨[],.ptr b 0⟩=>match look S.bx b with
   |some xs=>if n=0 then (match xs with
     |[x]=>wrA S false [x]
     |_=>none) else if xs.length=n then wrA S true xs else none
   |none=>none
  |_=>none
def resKSs(S:SS):List KR→Option (List SA×List SE×List Nat)
 |[]=>some ([],[],[])
 |r::rs=>match resKS S r,resKSs S rs with
  |some (a,es,l),some (as,fs,l')=>some (a::as,es++fs,l++l')
  |_,_=>none
def outKSs(S:SS):Nat→List SA→Option (List SA×List SE×List Nat)
 |_,[]=>some ([],[],[])
 |p,.val _ _::as=>outKSs S (p+1) as
 |p,.box _::as=>match look S.bx (900+p) with
  |some xs=>match mapO (wrS S) xs,outKSs S (p+1) as with
   |some l,some (bs,fs,l')=>some (.box (l.map (·.1))::bs,l.map (·.2)++fs,rowsOfS xs++l')
   |_,_=>none
  |none=>none
def idxOf{α:Type}[DecidableEq α](x:α):List α→Option Nat
 |[]=>none
 |y::l=>if y=x then some 0 else (idxOf x l).map (·+1)
def leaveS(kf:KF)(sg:SSig)(o:SO):Option ST:=
 if o.x=none∨o.x=some none then
  match resKSs o.S kf.res,outKSs o.S 0 sg.args with
  |some (rs,es,l),some (os,fs,l')=>if nodupB (l++l')=true then (match idxOf (rs,os) sg.res with
   |some j=>some (.leaf j (es++fs))
   |none=>none) else none
  |_,_=>none
 else none
def leaveSs(kf:KF)(sg:SSig):List SO→Option ST
 |[]=>some .nil
 |o::os=>match leaveS kf sg o,leaveSs kf sg os with
  |some t,some ts=>some (.cons t ts)
  |_,_=>none
def symF(hint:List Nat)(Sg_:List (Nat×SSig))(kf:KF)(sg:SSig):Option ST:=
 match enterS 0 sg.args 0 ⟨[],[],[]⟩ with
 |some S=>match symC hint Sg_ kf.body S (cntA sg.args) with
  |some (t,outs)=>match leaveSs kf sg outs with
   |some ts=>some (.seq t ts)
   |none=>none
  |none=>none
 |none=>none
section
variable {ρ:List D} {S:SS} {s:St}
theorem enterS_ok:∀{l:List SA} {p c:Nat} {S S':SS} {s:St} {us:List D} {as:List A},Rel ρ S s→encAs l us=some as→Loc ρ c us→enterS p l c S=some S'→Rel ρ S' (enterAs p as s)
 |[],p,c,S,S',s,us,as,h,he,hl,hs=>by
  cases us with
  |nil=>cases he;cases hs;exact h
  |cons u us=>cases he
 | .val ag l::as,p,c,S,S',s,us,rs,h,he,hl,hs=>by
  obtain⟨r,rs',h1,h2,rfl⟩:=encAs_cons he;simp only[encA]at h1;obtain⟨vs,h3,rfl⟩:=Option.map_eq_some_iff.1 h1;simp only[enterS]at hs;generalize hq:inS p 0 l c S=q at hs;obtain⟨xs,S1⟩:=q;simp only at hs
  obtain⟨cs,s1,w1,w2,w3⟩:=inS_ok h h3 (hl.take _) hq;simp only[enterAs,enterA,w1]
  split at hs
  ·rename_i hag;rw[if_pos hag];exact enterS_ok (w2.put (some p) (SGr.nil (c:=.agg xs) ⟨cs,rfl,w3⟩)) h2 (hl.drop _) hs
  ·rename_i hag;rw[if_neg hag]
   split at hs
   ·obtain⟨c0,cs0,rfl,u1,u2⟩:=w3;exact enterS_ok (w2.put (some p) (SGr.nil (c:=.b _) u1)) h2 (hl.drop _) hs
   ·cases hs
 | .box l::as,p,c,S,S',s,us,rs,h,he,hl,hs=>by
  obtain⟨r,rs',h1,h2,rfl⟩:=encAs_cons he;simp only[encA]at h1;obtain⟨vs,h3,rfl⟩:=Option.map_eq_some_iff.1 h1;simp only[enterS]at hs;generalize hq:inS (p+500) 0 l c S=q at hs;obtain⟨xs,S1⟩:=q;simp only at hs
  obtain⟨cs,s1,w1,w2,w3⟩:=inS_ok h h3 (hl.take _) hq;simp only[enterAs,enterA,w1];exact enterS_ok ((w2.newBox (900+p) w3).put (some p) SGr.ptr) h2 (hl.drop _) hs
theorem wrA_ok(h:Rel ρ S s){xs:List SB}{vs:List C}{ag:Bool}{a:SA}{es:List SE}{l:List Nat}(hv:SBrs ρ xs vs)(hw:wrA S ag xs=some (a,es,l)) :
  ∃ws rs,evE ρ es=some ws∧mapO (wrCell s) vs=some rs∧encA a ws=some (.val ag rs)∧ws.length=a.n∧rowsOf vs=l:=by
 unfold wrA at hw
 split at hw
 ·rename_i ps hp;cases hw;obtain⟨ys,rs,h1,h2,h3⟩:=wrSs_ok h hv hp;exact⟨ys,rs,h1,h2,by simp only[encA,h3,Option.map_some],encVs_len h3,rows_ok hv (mapO_all (p:=SB.cell) (fun _ _=>wrS_cell) hp)⟩
 ·cases hw
theorem wrA_cell{xs:List SB}{ag:Bool}{r:SA×List SE×List Nat}(hw:wrA S ag xs=some r):xs.all SB.cell=true:=by
 unfold wrA at hw
 split at hw
 ·rename_i ps hp;exact mapO_all (p:=SB.cell) (fun _ _=>wrS_cell) hp
 ·cases hw
theorem agg_ok{c:SC}{v:C}{xs:List SB}(hv:SCr ρ c v)(hc:c.cells=some xs)(hall:xs.all SB.cell=true):v.isAgg=c.isAgg:=by
 cases c with
 |b x=>
  cases hc;have:=SBr.cell hv (by simpa using hall);cases v<;>first|rfl|cases this
 |agg ys=>obtain⟨cs,rfl,_⟩:=hv;rfl
 |_=>cases hc
theorem resKS_ok(h:Rel ρ S s){r:KR}{a:SA}{es:List SE}{l:List Nat}(hr:resKS S r=some (a,es,l)):∃ws x,resA s r=some (x,l)∧evE ρ es=some ws∧encA a ws=some x∧ws.length=a.n:=by
 cases r with
 |t d=>
  simp only[resKS]at hr
  split at hr
  ·rename_i c hl;obtain⟨b,h1,h2,_⟩:=h.sl d _ hl;cases h1;have hv:=h2 rfl
   split at hr
   ·rename_i xs hc;have hall:=wrA_cell hr;obtain⟨ws,rs,q1,q2,q3,q4,q5⟩:=wrA_ok h (hv.cells hc hall) hr;have hag:=agg_ok hv hc hall;simp only at hag q2 q5
    exact⟨ws,_,by simp only[resA,q2,Option.map_some,hag,q5],q1,q3,q4⟩
   ·cases hr
  ·cases hr
 |c d n=>
  simp only[resKS]at hr
  split at hr
  ·rename_i b hl;obtain⟨b',h1,h2,_⟩:=h.sl d _ hl;cases h1;have hv:=h2 rfl;simp only[SCr]at hv
   split at hr
   ·rename_i xs hb;obtain⟨cs,g1,g2⟩:=h.bx _ xs hb
    split at hr
    ·rename_i hn
     split at hr
     ·rename_i x;obtain⟨ws,rs,q1,q2,q3,q4,q5⟩:=wrA_ok h g2 hr;obtain⟨c0,cs0,rfl,u1,u2⟩:=g2;simp only[SBrs]at u2;subst u2;exact⟨ws,_,by simp only[resA,hv,g1,hn,if_true,q2,Option.map_some,q5],q1,q3,q4⟩
     ·cases hr
    ·rename_i hn
     split at hr
     ·rename_i hlen;obtain⟨ws,rs,q1,q2,q3,q4,q5⟩:=wrA_ok h g2 hr;exact⟨ws,_,by simp only[resA,hv,g1,if_neg hn];rw[if_pos (by rw[g2.len,hlen]),q2];simp only[Option.map_some,q5],q1,q3,q4⟩
     ·cases hr
   ·cases hr
  ·cases hr
theorem encAs_app:∀{a:SA} {as:List SA} {ws us:List D} {x:A} {rs:List A},encA a ws=some x→ws.length=a.n→encAs as us=some rs→encAs (a::as) (ws++us)=some (x::rs):=by
 intro a as ws us x rs h1 h2 h3;simp only[encAs,take_left' h2,drop_left' h2,h1,h3,Option.map_some]
theorem resKSs_ok(h:Rel ρ S s):∀{rs:List KR} {as:List SA} {es:List SE} {l:List Nat},resKSs S rs=some (as,es,l)→∃ws xs,resAs s rs=some (xs,l)∧evE ρ es=some ws∧encAs as ws=some xs
 |[],_,_,_,hr=>by cases hr;exact⟨[],[],rfl,rfl,rfl⟩
 |r::rs,as,es,l,hr=>by
  simp only[resKSs]at hr
  split at hr
  ·rename_i a es1 l1 as' fs l2 h1 h2;cases hr;obtain⟨ws,x,q1,q2,q3,q4⟩:=resKS_ok h h1;obtain⟨us,xs,w1,w2,w3⟩:=resKSs_ok h h2;exact⟨ws++us,x::xs,by simp only[resAs,q1,w1,Option.map_some],evE_app q2 w2,encAs_app q3 q4 w3⟩
  ·cases hr
theorem outKSs_ok(h:Rel ρ S s):∀{args:List SA} {as:List A} {us:List D} {p:Nat} {bs:List SA} {es:List SE} {l:List Nat},encAs args us=some as→outKSs S p args=some (bs,es,l)→∃ws xs,outAs s p as=some (xs,l)∧evE ρ es=some ws∧encAs bs ws=some xs
 |[],as,us,p,bs,es,l,he,hr=>by
  cases us with
  |nil=>cases he;cases hr;exact⟨[],[],rfl,rfl,rfl⟩
  |cons u us=>cases he
 | .val ag l0::args,as,us,p,bs,es,l,he,hr=>by
  obtain⟨r,rs',h1,h2,rfl⟩:=encAs_cons he;simp only[encA]at h1;obtain⟨vs,h3,rfl⟩:=Option.map_eq_some_iff.1 h1;simp only[outKSs]at hr;obtain⟨ws,xs,w1,w2,w3⟩:=outKSs_ok h h2 hr;exact⟨ws,xs,by simp only[outAs,outA,w1,Option.map_some,List.nil_append],w2,w3⟩
 | .box l0::args,as,us,p,bs,es,l,he,hr=>by
  obtain⟨r,rs',h1,h2,rfl⟩:=encAs_cons he;simp only[encA]at h1;obtain⟨vs,h3,rfl⟩:=Option.map_eq_some_iff.1 h1;simp only[outKSs]at hr
  split at hr
  ·rename_i xs hb
   split at hr
   ·rename_i ps bs' fs l' hp ho;cases hr;obtain⟨cs,g1,g2⟩:=h.bx _ xs hb;obtain⟨ys,rs,q1,q2,q3⟩:=wrSs_ok h g2 hp;obtain⟨ws,zs,w1,w2,w3⟩:=outKSs_ok h h2 ho;have hrows:=rows_ok g2 (mapO_all (p:=SB.cell) (fun _ _=>wrS_cell) hp);refine⟨ys++ws,.box rs::zs,?_,evE_app q1 w2,encAs_app (by simp only[encA,q3,Option.map_some]) (encVs_len q3) w3⟩;simp only[outAs,outA,g1,q2,w1,Option.map_some,hrows,List.cons_append,List.nil_append]
   ·cases hr
  ·cases hr
theorem idxOf_ok{α:Type}[DecidableEq α]{x:α}:∀{l:List α} {j:Nat},idxOf x l=some j→nth l j=some x
 |[],_,h=>by cases h
 |y::l,j,h=>by
  simp only[idxOf]at h
  split at h
  ·rename_i he;cases h;rw[he];rfl
  ·obtain⟨j',h1,rfl⟩:=Option.map_eq_some_iff.1 h;exact idxOf_ok (l:=l) h1
theorem encR_app{v:List SA×List SA}{ws us:List D}{rs os:List A}(h1:encAs v.1 ws=some rs)(h2:encAs v.2 us=some os):encR v (ws++us)=some (rs,os):=by
 have hl:=encAs_len h1;simp only[encR,take_left' hl,drop_left' hl,h1,h2]
theorem leaveS_ok{G:Gf}{kf:KF}{sg:SSig}{o:SO}{t:ST}{as:List A}{us:List D}(h:Rel ρ o.S s)(he:encAs sg.args us=some as)(hs:leaveS kf sg o=some t){j:Nat}{σ:List D}(hd:denT G t 0 ρ=some (j,σ)) :
  ∃v r,nth sg.res j=some v∧encR v σ=some r∧fin kf as (some (exS o.x,s))=some r:=by
 unfold leaveS at hs
 split at hs
 ·rename_i hx
  split at hs
  ·rename_i rs es l os fs l' h1 h2
   split at hs
   ·rename_i hn
    split at hs
    ·rename_i j0 hj;cases hs;obtain⟨ws,xs,q1,q2,q3⟩:=resKSs_ok h h1;obtain⟨vs,ys,w1,w2,w3⟩:=outKSs_ok h he h2;simp only[denT,evE_app q2 w2,Option.some.injEq,Prod.mk.injEq]at hd;obtain⟨rfl,rfl⟩:=hd;refine⟨(rs,os),(xs,ys),idxOf_ok hj,encR_app q3 w3,?_⟩;have:leave kf as s=some (xs,ys):=by simp only[leave,q1,w1,hn,if_true]
     rcases hx with hx|hx<;>(rw[hx];exact this)
    ·cases hs
   ·cases hs
  ·cases hs
 ·cases hs
theorem leaveSs_ok{G:Gf}{kf:KF}{sg:SSig}:∀{outs:List SO} {ts:ST},leaveSs kf sg outs=some ts→∀j o,nth outs j=some o→∃t,leaveS kf sg o=some t∧∀ρ,denT G ts j ρ=denT G t 0 ρ
 |[],ts,h,j,o,ho=>by cases ho
 |p::outs,ts,h,j,o,ho=>by
  simp only[leaveSs]at h
  split at h
  ·rename_i t ts' h1 h2;cases h;cases j with
   |zero=>cases ho;exact⟨t,h1,fun ρ=>rfl⟩
   |succ j=>
    obtain⟨t',g1,g2⟩:=leaveSs_ok (G:=G) h2 j o ho;exact⟨t',g1,fun ρ=>g2 ρ⟩
  ·cases h
theorem symF_ok{T:Nat→Option KF}{Sg_:List (Nat×SSig)}{G:Gf}(hG:Gok (lim T) Sg_ G){hint:List Nat}{f:Nat}{kf:KF}(hT:T f=some kf)(h9:kf.np≠999){sg:SSig}(hnp:sg.args.length=kf.np){t:ST}(hs:symF hint Sg_ kf sg=some t)
  {ws us:List D} {as:List A} {j:Nat} (he:encAs sg.args ws=some as) (hd:denT G t 0 ws=some (j,us)):∃v r,nth sg.res j=some v∧encR v us=some r∧lim T f as=some r:=by
 have hlen:∀{l:List SA} {us:List D} {rs:List A},encAs l us=some rs→rs.length=l.length:=by
  intro l
  induction l with
  |nil=>intro us rs h;cases us<;>cases h;rfl
  |cons a l ih=>
   intro us rs h;obtain⟨r,rs',_,h2,rfl⟩:=encAs_cons h;simp[ih h2]
 unfold symF at hs
 split at hs
 ·rename_i S hS
  split at hs
  ·rename_i t0 outs hC
   split at hs
   ·rename_i ts hL;cases hs;have h0:Rel ws ⟨[],[],[]⟩ ⟨[],[],[]⟩:=⟨fun _ _ h=>(by cases h),fun _ _ h=>(by cases h),fun _ _ h=>(by cases h)⟩
    have hR:=enterS_ok h0 he (c:=0) (fun i x hx=>by rw[Nat.zero_add];exact hx) hS;rw[← encAs_len he]at hC;have hfit:=symC_ok (mf:=mf0) hG kf.body hR hC;simp only[denT]at hd
    split at hd
    ·rename_i j0 σ0 hd0;obtain⟨o,s',g1,g2,g3,g4⟩:=hfit j0 σ0 hd0;obtain⟨t',g5,g6⟩:=leaveSs_ok (G:=G) hL j0 o g1;rw[g6]at hd;obtain⟨v,r,w1,w2,w3⟩:=leaveS_ok g4 he g5 hd;refine⟨v,r,w1,w2,?_⟩;rw[lim_run T hT h9];unfold run;rw[if_pos (by rw[hlen he,hnp]),g2];exact w3
    ·cases hd
   ·cases hs
  ·cases hs
 ·cases hs
end
end
def decV:RV→SRV×D
 | .d x=>(.d,x)
 | .row r=>(.row r.k r.fl r.deep r.app r.fz,.list r.k r.fl r.es)
def decA:A→SA×List D
 | .val ag l=>(.val ag (l.map fun v=>(decV v).1),l.map fun v=>(decV v).2)
 | .box l=>(.box (l.map fun v=>(decV v).1),l.map fun v=>(decV v).2)
def decAs:List A→List SA×List D
 |[]=>([],[])
 |a::as=>((decA a).1::(decAs as).1,(decA a).2++(decAs as).2)
def decR(r:List A×List A):(List SA×List SA)×List D:=(((decAs r.1).1,(decAs r.2).1),(decAs r.1).2++(decAs r.2).2)
theorem encV_dec(v:RV):encV (decV v).1 (decV v).2=some v:=by
 cases v with
 |d x=>rfl
 |row r=>simp[decV,encV]
theorem encVs_dec:∀(l:List RV),encVs (l.map fun v=>(decV v).1) (l.map fun v=>(decV v).2)=some l
 |[]=>rfl
 |v::l=>by simp only[List.map_cons,encVs,encV_dec,encVs_dec l,Option.map_some]
theorem decA_n(a:A):(decA a).2.length=(decA a).1.n:=by cases a<;>simp[decA,SA.n]
theorem encA_dec(a:A):encA (decA a).1 (decA a).2=some a:=by cases a<;>simp only[decA,encA,encVs_dec,Option.map_some]
theorem encAs_dec:∀(as:List A),encAs (decAs as).1 (decAs as).2=some as
 |[]=>rfl
 |a::as=>by
  simp only[decAs];unfold encAs;rw[List.take_left' (decA_n a),List.drop_left' (decA_n a),encA_dec,encAs_dec as];rfl
theorem encR_dec(r:List A×List A):encR (decR r).1 (decR r).2=some r:=by
 have h:(decAs r.1).2.length=cntA (decAs r.1).1:=encAs_len (encAs_dec r.1);simp only[decR,encR,List.take_left' h,List.drop_left' h,encAs_dec]
theorem dec_encV{v:SRV}{x:D}{r:RV}(h:encV v x=some r):decV r=(v,x):=by
 unfold encV at h
 split at h
 ·cases h;rfl
 ·split at h
  ·rename_i hk;obtain⟨rfl,rfl⟩:=hk;cases h;rfl
  ·cases h
 ·cases h
theorem dec_encVs:∀{l:List SRV} {xs:List D} {vs:List RV},encVs l xs=some vs→(vs.map fun v=>(decV v).1)=l∧(vs.map fun v=>(decV v).2)=xs
 |[],[],_,h=>by cases h;exact⟨rfl,rfl⟩
 |[],_::_,_,h=>by cases h
 |_::_,[],_,h=>by cases h
 |v::l,x::xs,vs,h=>by
  simp only[encVs]at h
  split at h
  ·rename_i r hr;obtain⟨vs',h1,rfl⟩:=Option.map_eq_some_iff.1 h;obtain⟨h2,h3⟩:=dec_encVs h1;simp only[List.map_cons,h2,h3,dec_encV hr];exact⟨trivial,trivial⟩
  ·cases h
theorem dec_encA{a:SA}{xs:List D}{r:A}(h:encA a xs=some r):decA r=(a,xs):=by
 cases a with
 |val ag l=>
  simp only[encA]at h;obtain⟨vs,h1,rfl⟩:=Option.map_eq_some_iff.1 h;obtain⟨h2,h3⟩:=dec_encVs h1;simp only[decA,h2,h3]
 |box l=>
  simp only[encA]at h;obtain⟨vs,h1,rfl⟩:=Option.map_eq_some_iff.1 h;obtain⟨h2,h3⟩:=dec_encVs h1;simp only[decA,h2,h3]
theorem dec_encAs:∀{l:List SA} {xs:List D} {rs:List A},encAs l xs=some rs→decAs rs=(l,xs)
 |[],[],_,h=>by cases h;rfl
 |[],_::_,_,h=>by cases h
 |a::as,xs,rs,h=>by
  obtain⟨r,rs',h1,h2,rfl⟩:=encAs_cons h;simp only[decAs,dec_encA h1,dec_encAs h2,List.take_append_drop]
theorem dec_encR{v:List SA×List SA}{us:List D}{r:List A×List A}(h:encR v us=some r):decR r=(v,us):=by
 unfold encR at h
 split at h
 ·rename_i rs outs h1 h2;cases h;simp only[decR,dec_encAs h1,dec_encAs h2,List.take_append_drop]
 ·cases h
theorem idx_nth{α:Type}[DecidableEq α]{x:α}:∀{l:List α} {j:Nat},idxOf x l=some j→nth l j=some x
 |y::l,j,h=>by
  simp only[idxOf]at h
  split at h
  ·rename_i hy;cases h;rw[hy];rfl
  ·obtain⟨i,h1,rfl⟩:=Option.map_eq_some_iff.1 h;exact (show nth l i=some x from idx_nth h1)
theorem nth_in{α:Type}:∀{l:List α} {i:Nat} {x:α},nth l i=some x→x∈l
 |y::l,0,x,h=>by cases h;exact List.mem_cons_self
 |y::l,i+1,x,h=>List.mem_cons_of_mem _ (nth_in (l:=l) h)
theorem nth_idx{α:Type}[DecidableEq α]{x:α}:∀{l:List α} {j:Nat},l.Nodup→nth l j=some x→idxOf x l=some j
 |y::l,0,hn,h=>by cases h;simp[idxOf]
 |y::l,j+1,hn,h=>by
  have hy:y≠x:=fun e=>(List.nodup_cons.1 hn).1 (e▸nth_in (l:=l) h);simp only[idxOf,if_neg hy,nth_idx (List.nodup_cons.1 hn).2 h,Option.map_some]
noncomputable def GF(T:Nat→Option KF)(Sg_:List (Nat×SSig)):Gf:=fun i ws=>
 match look Sg_ i with
 |some sg=>match encAs sg.args ws with
  |some as=>match lim T sg.f as with
   |some r=>(idxOf (decR r).1 sg.res).map (·,(decR r).2)
   |none=>none
  |none=>none
 |none=>none
theorem GF_ok(T:Nat→Option KF)(Sg_:List (Nat×SSig)):Gok (lim T) Sg_ (GF T Sg_):=by
 intro i sg hl ws j us h;simp only[GF,hl]at h
 split at h
 ·rename_i as ha
  split at h
  ·rename_i r hr;obtain⟨j',h1,h2⟩:=Option.map_eq_some_iff.1 h;simp only[Prod.mk.injEq]at h2;obtain⟨rfl,rfl⟩:=h2;exact⟨as,r,_,ha,idx_nth h1,encR_dec r,hr⟩
  ·cases h
 ·cases h
theorem GF_lim{T:Nat→Option KF}{Sg_:List (Nat×SSig)}{i:Nat}{sg:SSig}(hl:look Sg_ i=some sg){ws us:List D}{as:List A}{r:List A×List A}{v:List SA×List SA}{j:Nat}(he:encAs sg.args ws=some as)
  (hr:lim T sg.f as=some r) (hv:encR v us=some r) (hj:idxOf v sg.res=some j):GF T Sg_ i ws=some (j,us):=by
 simp only[GF,hl,he,hr,dec_encR hv,hj,Option.map_some]
theorem GF_of{T:Nat→Option KF}{Sg_:List (Nat×SSig)}{i:Nat}{sg:SSig}{hint:List Nat}{kf:KF}{t:ST}(hl:look Sg_ i=some sg)(hT:T sg.f=some kf)(hc:(sg.args.length ==kf.np && Nat.blt kf.np 999 && decide sg.res.Nodup)=true)
  (hs:symF hint Sg_ kf sg=some t) {ws us:List D} {as:List A} {j:Nat} (he:encAs sg.args ws=some as) (hd:denT (GF T Sg_) t 0 ws=some (j,us)):GF T Sg_ i ws=some (j,us):=by
 simp only[Bool.and_eq_true,beq_iff_eq,decide_eq_true_eq,Nat.blt_eq]at hc;obtain⟨⟨h1,h2⟩,h3⟩:=hc;obtain⟨v,r,q1,q2,q3⟩:=symF_ok (GF_ok T Sg_) hT (by omega) h1 hs he hd;exact GF_lim hl he q3 q2 (nth_idx h3 q1)
structure XRange where
 lo:Int
 hi:Int
 deriving DecidableEq
structure XType where
 kind:Int
 ranges:List XRange
 names:List ByteArray
 pattern:ByteArray
 path:ByteArray
 deriving DecidableEq
structure XTest where
 name:ByteArray
 value:ByteArray
 deriving DecidableEq
structure XStep where
 name:ByteArray
 tests:List XTest
 deriving DecidableEq
structure XPath where
 root:Bool
 ups:Int
 steps:List XStep
 deriving DecidableEq
structure XExpr where
 op:Int
 num:Int
 text:ByteArray
 path:XPath
 kids:List XExpr
structure XSchema where
 kind:Int
 name:ByteArray
 type:XType
 keys:List ByteArray
 unique:List ByteArray
 default:ByteArray
 given:Bool
 needed:Bool
 present:Bool
 fixed:Bool
 min:Int
 max:Int
 when:List XExpr
 must:List XExpr
 kids:List XSchema
structure XNode where
 name:ByteArray
 value:ByteArray
 kids:List XNode
structure XPat where
 op:Int
 text:ByteArray
 kids:List XPat
def eStr(s:ByteArray):List D:=[.str s]
def eBool(b:Bool):List D:=[.bool b]
def eRange(x:XRange):List D:=[.int .i64 x.lo,.int .i64 x.hi]
abbrev dStrs(l:List ByteArray):D:=.list 1 true (l.map eStr)
abbrev dBools(l:List Bool):D:=.list 1 true (l.map eBool)
abbrev dRanges(l:List XRange):D:=.list 2 true (l.map eRange)
def eType(x:XType):List D:=[.int .i64 x.kind,dRanges x.ranges,dStrs x.names,.str x.pattern,.str x.path]
def eTest(x:XTest):List D:=[.str x.name,.str x.value]
abbrev dTests(l:List XTest):D:=.list 2 true (l.map eTest)
def eStep(x:XStep):List D:=[.str x.name,dTests x.tests]
abbrev dSteps(l:List XStep):D:=.list 2 false (l.map eStep)
def ePath(x:XPath):List D:=[.bool x.root,.int .i64 x.ups,dSteps x.steps]
theorem XExpr.kid{x y:XExpr}(h:y∈x.kids):SizeOf.sizeOf y < SizeOf.sizeOf x:=by
 have h1:=List.sizeOf_lt_of_mem h;cases x;simp only[XExpr.mk.sizeOf_spec];dsimp only at h1;omega
def eExpr(x:XExpr):List D:=[.int .i64 x.op,.int .i64 x.num,.str x.text,.bool x.path.root,.int .i64 x.path.ups,dSteps x.path.steps,.list 7 false (x.kids.map fun y=>eExpr y)]
termination_by SizeOf.sizeOf x
decreasing_by exact XExpr.kid (by assumption)
abbrev dExprs(l:List XExpr):D:=.list 7 false (l.map eExpr)
theorem eExpr_eq(x:XExpr):eExpr x=[.int .i64 x.op,.int .i64 x.num,.str x.text,.bool x.path.root,.int .i64 x.path.ups,dSteps x.path.steps,dExprs x.kids]:=by rw[eExpr]
theorem XSchema.kid{x y:XSchema}(h:y∈x.kids):SizeOf.sizeOf y < SizeOf.sizeOf x:=by
 have h1:=List.sizeOf_lt_of_mem h;cases x;simp only[XSchema.mk.sizeOf_spec];dsimp only at h1;omega
def eSchema(x:XSchema):List D:=[.int .i64 x.kind,.str x.name,.int .i64 x.type.kind,dRanges x.type.ranges,dStrs x.type.names,.str x.type.pattern,.str x.type.path,dStrs x.keys,dStrs x.unique,.str x.default,.bool x.given,.bool x.needed,.bool x.present,.bool x.fixed,.int .i64 x.min,.int .i64 x.max,dExprs x.when,dExprs x.must,.list 19 false (x.kids.map fun y=>eSchema y)]
termination_by SizeOf.sizeOf x
decreasing_by exact XSchema.kid (by assumption)
abbrev dSchemas(l:List XSchema):D:=.list 19 false (l.map eSchema)
theorem eSchema_eq(x:XSchema):eSchema x=[.int .i64 x.kind,.str x.name,.int .i64 x.type.kind,dRanges x.type.ranges,dStrs x.type.names,.str x.type.pattern,.str x.type.path,dStrs x.keys,dStrs x.unique,.str x.default,.bool x.given,.bool x.needed,.bool x.present,.bool x.fixed,.int .i64 x.min,.int .i64 x.max,dExprs x.when,dExprs x.must,dSchemas x.kids]:=by rw[eSchema]
theorem XNode.kid{x y:XNode}(h:y∈x.kids):SizeOf.sizeOf y < SizeOf.sizeOf x:=by
 have h1:=List.sizeOf_lt_of_mem h;cases x;simp only[XNode.mk.sizeOf_spec];dsimp only at h1;omega
def eNode(x:XNode):List D:=[.str x.name,.str x.value,.list 3 false (x.kids.map fun y=>eNode y)]
termination_by SizeOf.sizeOf x
decreasing_by exact XNode.kid (by assumption)
abbrev dNodes(l:List XNode):D:=.list 3 false (l.map eNode)
theorem eNode_eq(x:XNode):eNode x=[.str x.name,.str x.value,dNodes x.kids]:=by rw[eNode]
theorem XPat.kid{x y:XPat}(h:y∈x.kids):SizeOf.sizeOf y < SizeOf.sizeOf x:=by
 have h1:=List.sizeOf_lt_of_mem h;cases x;simp only[XPat.mk.sizeOf_spec];dsimp only at h1;omega
def ePat(x:XPat):List D:=[.int .i64 x.op,.str x.text,.list 3 false (x.kids.map fun y=>ePat y)]
termination_by SizeOf.sizeOf x
decreasing_by exact XPat.kid (by assumption)
abbrev dPats(l:List XPat):D:=.list 3 false (l.map ePat)
theorem ePat_eq(x:XPat):ePat x=[.int .i64 x.op,.str x.text,dPats x.kids]:=by rw[ePat]
theorem szE_mem{α:Type}(f:α→List D):∀{xs:List α} {x:α},x∈xs→szC (f x)≤szE (xs.map f)
 |[],_,h=>by simp at h
 |y::ys,x,h=>by
  simp -implicitDefEqProofs only [List.map_cons,szE]
  rcases List.mem_cons.1 h with rfl|h
  ·omega
  ·have:=szE_mem f h;omega
abbrev szl{α:Type}(f:α→List D)(l:List α):Nat:=l.length+szE (l.map f)
theorem szl_mem{α:Type}(f:α→List D){l:List α}{x:α}(h:x∈l):szC (f x) < szl f l:=by
 have h1:=szE_mem f h;have h2:0 < l.length:=by cases l with|nil=>cases h|cons a l=>simp
 simp only[szl];omega
theorem szl_cons{α:Type}(f:α→List D)(x:α)(l:List α):szl f (x::l)=szC (f x)+szl f l+1:=by
 simp only[szl,List.length_cons,List.map_cons,szE];omega
theorem szl_app{α:Type}(f:α→List D)(l m:List α):szl f (l++m)=szl f l+szl f m:=by
 simp only[szl,List.length_append,List.map_append,szE_append];omega
theorem szl_take{α:Type}(f:α→List D)(l:List α)(i:Nat):szl f (l.take i)≤szl f l:=by
 have:=szl_app f (l.take i) (l.drop i);rw[List.take_append_drop]at this;omega
theorem szl_str(l:List ByteArray){s:ByteArray}(h:s∈l):s.size < szl eStr l:=by
 have:=szl_mem eStr h;simp only[eStr,szC,D.sz]at this;omega
theorem szC_type(x:XType):szC (eType x)=szl eRange x.ranges+szl eStr x.names+x.pattern.size+x.path.size:=by
 simp only[eType,szC,D.sz,List.length_map,szl];omega
theorem szC_test(x:XTest):szC (eTest x)=x.name.size+x.value.size:=by simp only[eTest,szC,D.sz];omega
theorem szC_step(x:XStep):szC (eStep x)=x.name.size+szl eTest x.tests:=by simp only[eStep,szC,D.sz,List.length_map,szl];omega
theorem szC_path(x:XPath):szC (ePath x)=szl eStep x.steps:=by simp only[ePath,szC,D.sz,List.length_map,szl];omega
theorem szC_expr(x:XExpr):szC (eExpr x)=x.text.size+szC (ePath x.path)+szl eExpr x.kids:=by simp only[eExpr_eq,ePath,szC,D.sz,List.length_map,szl];omega
theorem szC_schema(x:XSchema):szC (eSchema x)=x.name.size+szC (eType x.type)+szl eStr x.keys+szl eStr x.unique+x.default.size+szl eExpr x.when+szl eExpr x.must+szl eSchema x.kids:=by
 simp only[eSchema_eq,eType,szC,D.sz,List.length_map,szl];omega
theorem szC_node(x:XNode):szC (eNode x)=x.name.size+x.value.size+szl eNode x.kids:=by simp only[eNode_eq,szC,D.sz,List.length_map,szl];omega
section
def cellsE(i:Nat):Nat→Nat→List SE
 |_,0=>[]
 |j,n+1=>.c i j::cellsE i (j+1) n
abbrev Y(i:Nat):SE:=.v i
abbrev N(n:Int):SE:=.k (.int .i64 n)
abbrev U(n:Int):SE:=.k (.int .u8 n)
abbrev B(b:Bool):SE:=.k (.bool b)
abbrev Tx(l:List UInt8):SE:=.k (.str ⟨l.toArray⟩)
abbrev L(k:Nat)(fl:Bool):SE:=.k (.nil k fl)
abbrev X(i j:Nat):SE:=.c i j
abbrev o_(o:PO)(es:List SE)(t:ST):ST:=.op [] o es t
abbrev p_(gs:Gs)(t:ST):ST:=.op gs .pl [] t
abbrev c1(t:ST):ST:=.cons t .nil
abbrev r_(i n:Nat):List SE:=varsE i n
abbrev t_(i:Nat)(o:PO)(es:List SE)(t:ST):ST:=.op [(.v i,true)] o es t
abbrev f_(i:Nat)(o:PO)(es:List SE)(t:ST):ST:=.op [(.v i,false)] o es t
abbrev d_(i:Nat)(a b:ST):ST:=.gd [(.v i,true)] a b
abbrev e_(i:Nat)(a b:ST):ST:=.gd [(.v i,false)] a b
abbrev L_(es:List SE):ST:=.leaf 0 es
abbrev M1(t:ST):ST:=.map [1] t
abbrev b_(a b:ST):ST:=.seq a (.cons b .nil)
abbrev k_(a b:ST):ST:=.cons a b
abbrev h_(a b:ST):ST:=.seq a b
abbrev an_(i j:Nat)(t:ST):ST:=.op [] .ite [.v i,.v j,.k (.bool false)] t
abbrev or_(i j:Nat)(t:ST):ST:=.op [] .ite [.v i,.k (.bool true),.v j] t
abbrev pt_(i:Nat)(t:ST):ST:=.op [(.v i,true)] .pl [] t
abbrev pf_(i:Nat)(t:ST):ST:=.op [(.v i,false)] .pl [] t
abbrev z_(t:ST):ST:=.seq t (.cons (.leaf 0 [.v 0]) .nil)
abbrev c_(i:Nat)(es:List SE)(t:ST):ST:=.call i es (.cons t .nil)
abbrev xs_(i j n:Nat):List SE:=cellsE i j n
abbrev E2:PO:=.bin .eql
abbrev N2:PO:=.bin .neq
abbrev L2:PO:=.bin .lss
abbrev G2:PO:=.bin .gtr
abbrev K2:PO:=.bin .leq
abbrev H2:PO:=.bin .geq
abbrev A2:PO:=.bin .add
abbrev S2:PO:=.bin .sub
abbrev zI(n:Int):SK:=.int .i64 n
abbrev zB(b:Bool):SK:=.bool b
abbrev zS(l:List UInt8):SK:=.str ⟨l.toArray⟩
abbrev zL(k:Nat)(fl:Bool):SK:=.nil k fl
abbrev R:=Option (Nat×List D)
noncomputable def opT(r:Option D)(G:Gf)(t:ST)(ρ:List D):R:=match r with
 |some x=>denT G t 0 (ρ++[x])
 |none=>none
def poT(o:PO):Option (List D)→Option D
 |some xs=>evPO o xs
 |none=>none
noncomputable def ogT(g:Option Bool)(G:Gf)(o:PO)(es:List SE)(t:ST)(ρ:List D):R:=match g with
 |some true=>opT (poT o (evE ρ es)) G t ρ
 |some false=>denT G t 0 (ρ++[.bool false])
 |none=>none
noncomputable def gdT(g:Option Bool)(G:Gf)(a b:ST)(ρ:List D):R:=match g with
 |some true=>denT G a 0 ρ
 |some false=>denT G b 0 ρ
 |none=>none
noncomputable def clR(r:R)(G:Gf)(ts:ST)(ρ:List D):R:=match r with
 |some (j,ws)=>denT G ts j (ρ++ws)
 |none=>none
noncomputable def clT(r:Option (List D))(G:Gf)(i:Nat)(ts:ST)(ρ:List D):R:=match r with
 |some xs=>clR (G i xs) G ts ρ
 |none=>none
def lfT(j:Nat):Option (List D)→R
 |some xs=>some (j,xs)
 |none=>none
def mpT(f:List Nat):R→R
 |some (j,σ)=>(nth f j).map (·,σ)
 |none=>none
noncomputable def sqT(r:R)(G:Gf)(ts:ST):R:=match r with
 |some (j,σ)=>denT G ts j σ
 |none=>none
noncomputable def lB(G:Gf)(bs:ST)(p:Nat×List D):Option (Sg (Nat×List D) (Nat×List D)):=goOut (denT G bs p.1 p.2)
noncomputable def lpT(r:Option (List D))(G:Gf)(h:Nat)(bs:ST):R:=match r with
 |some σ=>gloop (lB G bs) (h,σ)
 |none=>none
def gsT(w:Bool):Option D→Option Bool→Option Bool
 |some (.bool b),some c=>some (if b=w then c else false)
 |_,_=>none
def elT(j:Nat):Option D→Option D
 |some x=>match elC x with
  |some cs=>nth cs j
  |none=>none
 |none=>none
def csT:Option D→Option (List D)→Option (List D)
 |some x,some xs=>some (x::xs)
 |_,_=>none
section
variable (G:Gf) (ρ:List D)
theorem dn_op(o:PO)(es:List SE)(t:ST)(j:Nat):denT G (.op [] o es t) j ρ=opT (poT o (evE ρ es)) G t ρ:=by
 simp only[denT,gsO,opT,poT];cases evE ρ es<;>rfl
theorem dn_og(p:SE×Bool)(gs:Gs)(o:PO)(es:List SE)(t:ST)(j:Nat):denT G (.op (p::gs) o es t) j ρ=ogT (gsO ρ (p::gs)) G o es t ρ:=by
 simp only[denT,ogT,opT,poT];generalize gsO ρ (p::gs)=g;rcases g with _|_|_
 ·rfl
 ·rfl
 ·cases evE ρ es<;>rfl
theorem dn_gd(gs:Gs)(a b:ST)(j:Nat):denT G (.gd gs a b) j ρ=gdT (gsO ρ gs) G a b ρ:=(rfl)
theorem dn_cl(i:Nat)(es:List SE)(ts:ST)(j:Nat):denT G (.call i es ts) j ρ=clT (evE ρ es) G i ts ρ:=(rfl)
theorem dn_lf(j:Nat)(es:List SE)(k:Nat):denT G (.leaf j es) k ρ=lfT j (evE ρ es):=(rfl)
theorem dn_mp(f:List Nat)(t:ST)(k:Nat):denT G (.map f t) k ρ=mpT f (denT G t 0 ρ):=(rfl)
theorem dn_sq(t ts:ST)(k:Nat):denT G (.seq t ts) k ρ=sqT (denT G t 0 ρ) G ts:=(rfl)
theorem dn_lp(h:Nat)(es:List SE)(bs:ST)(k:Nat):denT G (.loop h es bs) k ρ=lpT (evE ρ es) G h bs:=(rfl)
theorem dn_bt(a b:ST)(k:Nat):denT G (.both a b) k ρ=bothT (denT G a 0 ρ) (denT G b 0 ρ):=(rfl)
theorem dn_c0(a b:ST):denT G (.cons a b) 0 ρ=denT G a 0 ρ:=(rfl)
theorem dn_cs(a b:ST)(j:Nat):denT G (.cons a b) (j+1) ρ=denT G b j ρ:=(rfl)
theorem opT_s(x:D)(t:ST):opT (some x) G t ρ=denT G t 0 (ρ++[x]):=(rfl)
theorem poT_s(o:PO)(xs:List D):poT o (some xs)=evPO o xs:=(rfl)
theorem ogT_t(o:PO)(es:List SE)(t:ST):ogT (some true) G o es t ρ=opT (poT o (evE ρ es)) G t ρ:=(rfl)
theorem ogT_f(o:PO)(es:List SE)(t:ST):ogT (some false) G o es t ρ=denT G t 0 (ρ++[.bool false]):=(rfl)
theorem gdT_t(a b:ST):gdT (some true) G a b ρ=denT G a 0 ρ:=(rfl)
theorem gdT_f(a b:ST):gdT (some false) G a b ρ=denT G b 0 ρ:=(rfl)
theorem clT_s(xs:List D)(i:Nat)(ts:ST):clT (some xs) G i ts ρ=clR (G i xs) G ts ρ:=(rfl)
theorem clR_s(j:Nat)(ws:List D)(ts:ST):clR (some (j,ws)) G ts ρ=denT G ts j (ρ++ws):=(rfl)
theorem lfT_s(j:Nat)(xs:List D):lfT j (some xs)=some (j,xs):=(rfl)
theorem mpT_s(f:List Nat)(j:Nat)(σ:List D):mpT f (some (j,σ))=(nth f j).map (·,σ):=(rfl)
theorem sqT_s(j:Nat)(σ:List D)(ts:ST):sqT (some (j,σ)) G ts=denT G ts j σ:=(rfl)
theorem lpT_s(σ:List D)(h:Nat)(bs:ST):lpT (some σ) G h bs=gloop (lB G bs) (h,σ):=(rfl)
theorem d_v(i:Nat):SE.d ρ (.v i)=nth ρ i:=(rfl)
theorem d_k(x:SK):SE.d ρ (.k x)=some x.d:=(rfl)
theorem d_c(i j:Nat):SE.d ρ (.c i j)=elT j (nth ρ i):=by
 simp only[SE.d,elT];cases nth ρ i<;>rfl
theorem elT_s(j k:Nat)(fl:Bool)(cs:List D):elT j (some (.list k fl [cs]))=nth cs j:=(rfl)
theorem e_nil:evE ρ []=some []:=(rfl)
theorem e_cons(e:SE)(es:List SE):evE ρ (e::es)=csT (e.d ρ) (evE ρ es):=by
 simp only[evE];cases e.d ρ with
 |none=>rfl
 |some x=>cases evE ρ es<;>rfl
theorem csT_s(x:D)(xs:List D):csT (some x) (some xs)=some (x::xs):=(rfl)
theorem lB_(bs:ST)(h:Nat)(σ:List D):lB G bs (h,σ)=goOut (denT G bs h σ):=(rfl)
theorem gO(j:Nat)(σ:List D):goOut (some (j,σ))=some (if j % 2=0 then .go (j / 2,σ) else .out (j / 2,σ)):=(rfl)
end
theorem po_bi(op:BinOp)(k:IntKind)(a b:Int):evPO (.bin op) [.int k a,.int k b]=binI op k a b:=by
 simp only[evPO,binD,if_true];cases binI op k a b<;>rfl
theorem po_bs(op:BinOp)(a b:ByteArray):evPO (.bin op) [.str a,.str b]=binS op a b:=by
 simp only[evPO,binD];cases binS op a b<;>rfl
theorem po_bb(op:BinOp)(a b:Bool):evPO (.bib op) [.bool a,.bool b]=binB op a b:=(rfl)
theorem po_not(b:Bool):evPO .not [.bool b]=some (.bool (!b)):=(rfl)
theorem po_conv(k k':IntKind)(a:Int):evPO (.conv k) [.int k' a]=some (.int k (k.wrap a)):=(rfl)
theorem po_neg(k:IntKind)(a:Int):evPO .neg [.int k a]=some (.int k (k.wrap (-a))):=(rfl)
theorem po_len(k:Nat)(fl:Bool)(es:List (List D)):evPO .len [.list k fl es]=some (.int .i64 es.length):=(rfl)
theorem po_sln(t:ByteArray):evPO .sln [.str t]=some (.int .i64 t.size):=(rfl)
theorem po_ite1(b y:Bool):evPO .ite [.bool b,.bool true,.bool y]=some (.bool (b ||y)):=by cases b<;>rfl
theorem po_ite0(b y:Bool):evPO .ite [.bool b,.bool y,.bool false]=some (.bool (b && y)):=by cases b<;>rfl
theorem po_cel(o k:Nat)(fl:Bool)(cs:List D):evPO (.cel o) [.list k fl [cs]]=nth cs o:=(rfl)
theorem po_has(n k:Nat)(fl:Bool)(cs:List D):evPO (.has n) [.list k fl [cs]]=if n≤cs.length then some (.bool false) else none:=(rfl)
theorem po_el(k:Nat)(fl:Bool)(es:List (List D))(n:Int)(h:0≤n):evPO (.el k) [.list k fl es,.int .i64 n]=(nth es n.toNat).map fun e=>.list 0 false [e]:=by simp only[evPO,h,and_self,if_true]
theorem po_eln(k:Nat)(fl:Bool)(es:List (List D))(n:Nat):evPO (.el k) [.list k fl es,.int .i64 (n:Int)]=(nth es n).map fun e=>.list 0 false [e]:=by
 rw[po_el k fl es n (by omega),Int.toNat_natCast]
theorem po_el0(k:Nat)(fl:Bool)(es:List (List D)):evPO (.el k) [.list k fl es,.int .i64 0]=(nth es 0).map fun e=>.list 0 false [e]:=po_eln k fl es 0
theorem po_chk(k:Nat)(fl:Bool)(es:List (List D))(n:Nat)(h:n < es.length):evPO .chk [.list k fl es,.int .i64 (n:Int)]=some (.bool false):=by
 simp only[evPO,Int.toNat_natCast];rw[if_pos ⟨by omega,h⟩]
theorem po_six(t:ByteArray)(n:Nat)(h:n < t.size):evPO .six [.str t,.int .i64 (n:Int)]=some (.int .u8 (bAt t n)):=by
 simp only[evPO,Int.toNat_natCast];rw[if_pos ⟨by omega,h⟩]
theorem po_pl0:evPO .pl []=some (.bool false):=(rfl)
theorem po_app(k by_:Nat)(fl:Bool)(es es':List (List D))(h:(es.length+es'.length) * by_≤room∧es.length+es'.length≤maxLen):evPO (.app k by_) [.list k fl es,.list k fl es']=some (.list k fl (es++es')):=by
 simp only[evPO,h.1,h.2,and_self,if_true]
theorem po_max(a b:Int):evPO .max [.int .i64 a,.int .i64 b]=some (.int .i64 (if a < b then b else a)):=(rfl)
theorem po_mkl0(k:Nat)(fl:Bool):evPO (.mkl k fl) []=some (.list k fl []):=by
 simp only[evPO,List.length_nil,Nat.zero_mod,if_true,Nat.zero_div,chunk];simp
theorem sk_int(k:IntKind)(n:Int):SK.d (.int k n)=.int k n:=(rfl)
theorem sk_bool(b:Bool):SK.d (.bool b)=.bool b:=(rfl)
theorem sk_str(t:ByteArray):SK.d (.str t)=.str t:=(rfl)
theorem sk_nil(k:Nat)(fl:Bool):SK.d (.nil k fl)=.list k fl []:=(rfl)
theorem gsO_c(ρ:List D)(e:SE)(w:Bool)(gs:Gs)(c:Bool)(hg:gsO ρ gs=some c):gsO ρ ((e,w)::gs)=gsT w (e.d ρ) (some c):=by
 simp only[gsO];cases e.d ρ with
 |none=>rfl
 |some x=>cases x<;>simp only[gsT,hg]<;>split<;>rfl
theorem gs_one(ρ:List D)(e:SE)(w:Bool):gsO ρ [(e,w)]=gsT w (e.d ρ) (some true):=gsO_c ρ e w [] true rfl
theorem gsT_t(b:Bool):gsT true (some (.bool b)) (some true)=some b:=by cases b<;>rfl
theorem gsT_f(b:Bool):gsT false (some (.bool b)) (some true)=some (!b):=by cases b<;>rfl
attribute [go_sem] po_bi po_bs po_bb po_not po_conv po_neg po_len po_sln po_ite1 po_ite0 po_cel po_has po_eln po_el0 po_pl0 po_max po_mkl0 sk_int sk_bool sk_str sk_nil gs_one gsT_t gsT_f
attribute [go_sem] dn_op dn_og dn_gd dn_cl dn_lf dn_mp dn_sq dn_lp dn_bt dn_c0 dn_cs opT_s poT_s ogT_t ogT_f gdT_t gdT_f clT_s clR_s lfT_s mpT_s sqT_s lpT_s d_v d_k d_c elT_s e_nil e_cons csT_s bothT_same
attribute [go_sem] cellsE
attribute [go_sem] Nat.reduceAdd Nat.reduceMod Nat.reduceDiv Nat.reduceEqDiff reduceIte Int.reduceEq Int.reduceLT Int.reduceLE Int.reduceAdd Int.reduceSub Int.reduceNeg
end
end Go.Proofs.YtcdjbelccndadaaGreatDoor
