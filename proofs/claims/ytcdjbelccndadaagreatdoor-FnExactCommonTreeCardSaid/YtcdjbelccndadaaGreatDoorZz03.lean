/- Part of the proof: a machine over plain data, its proof, the functions of the program run on symbols, what they answer. Condition: none. -/
import Derived.Test.YtcdjbelccndadaaGreatDoorZz02
set_option linter.unusedVariables false
set_option linter.unusedSimpArgs false
open Bool renaming and_eq_true->ab,false_eq_true->au,true_and->bU,false_ne_true->cj,not_eq_true'->ck,eq_false_iff->cT,false_and->df,or_eq_true->dE,and_true->fj,false_or->fQ,and_assoc->fW,and_self->iL,and_false->iU,or_true->jo
open Int renaming toNat_natCast->cB
open List renaming cons_append->ai,nil_append->ak,length_map->av,mem_cons->ay,replicate->aC,append_nil->aD,length_cons->aE,getElem?_eq_some_iff->aI,mem_append->aL,map_cons->aN,length_append->aO,length_nil->aQ,all_eq_true->aS,sizeOf_lt_of_mem->aU,take_length->aW,drop_zero->aX,length_take->aY,take_append_drop->a_,append_assoc->bh,range->bE,all_cons->bW,nodup_cons->bZ,mem_cons_of_mem->cp,mem_singleton->ct,drop_length->cC,take_succ_cons->cD,map_append->dc,mem_cons_self->dQ,length_drop->gN,getElem?_drop->gW,any_eq_true->ku,take_left->l8,drop_drop->pj
open List.cons renaming injEq->bq
open Nat renaming le_refl->aj,reduceEqDiff->ax,le_trans->az,zero_add->bo,reduceAdd->bI,add_assoc->dv,add_zero->eA,blt->fh,blt_eq->lH,ble->ny,zero_le->qL
open Option renaming map_eq_some_iff->ad,map_some->aB,isSome_iff_exists->bF,bind_some->cO,getD_some->mK
open Option.some renaming injEq->aa,inj->eJ
open Prod.mk renaming injEq->ao
open SizeOf renaming sizeOf->ah
namespace Go.Proofs.YtcdjbelccndadaaGreatDoor
section
def SC.cells:SC->Option (List SB)
 | .b x=>some [x]
 | .agg xs=>some xs
 |_=>none
def SB.cell:SB->Bool
 | .any=>false
 |_=>true
def Vw{α:Type}(l:List α)(o:Nat)(n:List α):List α:=l.take o++n++l.drop (o+n.length)
def rM:C->Option SB
 | .d (.int k n)=>some (.d (.k (.int k n)))
 | .d (.bool b)=>some (.d (.k (.bool b)))
 | .d (.str t)=>some (.d (.k (.str t)))
 | .nil k fl=>some (.nil k fl)
 |_=>none
def zq(S:SS)(gs:Gs)(zs:List SB):List (Nat×Nat×KX)->Option (List SB)
 |[]=>some zs
 |(o,n,x)::ps=>match eQ S gs x with
  |some c=>match c.cells with
   |some cs=>if cs.length=n/\o+n<=zs.length/\cs.all SB.cell=true then zq S gs (Vw zs o cs) ps else none
   |none=>none
  |none=>none
def yM(i o:Nat):Nat->List SB
 |0=>[]
 |n+1=>.d (.c i o)::yM i (o+1) n
def vN(n:Nat):SC:=.b (.d (.v n))
def Iy(n:Nat)(o:PO):List (Option SE)->Option (Bs×SC)
 |[some a]=>some ([(o,[a])],vN n)
 |[some a,some b]=>some ([(o,[a,b])],vN n)
 |[some a,some b,some c]=>some ([(o,[a,b,c])],vN n)
 |_=>none
def qa(S:SS)(gs:Gs):Option KX->Option SE
 |none=>some (.k (.int .i64 0))
 |some x=>sD (eQ S gs x)
def VD(S:SS)(gs:Gs)(n:Nat):KO->Option (Bs×SC)
 | .mv x=>(eQ S gs x).map λc=>([],c)
 | .pick c x y=>match sD (eQ S gs c) with
  |some e=>if (e,true)∈gs then (eQ S gs x).map λc=>([],c) else if (e,false)∈gs then (eQ S gs y).map λc=>([],c)
   else Iy n .ite [some e,sD (eQ S ((e,true)::gs) x),sD (eQ S ((e,false)::gs) y)]
  |none=>none
 | .build zs ps=>match fk rM zs with
  |some zs'=>(zq S gs zs' ps).map λl=>([],.agg l)
  |none=>none
 | .ld m x=>match eQ S gs x with
  |some (.ptr b o)=>match look S.bx b with
   |some xs=>if m=0 then (nth xs o).map λy=>([],.b y) else if o+m<=xs.length then some ([],.agg ((xs.drop o).take m)) else none
   |none=>none
  |some (.qN i o)=>if m=0 then some ([(.eK o,[.v i])],vN n) else some ([(.has (o+m),[.v i])],.agg (yM i o m))
  |some (.na r k i o)=>match look S.rw r with
   |some row=>if row.k=k then (if m=0 then some ([(.nN k o 1 row.deep,[row.e,i]),(.eK o,[.v n])],vN (n+1)) else some ([(.nN k o m row.deep,[row.e,i])],.agg (yM n o m))) else none
   |none=>none
  |_=>none
 | .fa o x=>match eQ S gs x with
  |some (.ptr b p)=>some ([],.ptr b (p+o))
  |some (.qN i p)=>some ([],.qN i (p+o))
  |some (.na r k i p)=>some ([],.na r k i (p+o))
  |_=>none
 | .ia k x i=>match eQ S gs x,sD (eQ S gs i) with
  |some (.b (.d e)),some j=>some ([(.el k,[e,j])],.qN n 0)
  |some (.b (.ref r)),some j=>match look S.rw r with
   |some row=>if row.k=k then some ([(.lF,[row.e,j])],.na r k j 0) else none
   |none=>none
  |_,_=>none
 | .kW x i=>Iy n .kW [sD (eQ S gs x),sD (eQ S gs i)]
 | .bin op x y=>Iy n (.bin op) [sD (eQ S gs x),sD (eQ S gs y)]
 | .uS op x y=>Iy n (.uS op) [sD (eQ S gs x),sD (eQ S gs y)]
 | .not x=>Iy n .not [sD (eQ S gs x)]
 | .neg x=>Iy n .neg [sD (eQ S gs x)]
 | .conv k x=>Iy n (.conv k) [sD (eQ S gs x)]
 | .len x=>match eQ S gs x with
  |some (.b (.d e))=>some ([(.len,[e])],vN n)
  |some (.b (.nil _ _))=>some ([],.b (.d (.k (.int .i64 0))))
  |some (.b (.ref r))=>match look S.rw r with
   |some row=>some ([(.len,[row.e])],vN n)
   |none=>none
  |_=>none
 | .kQ x=>Iy n .kQ [sD (eQ S gs x)]
 | .min x y=>Iy n .min [sD (eQ S gs x),sD (eQ S gs y)]
 | .max x y=>Iy n .max [sD (eQ S gs x),sD (eQ S gs y)]
 | .ext x i=>match eQ S gs x with
  |some (.oK xs)=>match nth xs i with
   |some (.inl y)=>some ([],.b y)
   |some (.inr l)=>some ([],.agg l)
   |none=>none
  |_=>none
 | .slc x hi=>Iy n (.cut true) [sD (eQ S gs x),some (.k (.int .i64 0)),sD (eQ S gs hi)]
 | .Ji x lo hi=>match hi with
  |none=>Iy n (.Ji false) [sD (eQ S gs x),qa S gs lo]
  |some h=>Iy n (.Ji true) [sD (eQ S gs x),qa S gs lo,sD (eQ S gs h)]
 | .yi k x lo hi=>match hi with
  |none=>Iy n (.yi k false) [sD (eQ S gs x),qa S gs lo]
  |some h=>Iy n (.yi k true) [sD (eQ S gs x),qa S gs lo,sD (eQ S gs h)]
 | .WG x=>match eQ S gs x with
  |some (.ptr b o)=>some ([],.ptr b o)
  |some (.qN i o)=>some ([],.qN i o)
  |some (.na r k i o)=>some ([],.na r k i o)
  |_=>none
 | .yq x=>match eQ S gs x with
  |some (.b (.ref r))=>match look S.rw r with
   |some row=>if row.k=1 then some ([(.yq,[row.e])],vN n) else none
   |none=>none
  |_=>none
 |_=>none
section
variable {ρ gy:List D} {S:SS} {s:St} {gs:Gs} {bs:Bs} {c:SC}
theorem dw.nth:∀{xs:List SB} {cs:List C} {i:Nat} {x:SB},dw ρ xs cs->nth xs i=some x->∃c,nth cs i=some c/\iV ρ x c
 |_::_,_,0,_,⟨c,_,h1,h2,_⟩,h=>by cases h;subst h1;exact⟨c,rfl,h2⟩
 |_::xs,_,i+1,_,⟨_,cs,h1,_,h3⟩,h=>by subst h1;exact dw.nth (xs:=xs) (i:=i) h3 h
 |[],_,_,_,_,h=>by cases h
theorem dw.len:∀{xs:List SB} {cs:List C},dw ρ xs cs->cs.length=xs.length
 |[],_,h=>by simp only[dw]at h;subst h;rfl
 |_::_,_,⟨_,_,h1,_,h3⟩=>by subst h1;simp[dw.len h3]
theorem dw.drop:∀(n:Nat) {xs:List SB} {cs:List C},dw ρ xs cs->dw ρ (xs.drop n) (cs.drop n)
 |0,_,_,h=>h
 |_+1,[],_,h=>by simp only[dw]at h;subst h;rfl
 |n+1,_::_,_,⟨_,_,h1,_,h3⟩=>by subst h1;exact dw.drop n h3
theorem dw.take:∀(n:Nat) {xs:List SB} {cs:List C},dw ρ xs cs->dw ρ (xs.take n) (cs.take n)
 |0,_,_,_=>rfl
 |_+1,[],_,h=>by simp only[dw]at h;subst h;rfl
 |n+1,_::_,_,⟨c,_,h1,h2,h3⟩=>by subst h1;exact⟨c,_,rfl,h2,dw.take n h3⟩
theorem dw.app:∀{xs ys:List SB} {cs ds:List C},dw ρ xs cs->dw ρ ys ds->dw ρ (xs++ys) (cs++ds)
 |[],_,_,_,h,h'=>by simp only[dw]at h;subst h;exact h'
 |_::_,_,_,_,⟨c,_,h1,h2,h3⟩,h'=>by subst h1;exact⟨c,_,rfl,h2,dw.app h3 h'⟩
theorem dw.ZG(o:Nat){xs ys:List SB}{cs ds:List C}(h:dw ρ xs cs)(h':dw ρ ys ds):dw ρ (Vw xs o ys) (fP cs o ds):=by
 unfold Vw fP;rw[h'.len];exact ((h.take o).app h').app (h.drop _)
theorem iV.cell{x:SB}{c:C}(h:iV ρ x c)(hc:x.cell=true):c.cell=true:=by
 cases x with
 |d e=>obtain⟨y,_,rfl⟩:=h;rfl
 |nil k fl=>simp only[iV]at h;subst h;rfl
 |ref r=>simp only[iV]at h;subst h;rfl
 |any=>cases hc
theorem dw.cell:∀{xs:List SB} {cs:List C},dw ρ xs cs->xs.all SB.cell=true->cs.all C.cell=true
 |[],_,h,_=>by simp only[dw]at h;subst h;rfl
 |_::_,_,⟨_,_,h1,h2,h3⟩,h=>by
  subst h1;simp only[bW,ab]at h ⊢;exact⟨h2.cell h.1,dw.cell h3 h.2⟩
theorem jQ.cells{x:SC}{c:C}{xs:List SB}(h:jQ ρ x c)(hx:x.cells=some xs)(hc:xs.all SB.cell=true):dw ρ xs c.cells:=by
 cases x with
 |b y=>
  cases hx;simp only[bW,List.all_nil,fj]at hc;refine⟨c,[],?_,h,rfl⟩;have:=iV.cell h hc;cases c<;>simp_all[C.cell,C.cells]
 |agg ys=>
  cases hx;obtain⟨cs,rfl,h1⟩:=h;exact h1
 |_=>cases hx
theorem Jz{z:C}{x:SB}(h:rM z=some x):iV ρ x z:=by
 unfold rM at h
 split at h<;>first|(cases h;exact⟨_,rfl,rfl⟩)|(cases h;rfl)|cases h
theorem tO:∀{zs:List C} {xs:List SB},fk rM zs=some xs->dw ρ xs zs
 |[],_,h=>by simp only[fk,aa]at h;subst h;rfl
 |z::zs,xs,h=>by
  simp only[fk]at h
  split at h
  ·rename_i y hy;simp only[ad]at h;obtain⟨ys,h1,rfl⟩:=h;exact⟨z,zs,rfl,Jz hy,tO h1⟩
  ·cases h
theorem yn(h:Rel ρ S s)(hg:gQ ρ gs=some true):∀(ps:List (Nat×Nat×KX)) {zs l:List SB} {cs:List C},zq S gs zs ps=some l->dw ρ zs cs->∃iA,xT cs (ps.map λp=>(p.1,p.2.1,(eU s p.2.2).cells))=some iA/\dw ρ l iA
 |[],zs,l,cs,he,hz=>by cases he;exact⟨cs,rfl,hz⟩
 |(o,n,x)::ps,zs,l,cs,he,hz=>by
  simp only[zq]at he
  split at he
  ·rename_i c hc
   split at he
   ·rename_i ys hy
    split at he
    ·rename_i h1;obtain⟨h1,h2,h3⟩:=h1;have hr:=(ch h hg hc).cells hy h3;obtain⟨iA,h4,h5⟩:=yn h hg ps he (hz.ZG o hr);refine⟨iA,?_,h5⟩;simp only[aN,xT];rw[if_pos ⟨by rw[hr.len,h1],by rw[hz.len];exact h2,hr.cell h3⟩];exact h4
    ·cases he
   ·cases he
  ·cases he
theorem rI{i:Nat}{x:D}{cs:List D}(hx:nth ρ i=some x)(hc:Xn x=some cs):∀(n o:Nat),o+n<=cs.length->dw ρ (yM i o n) (((cs.drop o).take n).map .d)
 |0,o,_=>rfl
 |n+1,o,h=>by
  have hl:o < cs.length:=by omega
  rw[List.drop_eq_getElem_cons hl,cD,aN];exact⟨_,_,rfl,⟨cs[o],by simp only[SE.d,hx,hc,cV];simp[hl],rfl⟩,rI hx hc n (o+1) (by omega)⟩
theorem fC{n:Nat}{o:PO}{l:List (Option SE)}(h:Iy n o l=some (bs,c))(hn:n=ρ.length)(hb:jm ρ bs=some gy):∃es xs x,l=es.map some/\gU ρ es=some xs/\aK o xs=some x/\gy=ρ++[x]/\jQ gy c (.d x):=by
 have fin:∀{es:List SE},bs=[(o,es)]->c=vN n->l=es.map some->∃es xs x,l=es.map some/\gU ρ es=some xs/\aK o xs=some x/\gy=ρ++[x]/\jQ gy c (.d x):=by
  intro es e1 e2 e3;subst e1 e2;obtain⟨xs,x,h1,h2,h3⟩:=dH hb;refine⟨es,xs,x,e3,h1,h2,h3,?_⟩;subst h3 hn;exact⟨x,iD ρ x [],rfl⟩
 unfold Iy at h
 split at h
 ·simp only[aa,ao]at h;exact fin h.1.symm h.2.symm rfl
 ·simp only[aa,ao]at h;exact fin h.1.symm h.2.symm rfl
 ·simp only[aa,ao]at h;exact fin h.1.symm h.2.symm rfl
 ·cases h
theorem opD(h:Rel ρ S s)(hg:gQ ρ gs=some true):∀(xs:List KX) {es:List SE} {ys:List D},xs.map (λx=>sD (eQ S gs x))=es.map some->gU ρ es=some ys->xs.map (eU s)=ys.map .d
 |[],es,ys,h1,h2=>by
  have:es=[]:=by simpa using h1.symm
  subst this;cases h2;rfl
 |x::xs,[],ys,h1,h2=>by simp at h1
 |x::xs,e::es,ys,h1,h2=>by
  simp only[aN,bq]at h1;obtain⟨y,zs,h3,h4,rfl⟩:=cS h2;obtain⟨y',h5,h6⟩:=j9 h hg h1.1;rw[h3]at h5;cases h5;simp only[aN,h6,opD h hg xs h1.2 h4]
theorem U3(h:Rel ρ S s)(hg:gQ ρ gs=some true){x:KX}{es:List SE}{xs:List D}(hl:[sD (eQ S gs x)]=es.map some)(he:gU ρ es=some xs):∃a,xs=[a]/\eU s x=.d a:=by
 have:=opD h hg [x] hl he;rcases xs with _|⟨a,_|⟨b,l⟩⟩
 ·simp at this
 ·simp at this;exact⟨a,rfl,this⟩
 ·simp at this
theorem SQ(h:Rel ρ S s)(hg:gQ ρ gs=some true){x y:KX}{es:List SE}{xs:List D}(hl:[sD (eQ S gs x),sD (eQ S gs y)]=es.map some)(he:gU ρ es=some xs):∃a b,xs=[a,b]/\eU s x=.d a/\eU s y=.d b:=by
 have:=opD h hg [x,y] hl he;rcases xs with _|⟨a,_|⟨b,_|⟨c,l⟩⟩⟩
 ·simp at this
 ·simp at this
 ·simp at this;exact⟨a,b,rfl,this⟩
 ·simp at this
theorem FZ(h:Rel ρ S s)(hg:gQ ρ gs=some true){lo:Option KX}{e:SE}{x:D}{a:Nat}(hl:qa S gs lo=some e)(he:e.d ρ=some x)(hd:dI x=some a):∀z,(lo=none->z=0)->pO s lo z=some a:=by
 intro z hz;cases lo with
 |none=>
  simp only[qa,aa]at hl;subst hl;cases he;simp only[SK.d,dI]at hd;simp only[pO,hz rfl]
  simpa using hd
 |some y=>
  simp only[qa]at hl;obtain⟨v,h1,h2⟩:=j9 h hg hl;rw[he]at h1;cases h1;simp only[pO,h2];cases x with
  |int k m=>cases k<;>simp_all[dI]
  |_=>simp[dI]at hd
theorem jr{es:List SE}{xs:List D}(h:gU ρ es=some xs):xs.length=es.length:=by
 induction es generalizing xs with
 |nil=>cases h;rfl
 |cons e es ih=>
  obtain⟨x,ys,_,h2,rfl⟩:=cS h;simp[ih h2]
theorem BU(h:Rel ρ S s)(hg:gQ ρ gs=some true){n:Nat}(hn:n=ρ.length){o:KO}(hs:VD S gs n o=some (bs,c))(hb:jm ρ bs=some gy):∃v,gH s o=some v/\jQ gy c v:=by
 unfold VD at hs
 split at hs
 ·
  simp only[ad,ao]at hs;obtain⟨c',h1,rfl,rfl⟩:=hs;cases hb;exact⟨_,rfl,ch h hg h1⟩
 ·
  split at hs
  ·rename_i e he;obtain⟨cv,h6,h7⟩:=j9 h hg he
   split at hs
   ·rename_i hm;have:=lP hg _ hm;rw[h6]at this;cases this;simp only[ad,ao]at hs;obtain⟨c',h1,rfl,rfl⟩:=hs;cases hb;exact⟨_,by simp only[gH,h7,if_true],ch h hg h1⟩
   ·split at hs
    ·rename_i hm;have:=lP hg _ hm;rw[h6]at this;cases this;simp only[ad,ao]at hs;obtain⟨c',h1,rfl,rfl⟩:=hs;cases hb;exact⟨_,by simp only[gH,h7,au,if_false],ch h hg h1⟩
    ·obtain⟨es,xs,x,h1,h2,h3,h4,h5⟩:=fC hs hn hb;rcases es with _|⟨e0,_|⟨e1,_|⟨e2,_|⟨e3,l⟩⟩⟩⟩<;>simp at h1
     obtain⟨rfl,hx,hy⟩:=h1;obtain⟨c0,ys,g1,g2,rfl⟩:=cS h2;obtain⟨a,zs,g3,g4,rfl⟩:=cS g2;obtain⟨b,g5,rfl⟩:=ef g4;rw[g1]at h6;cases h6;cases cv with
     |bool t=>
      simp only[aK,aa]at h3;cases t with
      |true=>
       have hg':gQ ρ ((e,true)::gs)=some true:=by simp only[gQ,g1,if_true];exact hg
       obtain⟨a',q1,q2⟩:=j9 h hg' hx;rw[g3]at q1;cases q1;refine⟨_,by simp only[gH,h7,if_true];rfl,?_⟩;rw[q2];simp only[if_true]at h3;rw[h3];exact h5
      |false=>
       have hg':gQ ρ ((e,false)::gs)=some true:=by simp only[gQ,g1,if_true];exact hg
       obtain⟨b',q1,q2⟩:=j9 h hg' hy;rw[g5]at q1;cases q1;refine⟨_,by simp only[gH,h7];rfl,?_⟩;simp only[au,if_false]at h3 ⊢;rw[q2,h3];exact h5
     |int k m=>simp[aK]at h3
     |str t=>simp[aK]at h3
     |list k fl es=>simp[aK]at h3
  ·cases hs
 ·
  split at hs
  ·rename_i zs' hz;simp only[ad,ao]at hs;obtain⟨l,h1,rfl,rfl⟩:=hs;cases hb;obtain⟨iA,h2,h3⟩:=yn h hg _ h1 (tO hz);exact⟨_,by simp only[gH,h2,aB],⟨iA,rfl,h3⟩⟩
  ·cases hs
 ·
  rename_i m x
  split at hs
  ·rename_i b o hx;have hr:=ch h hg hx;simp only[jQ]at hr
   split at hs
   ·rename_i ys hl;obtain⟨cs,h1,h2⟩:=h.bx b ys hl
    split at hs
    ·rename_i hm;simp only[ad,ao]at hs;obtain⟨y,h3,rfl,rfl⟩:=hs;cases hb;obtain⟨cv,h4,h5⟩:=h2.nth h3;exact⟨cv,by simp only[gH,hr,h1,if_pos hm,h4],h5⟩
    ·rename_i hm
     split at hs
     ·rename_i hle;simp only[aa,ao]at hs;obtain⟨rfl,rfl⟩:=hs;cases hb;exact⟨_,by simp only[gH,hr,h1,if_neg hm];rw[if_pos (by rw[h2.len];exact hle)],⟨_,rfl,(h2.drop o).take m⟩⟩
     ·cases hs
   ·cases hs
  ·rename_i i o hx;obtain⟨el,cs,h1,h2,h3⟩:=ch h hg hx
   split at hs
   ·rename_i hm;simp only[aa,ao]at hs;obtain⟨rfl,rfl⟩:=hs;obtain⟨xs,y,h4,h5,rfl⟩:=dH hb;obtain⟨a,h6,rfl⟩:=ef h4;simp only[SE.d,h1,aa]at h6;subst h6;simp only[aK,h2]at h5;refine⟨.d y,?_,⟨y,by subst hn;exact iD ρ y [],rfl⟩⟩;simp only[gH,h3,if_pos hm];rw[cV,gW,eA,<- cV,h5];rfl
   ·rename_i hm;simp only[aa,ao]at hs;obtain⟨rfl,rfl⟩:=hs;obtain⟨xs,y,h4,h5,rfl⟩:=dH hb;obtain⟨a,h6,rfl⟩:=ef h4;simp only[SE.d,h1,aa]at h6;subst h6;simp only[aK,h2]at h5
    split at h5
    ·rename_i hle;refine⟨_,?_,⟨_,rfl,(rI h1 h2 m o hle).mono _⟩⟩;simp only[gH,h3,if_neg hm];rw[if_pos (by rw[gN];omega)]
    ·cases h5
  ·rename_i r k i o hx;obtain⟨iv,h1,h2⟩:=ch h hg hx
   split at hs
   ·rename_i row hl;obtain⟨y,h3,es,h4,rfl⟩:=h.rw r row hl
    split at hs
    ·rename_i hk;subst hk;have key:∀{q:Nat} {el:D},aK (.nN row.k o q row.deep) [.list row.k row.fl es,.int .i64 iv]=some el->∃e,nth es iv.toNat=some e/\o+q<=row.k/\o+q<=e.length/\(cQ ((e.drop o).take q) ||!row.deep)=true/\el=.list 0 false [e]:=by
      intro q el he;simp only[aK]at he
      split at he
      ·rename_i e iO
       split at he
       ·rename_i hc;cases he;exact⟨e,iO,hc.2.1,hc.2.2.1,hc.2.2.2,rfl⟩
       ·cases he
      ·cases he
     split at hs
     ·rename_i hm;simp only[aa,ao]at hs;obtain⟨rfl,rfl⟩:=hs;simp only[jm]at hb
      split at hb
      ·rename_i xs HO
       split at hb
       ·rename_i el yw;obtain⟨z,zs,q1,q2,rfl⟩:=cS HO;obtain⟨z2,q3,rfl⟩:=ef q2;rw[h4]at q1;cases q1;rw[h1]at q3;cases q3;obtain⟨e,e1,e2,e3,e4,rfl⟩:=key yw
        split at hb
        ·rename_i I2 agO
         split at hb
         ·rename_i v hv;cases hb;obtain⟨w0,w1,rfl⟩:=ef agO;simp only[SE.d,hn,iD,aa]at w1;subst w1;simp only[aK,Xn]at hv;refine⟨.d v,?_,⟨v,by subst hn;have:=iD (ρ++[.list 0 false [e]]) v [];simpa [SE.d] using this,rfl⟩⟩;subst hm;simp only[gH,h2,h3,e1];rw[if_pos ⟨trivial,by simpa using e2,by simpa using e4⟩,if_pos trivial,hv];rfl
         ·cases hb
        ·cases hb
       ·cases hb
      ·cases hb
     ·rename_i hm;simp only[aa,ao]at hs;obtain⟨rfl,rfl⟩:=hs;obtain⟨xs,el,HO,yw,rfl⟩:=dH hb;obtain⟨z,zs,q1,q2,rfl⟩:=cS HO;obtain⟨z2,q3,rfl⟩:=ef q2;rw[h4]at q1;cases q1;rw[h1]at q3;cases q3;obtain⟨e,e1,e2,e3,e4,rfl⟩:=key yw;have XV:Max.max m 1=m:=by omega
      refine⟨_,?_,⟨_,rfl,rI (x:=.list 0 false [e]) (by rw[hn];exact iD ρ _ []) rfl m o e3⟩⟩;simp only[gH,h2,h3,e1,XV];rw[if_pos ⟨trivial,e2,e4⟩,if_neg hm]
    ·cases hs
   ·cases hs
  ·cases hs
 ·
  split at hs
  ·rename_i b p hx;simp only[aa,ao]at hs;obtain⟨rfl,rfl⟩:=hs;cases hb;have hr:=ch h hg hx;simp only[jQ]at hr;exact⟨_,by simp only[gH,hr],rfl⟩
  ·rename_i i p hx;simp only[aa,ao]at hs;obtain⟨rfl,rfl⟩:=hs;cases hb;obtain⟨x,cs,h1,h2,h3⟩:=ch h hg hx;exact⟨_,by simp only[gH,h3];rfl,x,cs,h1,h2,by rw[pj]⟩
  ·rename_i r k i p hx;simp only[aa,ao]at hs;obtain⟨rfl,rfl⟩:=hs;cases hb;obtain⟨iv,h1,h2⟩:=ch h hg hx;exact⟨_,by simp only[gH,h2],iv,h1,rfl⟩
  ·cases hs
 ·
  split at hs
  ·rename_i e j hx hj;simp only[aa,ao]at hs;obtain⟨rfl,rfl⟩:=hs;obtain⟨xs,y,h4,h5,rfl⟩:=dH hb;obtain⟨a,zs,h6,h7,rfl⟩:=cS h4;obtain⟨b,h8,rfl⟩:=ef h7;obtain⟨a',h9,Gv⟩:=ch h hg hx;obtain⟨b',Nr,JR⟩:=j9 h hg hj;rw[h6]at h9;cases h9;rw[h8]at Nr;cases Nr;cases a with
   |list k' fl es=>
    cases b with
    |int kk m=>
     cases kk<;>first|(simp[aK]at h5;done)|skip
     simp only[aK]at h5
     split at h5
     ·rename_i hc;simp only[ad]at h5;obtain⟨el,q1,rfl⟩:=h5;exact⟨_,by simp only[gH,Gv,JR];rw[if_pos hc,q1];rfl,_,_,by rw[hn];exact iD ρ _ [],rfl,rfl⟩
     ·cases h5
    |_=>simp[aK]at h5
   |_=>cases b<;>simp[aK]at h5
  ·rename_i r j hx hj
   split at hs
   ·rename_i row hl;obtain⟨y,h1,es,h2,rfl⟩:=h.rw r row hl
    split at hs
    ·rename_i hk;simp only[aa,ao]at hs;obtain⟨rfl,rfl⟩:=hs;obtain⟨xs,y,h4,h5,rfl⟩:=dH hb;obtain⟨a,zs,h6,h7,rfl⟩:=cS h4;obtain⟨b,h8,rfl⟩:=ef h7;obtain⟨b',Nr,JR⟩:=j9 h hg hj;rw[h2]at h6;cases h6;rw[h8]at Nr;cases Nr;have hr:=ch h hg hx;simp only[jQ,iV]at hr;cases b with
     |int kk m=>
      cases kk<;>first|(simp[aK]at h5;done)|skip
      simp only[aK]at h5
      split at h5
      ·rename_i hc;exact⟨_,by simp only[gH,hr,JR,h1];rw[if_pos ⟨hc.1,hc.2,hk⟩],m,SE.mono _ h8,rfl⟩
      ·cases h5
     |_=>simp[aK]at h5
    ·cases hs
   ·cases hs
  ·cases hs
 ·
  obtain⟨es,xs,y,h1,h2,h3,rfl,h5⟩:=fC hs hn hb;obtain⟨a,b,rfl,h6,h7⟩:=SQ h hg h1 h2;refine⟨_,?_,h5⟩;simp only[gH,h6,h7];cases a<;>cases b<;>first|(simp[aK]at h3;done)|skip
  rename_i t k m;cases k<;>first|(simp[aK]at h3;done)|skip
  simp only[aK]at h3
  split at h3
  ·rename_i hc;cases h3;simp only;rw[if_pos hc]
  ·cases h3
 ·
  obtain⟨es,xs,y,h1,h2,h3,rfl,h5⟩:=fC hs hn hb;obtain⟨a,b,rfl,h6,h7⟩:=SQ h hg h1 h2;refine⟨_,?_,h5⟩;simp only[gH,h6,h7];simp only[aK]at h3;unfold asD at h3
  split at h3
  ·rename_i z hz;cases h3;exact hz
  ·cases h3
 ·
  obtain⟨es,xs,y,h1,h2,h3,rfl,h5⟩:=fC hs hn hb;obtain⟨a,b,rfl,h6,h7⟩:=SQ h hg h1 h2;refine⟨_,?_,h5⟩;simp only[gH,h6,h7];cases a<;>cases b<;>first|(simp[aK]at h3;done)|skip
  simp only[aK]at h3;simp only[h3,aB]
 ·
  obtain⟨es,xs,y,h1,h2,h3,rfl,h5⟩:=fC hs hn hb;obtain⟨a,rfl,h6⟩:=U3 h hg h1 h2;refine⟨_,?_,h5⟩;simp only[gH,h6];cases a<;>first|(simp[aK]at h3;done)|skip
  simp only[aK,aa]at h3;simp only[h3]
 ·
  obtain⟨es,xs,y,h1,h2,h3,rfl,h5⟩:=fC hs hn hb;obtain⟨a,rfl,h6⟩:=U3 h hg h1 h2;refine⟨_,?_,h5⟩;simp only[gH,h6];cases a<;>first|(simp[aK]at h3;done)|skip
  simp only[aK,aa]at h3;simp only[h3]
 ·
  obtain⟨es,xs,y,h1,h2,h3,rfl,h5⟩:=fC hs hn hb;obtain⟨a,rfl,h6⟩:=U3 h hg h1 h2;refine⟨_,?_,h5⟩;simp only[gH,h6];cases a<;>first|(simp[aK]at h3;done)|skip
  simp only[aK,aa]at h3;simp only[h3]
 ·
  split at hs
  ·rename_i e hx;simp only[aa,ao]at hs;obtain⟨rfl,rfl⟩:=hs;obtain⟨xs,y,h4,h5,rfl⟩:=dH hb;obtain⟨a,h6,rfl⟩:=ef h4;obtain⟨a',h9,Gv⟩:=ch h hg hx;rw[h6]at h9;cases h9;refine⟨.d y,?_,y,by subst hn;exact iD ρ y [],rfl⟩;simp only[gH,Gv];cases a<;>first|(simp[aK]at h5;done)|skip
   simp only[aK,aa]at h5;simp only[h5]
  ·rename_i k fl hx;simp only[aa,ao]at hs;obtain⟨rfl,rfl⟩:=hs;cases hb;have hr:=ch h hg hx;simp only[jQ,iV]at hr;exact⟨_,by simp only[gH,hr];rfl,_,rfl,rfl⟩
  ·rename_i r hx
   split at hs
   ·rename_i row hl;obtain⟨y,h1,es,h2,rfl⟩:=h.rw r row hl;simp only[aa,ao]at hs;obtain⟨rfl,rfl⟩:=hs;obtain⟨xs,y,h4,h5,rfl⟩:=dH hb;obtain⟨a,h6,rfl⟩:=ef h4;rw[h2]at h6;cases h6;have hr:=ch h hg hx;simp only[jQ,iV]at hr;simp only[aK,aa]at h5;exact⟨.d y,by simp only[gH,hr,h1,<- h5],y,by subst hn;exact iD ρ y [],rfl⟩
   ·cases hs
  ·cases hs
 ·
  obtain⟨es,xs,y,h1,h2,h3,rfl,h5⟩:=fC hs hn hb;obtain⟨a,rfl,h6⟩:=U3 h hg h1 h2;refine⟨_,?_,h5⟩;simp only[gH,h6];cases a<;>first|(simp[aK]at h3;done)|skip
  simp only[aK,aa]at h3;simp only[h3]
 ·
  obtain⟨es,xs,y,h1,h2,h3,rfl,h5⟩:=fC hs hn hb;obtain⟨a,b,rfl,h6,h7⟩:=SQ h hg h1 h2;refine⟨_,?_,h5⟩;simp only[gH,h6,h7];cases a<;>cases b<;>first|(simp[aK]at h3;done)|skip
  rename_i k1 a k2 b;cases k1<;>cases k2<;>first|(simp[aK]at h3;done)|skip
  simp only[aK,aa]at h3;simp only[h3]
 ·
  obtain⟨es,xs,y,h1,h2,h3,rfl,h5⟩:=fC hs hn hb;obtain⟨a,b,rfl,h6,h7⟩:=SQ h hg h1 h2;refine⟨_,?_,h5⟩;simp only[gH,h6,h7];cases a<;>cases b<;>first|(simp[aK]at h3;done)|skip
  rename_i k1 a k2 b;cases k1<;>cases k2<;>first|(simp[aK]at h3;done)|skip
  simp only[aK,aa]at h3;simp only[h3]
 ·
  split at hs
  ·rename_i ys hx;obtain⟨cs,h1,h2⟩:=ch h hg hx;have key:∀{ys:List (SB ⊕ List SB)} {cs:List C} (i:Nat),rB ρ ys cs->(∀y,nth ys i=some (.inl y)->∃c,nth cs i=some c/\iV ρ y c)/\(∀l,nth ys i=some (.inr l)->∃ds,nth cs i=some (.agg ds)/\dw ρ l ds):=by
    intro ys
    induction ys with
    |nil=>intro cs i _;exact⟨λ_ h=>by simp[nth]at h,λ_ h=>by simp[nth]at h⟩
    |cons y ys ih=>
     intro cs i hr;cases y with
     |inl y=>
      obtain⟨c,iA,rfl,g1,g2⟩:=hr;cases i with
      |zero=>exact⟨λz hz=>by cases hz;exact⟨c,rfl,g1⟩,λl hl=>by cases hl⟩
      |succ i=>exact ih i g2
     |inr l=>
      obtain⟨ds,iA,rfl,g1,g2⟩:=hr;cases i with
      |zero=>exact⟨λz hz=>(by cases hz),λl hl=>by cases hl;exact⟨ds,rfl,g1⟩⟩
      |succ i=>exact ih i g2
   split at hs
   ·rename_i y hy;simp only[aa,ao]at hs;obtain⟨rfl,rfl⟩:=hs;cases hb;obtain⟨cv,h3,h4⟩:=(key _ h2).1 y hy;exact⟨cv,by simp only[gH,h1,h3],h4⟩
   ·rename_i l hy;simp only[aa,ao]at hs;obtain⟨rfl,rfl⟩:=hs;cases hb;obtain⟨ds,h3,h4⟩:=(key _ h2).2 l hy;exact⟨_,by simp only[gH,h1,h3],⟨ds,rfl,h4⟩⟩
   ·cases hs
  ·cases hs
 ·
  obtain⟨es,xs,y,h1,h2,h3,rfl,h5⟩:=fC hs hn hb;rcases es with _|⟨e0,_|⟨e1,_|⟨e2,_|⟨e3,l⟩⟩⟩⟩<;>simp at h1
  obtain⟨hx,rfl,hy⟩:=h1;obtain⟨a,ys,g1,g2,rfl⟩:=cS h2;obtain⟨z,zs,g3,g4,rfl⟩:=cS g2;obtain⟨b,g5,rfl⟩:=ef g4;cases g3;obtain⟨a',q1,q2⟩:=j9 h hg hx;obtain⟨b',q3,q4⟩:=j9 h hg hy;rw[g1]at q1;cases q1;rw[g5]at q3;cases q3;refine⟨_,?_,h5⟩;cases a<;>first|(simp[aK]at h3;done)|skip
  cases b<;>first|(simp[aK,dI,SK.d]at h3;done)|skip
  rename_i k m;cases k<;>first|(simp[aK,dI,SK.d]at h3;done)|skip
  simp only[aK,dI,SK.d,Int.le_refl,if_true,Int.toNat_zero]at h3
  split at h3
  ·rename_i a b ha kU;cases ha
   split at kU
   ·rename_i hm;cases kU
    split at h3
    ·rename_i hc;cases h3;simp only[gH,q2,q4];rw[if_pos ⟨hm,hc.2⟩,aX]
    ·cases h3
   ·cases kU
  ·cases h3
 ·
  split at hs
  ·obtain⟨es,xs,y,h1,h2,h3,rfl,h5⟩:=fC hs hn hb;rcases es with _|⟨e0,_|⟨e1,_|⟨e2,l⟩⟩⟩<;>simp at h1
   obtain⟨hx,hy⟩:=h1;obtain⟨a,ys,g1,g2,rfl⟩:=cS h2;obtain⟨z,g3,rfl⟩:=ef g2;obtain⟨a',q1,q2⟩:=j9 h hg hx;rw[g1]at q1;cases q1;refine⟨_,?_,h5⟩;cases a<;>first|(simp[aK]at h3;done)|skip
   simp only[aK]at h3
   split at h3
   ·rename_i a ha;have Jb:=FZ h hg hy g3 ha 0 (λ_=>rfl)
    split at h3
    ·rename_i hc;cases h3;simp only[gH,q2,Jb];simp only[pO];rw[if_pos ⟨hc,aj _⟩]
    ·cases h3
   ·cases h3
  ·obtain⟨es,xs,y,h1,h2,h3,rfl,h5⟩:=fC hs hn hb;rcases es with _|⟨e0,_|⟨e1,_|⟨e2,_|⟨e3,l⟩⟩⟩⟩<;>simp at h1
   obtain⟨hx,hy,hz⟩:=h1;obtain⟨a,ys,g1,g2,rfl⟩:=cS h2;obtain⟨z,zs,g3,g4,rfl⟩:=cS g2;obtain⟨b,g5,rfl⟩:=ef g4;obtain⟨a',q1,q2⟩:=j9 h hg hx;rw[g1]at q1;cases q1;refine⟨_,?_,h5⟩;cases a<;>first|(simp[aK]at h3;done)|skip
   simp only[aK]at h3
   split at h3
   ·rename_i a b ha kU;have Jb:=FZ h hg hy g3 ha 0 (λ_=>rfl)
    split at h3
    ·rename_i hc;cases h3;have Wf:=λz=>FZ (lo:=some _) h hg hz g5 kU z (λh=>by cases h);simp only[gH,q2,Jb,Wf];rw[if_pos hc]
    ·cases h3
   ·cases h3
 ·
  split at hs
  ·obtain⟨es,xs,y,h1,h2,h3,rfl,h5⟩:=fC hs hn hb;rcases es with _|⟨e0,_|⟨e1,_|⟨e2,l⟩⟩⟩<;>simp at h1
   obtain⟨hx,hy⟩:=h1;obtain⟨a,ys,g1,g2,rfl⟩:=cS h2;obtain⟨z,g3,rfl⟩:=ef g2;obtain⟨a',q1,q2⟩:=j9 h hg hx;rw[g1]at q1;cases q1;refine⟨_,?_,h5⟩;cases a<;>first|(simp[aK]at h3;done)|skip
   simp only[aK]at h3
   split at h3
   ·rename_i a ha;have Jb:=FZ h hg hy g3 ha 0 (λ_=>rfl)
    split at h3
    ·rename_i hc;cases h3;simp only[gH,q2,Jb];simp only[pO];rw[if_pos ⟨hc.1,hc.2,aj _⟩,aW]
    ·cases h3
   ·cases h3
  ·obtain⟨es,xs,y,h1,h2,h3,rfl,h5⟩:=fC hs hn hb;rcases es with _|⟨e0,_|⟨e1,_|⟨e2,_|⟨e3,l⟩⟩⟩⟩<;>simp at h1
   obtain⟨hx,hy,hz⟩:=h1;obtain⟨a,ys,g1,g2,rfl⟩:=cS h2;obtain⟨z,zs,g3,g4,rfl⟩:=cS g2;obtain⟨b,g5,rfl⟩:=ef g4;obtain⟨a',q1,q2⟩:=j9 h hg hx;rw[g1]at q1;cases q1;refine⟨_,?_,h5⟩;cases a<;>first|(simp[aK]at h3;done)|skip
   simp only[aK]at h3
   split at h3
   ·rename_i a b ha kU;have Jb:=FZ h hg hy g3 ha 0 (λ_=>rfl)
    split at h3
    ·rename_i hc;cases h3;have Wf:=λz=>FZ (lo:=some _) h hg hz g5 kU z (λh=>by cases h);simp only[gH,q2,Jb,Wf];rw[if_pos hc]
    ·cases h3
   ·cases h3
 ·
  split at hs
  ·rename_i b p hx;simp only[aa,ao]at hs;obtain⟨rfl,rfl⟩:=hs;cases hb;have hr:=ch h hg hx;simp only[jQ]at hr;exact⟨_,by simp only[gH,hr],rfl⟩
  ·rename_i i p hx;simp only[aa,ao]at hs;obtain⟨rfl,rfl⟩:=hs;cases hb;obtain⟨x,cs,h1,h2,h3⟩:=ch h hg hx;exact⟨_,by simp only[gH,h3],x,cs,h1,h2,rfl⟩
  ·rename_i r k i p hx;simp only[aa,ao]at hs;obtain⟨rfl,rfl⟩:=hs;cases hb;obtain⟨iv,h1,h2⟩:=ch h hg hx;exact⟨_,by simp only[gH,h2],iv,h1,rfl⟩
  ·cases hs
 ·
  split at hs
  ·rename_i r hx
   split at hs
   ·rename_i row hl;obtain⟨y,h1,es,h2,rfl⟩:=h.rw r row hl
    split at hs
    ·rename_i hk;simp only[aa,ao]at hs;obtain⟨rfl,rfl⟩:=hs;obtain⟨xs,y,h4,h5,rfl⟩:=dH hb;obtain⟨a,h6,rfl⟩:=ef h4;rw[h2]at h6;cases h6;have hr:=ch h hg hx;simp only[jQ,iV]at hr;rw[hk]at h5;simp only[aK]at h5;refine⟨.d y,?_,y,by subst hn;exact iD ρ y [],rfl⟩;simp only[gH,hr,h1];rw[if_pos hk];rw[ad]at h5 ⊢;obtain⟨zs,z1,z2⟩:=h5;exact⟨zs,z1,by rw[z2]⟩
    ·cases hs
   ·cases hs
  ·cases hs
 ·cases hs
end
end
section
def nW(S:SS):List SB->Option (List SE×List SE×Bool×SS)
 |[]=>some ([],[],true,S)
 | .d e::xs=>match e with
  | .k (.nil _ _)=>none
  | .k x=>(nW S xs).map λp=>(.k x::p.1,p.2.1,p.2.2.1,p.2.2.2)
  |e=>(nW S xs).map λp=>(e::p.1,e::p.2.1,p.2.2.1,p.2.2.2)
 | .nil k fl::xs=>(nW S xs).map λp=>(.k (.nil k fl)::p.1,p.2.1,p.2.2.1,p.2.2.2)
 | .ref r::xs=>match look S.rw r with
  |some x=>(nW (S.cM r) xs).map λp=>(x.e::p.1,p.2.1,x.deep && !x.fz && p.2.2.1,p.2.2.2)
  |none=>none
 | .any::_=>none
def oJ(k:Nat):SS->List SC->Option (List SE×List SE×Bool×SS)
 |S,[]=>some ([],[],true,S)
 |S,c::cs=>match c.cells with
  |some xs=>if xs.all SB.cell=true then (match nW S xs with
   |some p=>if p.1.length=k then (oJ k p.2.2.2 cs).map λq=>(p.1++q.1,p.2.1++q.2.1,p.2.2.1 && q.2.2.1,q.2.2.2) else none
   |none=>none) else none
  |none=>none
def D4(ρ:List D):List SC->List C->Prop
 |[],cs=>cs=[]
 |x::xs,cs=>∃c iA,cs=c::iA/\jQ ρ x c/\D4 ρ xs iA
section
variable {ρ gy:List D} {S:SS} {s:St} {gs:Gs}
theorem oB:∀{es fs:List SE} {xs ys:List D},gU ρ es=some xs->gU ρ fs=some ys->gU ρ (es++fs)=some (xs++ys)
 |[],_,_,_,h,h'=>by cases h;exact h'
 |e::es,_,_,_,h,h'=>by
  obtain⟨x,ys,h1,h2,rfl⟩:=cS h;simp only[ai,gU,h1,oB h2 h',aB]
theorem C4:∀{es fs:List SE} {xs ds:List D},gU ρ es=some xs->gU ρ (es++fs)=some ds->∃ys,ds=xs++ys/\gU ρ fs=some ys
 |[],_,_,ds,h,h'=>by cases h;exact⟨ds,rfl,h'⟩
 |e::es,_,_,_,h,h'=>by
  obtain⟨x,ys,h1,h2,rfl⟩:=cS h;obtain⟨x',zs,h3,h4,rfl⟩:=cS (es:=es++_) h';rw[h1]at h3;cases h3;obtain⟨ws,rfl,h5⟩:=C4 h2 h4;exact⟨ws,rfl,h5⟩
theorem u6(τ:List D):∀{es:List SE} {xs:List D},gU ρ es=some xs->gU (ρ++τ) es=some xs
 |[],_,h=>by cases h;rfl
 |e::es,_,h=>by
  obtain⟨x,ys,h1,h2,rfl⟩:=cS h;simp only[gU,SE.mono τ h1,u6 τ h2,aB]
theorem mC(x:D)(xs:List D):cQ (x::xs)=(x.plain && cQ xs):=rfl
theorem uz(xs ys:List D):cQ (xs++ys)=(cQ xs && cQ ys):=List.all_append
theorem Lr:∀{xs:List SB} {cs:List C} {S S':SS} {s:St} {es pl:List SE} {dp:Bool},Rel ρ S s->dw ρ xs cs->nW S xs=some (es,pl,dp,S')->
  ∃ds ps s',Ca s cs=some (ds,dp && cQ ps,s')/\gU ρ es=some ds/\gU ρ pl=some ps/\Rel ρ S' s':=by
 intro xs
 induction xs with
 |nil=>
  intro cs S S' s es pl dp h hx hs;simp only[dw]at hx;subst hx;simp only[nW,aa,ao]at hs;obtain⟨rfl,rfl,rfl,rfl⟩:=hs;exact⟨[],[],s,rfl,rfl,rfl,h⟩
 |cons x xs ih=>
  intro cs S S' s es pl dp h hx hs;obtain⟨c,iA,rfl,h1,h2⟩:=hx;have data:∀{e:SE},x=.d e->(nW S xs).map (λp=>(e::p.1,e::p.2.1,p.2.2.1,p.2.2.2))=some (es,pl,dp,S')->∃ds ps s',Ca s (c::iA)=some (ds,dp && cQ ps,s')/\gU ρ es=some ds/\gU ρ pl=some ps/\Rel ρ S' s':=by
   intro e he pq;subst he;obtain⟨⟨a1,a2,a3,a4⟩,h4,h5⟩:=ad.1 pq;simp only[ao]at h5;obtain⟨rfl,rfl,rfl,rfl⟩:=h5;obtain⟨y,h6,rfl⟩:=h1;obtain⟨ds,ps,s',g1,g2,g3,g4⟩:=ih h h2 h4;refine⟨y::ds,y::ps,s',?_,by simp only[gU,h6,g2,aB],by simp only[gU,h6,g3,aB],g4⟩;simp only[Ca,g1,aB,mC,aa,ao,true_and,and_true];cases D.plain y<;>simp
  cases x with
  |d e=>
   cases e with
   |v i=>exact data rfl hs
   |c i j=>exact data rfl hs
   |k z=>
    have hz:∀{y:D},z.d=y->D.plain y=true->(nW S xs).map (λp=>(SE.k z::p.1,p.2.1,p.2.2.1,p.2.2.2))=some (es,pl,dp,S')->∃ds ps s',Ca s (c::iA)=some (ds,dp && cQ ps,s')/\gU ρ es=some ds/\gU ρ pl=some ps/\Rel ρ S' s':=by
     intro y h6 hp hs;obtain⟨⟨a1,a2,a3,a4⟩,h4,h5⟩:=ad.1 hs;simp only[ao]at h5;obtain⟨rfl,rfl,rfl,rfl⟩:=h5;obtain⟨y',h7,rfl⟩:=h1;simp only[SE.d,aa]at h7;rw[h6]at h7;subst h7;obtain⟨ds,ps,s',g1,g2,g3,g4⟩:=ih h h2 h4;exact⟨y::ds,ps,s',by simp only[Ca,g1,aB,hp,bU],by simp only[gU,SE.d,h6,g2,aB],g3,g4⟩
    cases z with
    |nil k fl=>cases hs
    |int k n=>exact hz rfl rfl hs
    |bool b=>exact hz rfl rfl hs
    |str t=>exact hz rfl rfl hs
  |nil k fl=>
   obtain⟨⟨a1,a2,a3,a4⟩,h4,h5⟩:=ad.1 hs;simp only[ao]at h5;obtain⟨rfl,rfl,rfl,rfl⟩:=h5;simp only[iV]at h1;subst h1;obtain⟨ds,ps,s',g1,g2,g3,g4⟩:=ih h h2 h4;exact⟨D.list k fl []::ds,ps,s',by simp only[Ca,g1,aB],by simp only[gU,SE.d,SK.d,g2,aB],g3,g4⟩
  |ref r=>
   simp only[nW]at hs
   split at hs
   ·rename_i row hl;obtain⟨⟨a1,a2,a3,a4⟩,h4,h5⟩:=ad.1 hs;simp only[ao]at h5;obtain⟨rfl,rfl,rfl,rfl⟩:=h5;simp only[iV]at h1;subst h1;obtain⟨y,q1,iY,q2,rfl⟩:=h.rw r row hl;obtain⟨ds,ps,s',g1,g2,g3,g4⟩:=ih (h.cM r) h2 h4;exact⟨D.list row.k row.fl iY::ds,ps,s',by simp only[Ca,q1,g1,aB,fW],by simp only[gU,q2,g2,aB],g3,g4⟩
   ·cases hs
  |any=>cases hs
theorem C0:∀{cs:List C} {s s':St} {ds:List D} {dp:Bool},Ca s cs=some (ds,dp,s')->cQ ds=true->dp=true:=by
 intro cs
 induction cs with
 |nil=>intro s s' ds dp h _;simp only[Ca,aa,ao]at h;exact h.2.1.symm
 |cons c cs ih=>
  intro s s' ds dp h hp;cases c with
  |d x=>
   obtain⟨⟨a1,a2,a3⟩,h4,h5⟩:=ad.1 h;simp only[ao]at h5;obtain⟨rfl,rfl,rfl⟩:=h5;rw[mC,ab]at hp;rw[hp.1,ih h4 hp.2];rfl
  |nil k fl=>
   obtain⟨⟨a1,a2,a3⟩,h4,h5⟩:=ad.1 h;simp only[ao]at h5;obtain⟨rfl,rfl,rfl⟩:=h5;rw[mC,ab]at hp;exact ih h4 hp.2
  |ref r=>
   simp only[Ca]at h
   split at h
   ·obtain⟨⟨a1,a2,a3⟩,h4,h5⟩:=ad.1 h;simp only[ao]at h5;obtain⟨rfl,rfl,rfl⟩:=h5;rw[mC,ab]at hp;exact absurd hp.1 (by simp[D.plain])
   ·cases h
  |ptr _ _=>cases h
  |na _ _ _ _=>cases h
  |qN _=>cases h
  |agg _=>cases h
  |oK _=>cases h
  |rf=>cases h
  |any=>cases h
theorem PU{k:Nat}{fl:Bool}:∀{cs:List SC} {vs:List C} {S S':SS} {s:St} {es pl:List SE} {dp:Bool} {ds:List D} {I_:List (List D)},Rel ρ S s->D4 ρ cs vs->oJ k S cs=some (es,pl,dp,S')->
  gU ρ es=some ds->chunk k cs.length ds=some I_->(fl=true->I_.all cQ=true)->∃ps s',zW k fl s vs=some (I_,dp && cQ ps,s')/\gU ρ pl=some ps/\Rel ρ S' s':=by
 intro cs
 induction cs with
 |nil=>
  intro vs S S' s es pl dp ds I_ h hv hs he hc hf;simp only[D4]at hv;subst hv;simp only[oJ,aa,ao]at hs;obtain⟨rfl,rfl,rfl,rfl⟩:=hs;cases he;cases hc;exact⟨[],s,rfl,rfl,h⟩
 |cons c cs ih=>
  intro vs S S' s es pl dp ds I_ h hv hs he hc hf;obtain⟨v,eb,rfl,hv1,hv2⟩:=hv;simp only[oJ]at hs
  split at hs
  ·rename_i xs hx
   split at hs
   ·rename_i rk
    split at hs
    ·rename_i p hp;obtain⟨p1,p2,p3,p4⟩:=p;simp only at hs
     split at hs
     ·rename_i hk;obtain⟨⟨a1,a2,a3,a4⟩,h4,h5⟩:=ad.1 hs;simp only[ao]at h5;obtain⟨rfl,rfl,rfl,rfl⟩:=h5;obtain⟨ds1,ps1,s1,g1,g2,g3,g4⟩:=Lr h (hv1.cells hx rk) hp;have Ja:ds1.length=k:=by rw[jr g2,hk]
      have hsp:=C4 g2 he;obtain⟨ds2,rfl,he2⟩:=hsp;simp only[aE,chunk,aO,Ja]at hc;rw[if_pos (by omega)]at hc;obtain⟨agf,w1,rfl⟩:=ad.1 hc;have ht:(ds1++ds2).take k=ds1:=by rw[<- Ja];exact l8
      have hd:(ds1++ds2).drop k=ds2:=by rw[<- Ja];exact List.drop_left
      rw[hd]at w1;rw[ht]at hf ⊢;simp only[bW,ab]at hf;obtain⟨ps,s',q1,q2,q3⟩:=ih g4 hv2 h4 he2 w1 (λsR=>(hf sR).2);refine⟨ps1++ps,s',?_,oB g3 q2,q3⟩;simp only[zW,g1];rw[if_pos ⟨Ja,λsR=>(hf sR).1⟩,q1];simp only[aB,uz,aa,ao,true_and,and_true];cases p3<;>cases a3<;>simp
     ·cases hs
    ·cases hs
   ·cases hs
  ·cases hs
end
end
section
def ZB:D->Option SK
 | .int k n=>some (.int k n)
 | .bool b=>some (.bool b)
 | .str t=>some (.str t)
 | .list k fl []=>some (.nil k fl)
 |_=>none
def SB.fY(q i:Nat):SB->SB
 | .ref r=>if r=q then .ref i else if r=i then .any else .ref r
 |x=>x
def SC.fY(q i:Nat):SC->SC
 | .b x=>.b (x.fY q i)
 | .agg xs=>.agg (xs.map (SB.fY q i))
 | .oK xs=>.oK (xs.map λ| .inl x=>.inl (x.fY q i) | .inr l=>.inr (l.map (SB.fY q i)))
 | .na r k a o=>if r=q then .na i k a o else if r=i then .any else .na r k a o
 |x=>x
def SS.fY(S:SS)(q i:Nat)(row:SR):SS:=⟨S.sl.map λp=>(p.1,⟨p.2.gs,p.2.c.fY q i⟩),S.bx.map λp=>(p.1,p.2.map (SB.fY q i)),(i,row)::po (po S.rw q) i⟩
def DX(S:SS)(gs:Gs):List KX->Option (List SC)
 |[]=>some []
 |x::xs=>match eQ S gs x with
  |some c=>(DX S gs xs).map (c::·)
  |none=>none
def U4(hint:List Nat)(d:Nat)(fl dp:Bool)(pl:List SE):Bs×Bool:=
 if fl=true then ([],true) else if dp=false then ([],false) else match pl with
  |[]=>([],true)
  |pl=>if hint.contains (1000 * d+pl.length) then ([(.yb,pl)],false) else ([(.pl,pl)],true)
def KC(S:SS)(k:Nat)(fl:Bool):SC->Option (SE×Bool×SS)
 | .b (.d e)=>some (e,fl,S)
 | .b (.nil _ _)=>some (.k (.nil k fl),true,S)
 | .b (.ref q)=>match look S.rw q with
  |some row=>if row.k=k/\row.fl=fl then some (row.e,(row.deep && !row.fz) ||fl,S.cM q) else none
  |none=>none
 |_=>none
def TL(S:SS)(gs:Gs)(e:SE)(lo hi:Option KX):Option (PO×List SE):=
 match hi with
 |none=>match qa S gs lo with
  |some l=>some (.cut false,[e,l])
  |none=>none
 |some h=>match qa S gs lo,sD (eQ S gs h) with
  |some l,some h=>some (.cut true,[e,l,h])
  |_,_=>none
def oh(hint:List Nat)(S:SS)(gs:Gs)(n:Nat)(d:Option Nat):KO->Option (Bs×SS)
 | .alloc zs=>match d,fk rM zs with
  |some b,some xs=>some ([],(S.jK b xs).put d ⟨[],.ptr b 0⟩)
  |_,_=>none
 | .box x=>match d,eQ S gs x with
  |some b,some c=>match c.cells with
   |some xs=>if xs.all SB.cell=true then some ([],(S.jK b (xs.map (SB.kill b))).put d ⟨[],.ptr b 0⟩) else none
   |none=>none
  |_,_=>none
 | .nf k fl xs=>match d,DX S gs xs with
  |some r,some cs=>match oJ k S cs with
   |some p=>if 0 < k then (match U4 hint r fl p.2.2.1 p.2.1 with
    |(bs,deep)=>some (bs++[(.eg k fl,p.1)],(p.2.2.2.newRow r ⟨.v (n+bs.length),k,fl,deep,true,false⟩).put d ⟨[],.b (.ref r)⟩)) else none
   |none=>none
  |_,_=>none
 | .make k by_ fl zs x=>match d,sD (eQ S gs x),fk ZB zs with
  |some r,some e,some ks=>some ([(.make k by_ fl ks,[e])],(S.newRow r ⟨.v n,k,fl,true,true,false⟩).put d ⟨[],.b (.ref r)⟩)
  |_,_,_=>none
 | .st m x y=>match eQ S gs x,eQ S gs y with
  |some (.ptr b o),some c=>match look S.bx b,c.cells with
   |some xs,some ys=>if ys.all SB.cell=true/\ys.length=m/\o+m<=xs.length then some ([],S.eN b (Vw xs o ys)) else none
   |_,_=>none
  |some (.na r k i o),some c=>match c.cells with
   |some ys=>match nW S ys with
    |some p=>match look p.2.2.2.rw r with
     |some row=>if ys.all SB.cell=true/\row.k=k/\row.fz=false/\row.app=true/\p.1.length=m/\o+m<=k/\(p.2.2.1 ||!row.deep ||row.fl)=true then
       some (if row.fl ||!row.deep then ([(.set o,row.e::i::p.1)],p.2.2.2.setRow r ⟨.v n,row.k,row.fl,row.deep,row.app,row.fz⟩)
        else ([(.pl,p.2.1),(.set o,row.e::i::p.1)],p.2.2.2.setRow r ⟨.v (n+1),row.k,row.fl,row.deep,row.app,row.fz⟩)) else none
     |none=>none
    |none=>none
   |none=>none
  |_,_=>none
 | .app k by_ fl x y=>match d,eQ S gs y with
  |some d0,some c=>match KC S k fl c with
   |some p=>match eQ S gs x with
    |some (.b (.nil k' sO))=>if k'=k/\sO=fl then some ([(.app k by_,[.k (.nil k fl),p.1])],(p.2.2.newRow d0 ⟨.v n,k,fl,p.2.1,true,false⟩).put d ⟨[],.b (.ref d0)⟩) else none
    |some (.b (.ref r))=>match look p.2.2.rw r with
     |some row=>if row.k=k/\row.fl=fl/\row.app=true then some ([(.app k by_,[row.e,p.1])],(p.2.2.newRow r ⟨.v n,row.k,row.fl,row.deep && p.2.1,row.app,row.fz⟩).put d ⟨[],.b (.ref r)⟩) else none
     |none=>none
    |_=>none
   |none=>none
  |_,_=>none
 | .cut k x lo hi=>match d,eQ S gs x with
  |some _,some (.b (.nil k' fl))=>match TL S gs (.k (.nil k fl)) lo hi with
   |some b=>if k'=k then some ([b],S.put d ⟨[],.b (.nil k' fl)⟩) else none
   |none=>none
  |some _,some (.b (.ref r))=>match look S.rw r with
   |some row=>match TL S gs row.e lo hi with
    |some b=>if row.k=k/\row.fz=false then some ([b],(S.newRow r ⟨.v n,row.k,row.fl,row.deep,row.app && lo.isNone,row.fz⟩).put d ⟨[],.b (.ref r)⟩) else none
    |none=>none
   |none=>none
  |_,_=>none
 | .xP k x y=>match d,eQ S gs x,sD (eQ S gs y) with
  |some _,some (.b (.ref r)),some e=>match look S.rw r with
   |some row=>if row.k=k/\row.fl=true/\row.fz=false/\row.app=true then some ([(.xP,[row.e,e]),(.len,[.v n])],(S.setRow r ⟨.v n,row.k,row.fl,row.deep,row.app,row.fz⟩).put d ⟨[],vN (n+1)⟩) else none
   |none=>none
  |_,_,_=>none
 | .Mq x=>match d,eQ S gs x with
  |some d0,some (.b (.ref q))=>match look S.rw q with
   |some row=>some ([],(S.fY q (tw d0 0) row).put d ⟨[],.b (.ref (tw d0 0))⟩)
   |none=>none
  |some _,some (.b (.nil k fl))=>some ([],S.put d ⟨[],.b (.nil k fl)⟩)
  |some _,some (.b (.d e))=>some ([],S.put d ⟨[],.b (.d e)⟩)
  |_,_=>none
 | .jn x y=>match d,eQ S gs x,eQ S gs y with
  |some _,some (.b (.ref r)),some c=>match look S.rw r with
   |some row=>if row.k=1/\row.fl=true/\row.fz=false/\row.app=true then (match c with
    | .b (.d e)=>some ([(.Q8,[row.e,e]),(.Q7,[row.e,e])],(S.setRow r ⟨.v n,row.k,row.fl,row.deep,row.app,row.fz⟩).put d ⟨[],vN (n+1)⟩)
    | .b (.ref q)=>match look S.rw q with
     |some IE=>if IE.k=1/\q≠r then some ([(.Q8,[row.e,IE.e]),(.Q7,[row.e,IE.e])],(S.setRow r ⟨.v n,row.k,row.fl,row.deep,row.app,row.fz⟩).put d ⟨[],vN (n+1)⟩) else none
     |none=>none
    |_=>none) else none
   |none=>none
  |_,_,_=>none
 |_=>none
section
variable {ρ gy:List D} {S S':SS} {s:St} {gs:Gs} {bs:Bs} {cf:Nat->List A->Option (List A×List A)} {mf:Nat->Bool->List D->Int->Option (List D×Int)} {hint:List Nat} {n:Nat} {d:Option Nat}
theorem sx:∀{bs cs:Bs} {ρ gy:List D},jm ρ (bs++cs)=some gy->∃O0,jm ρ bs=some O0/\jm O0 cs=some gy
 |[],_,ρ,_,h=>⟨ρ,rfl,h⟩
 |(o,es)::bs,cs,ρ,gy,h=>by
  simp only[ai,jm]at h ⊢
  split at h
  ·rename_i xs hx
   split at h
   ·rename_i x hy;obtain⟨O0,h1,h2⟩:=sx h;exact⟨O0,h1,h2⟩
   ·cases h
  ·cases h
theorem sy:∀{bs:Bs} {ρ gy:List D},jm ρ bs=some gy->gy.length=ρ.length+bs.length
 |[],ρ,_,h=>by cases h;rfl
 |(o,es)::bs,ρ,gy,h=>by
  simp only[jm]at h
  split at h
  ·split at h
   ·have:=sy h;simp only[aO,aE,aQ]at this ⊢;omega
   ·cases h
  ·cases h
theorem D4.mono(τ:List D):∀{cs:List SC} {vs:List C},D4 ρ cs vs->D4 (ρ++τ) cs vs
 |[],_,h=>h
 |_::_,_,⟨v,vs,h1,h2,h3⟩=>⟨v,vs,h1,h2.mono τ,h3.mono τ⟩
theorem xA(h:Rel ρ S s)(hg:gQ ρ gs=some true):∀{xs:List KX} {cs:List SC},DX S gs xs=some cs->D4 ρ cs (xs.map (eU s))
 |[],_,h=>by cases h;rfl
 |x::xs,_,hs=>by
  simp only[DX]at hs
  split at hs
  ·rename_i c hc;obtain⟨cs,h1,rfl⟩:=ad.1 hs;exact⟨_,_,rfl,ch h hg hc,xA h hg h1⟩
  ·cases hs
theorem nq(hn:n=ρ.length){x:D}{k:Nat}{fl:Bool}{es:List (List D)}(hx:x=.list k fl es){a b c:Bool}:Tl (ρ++[x]) ⟨.v n,k,fl,a,b,c⟩ ⟨es,k,fl,a,b,c⟩:=by
 subst hn hx;exact⟨es,iD ρ _ [],rfl⟩
theorem pU.ref{r:Nat}:pU ρ ⟨[],.b (.ref r)⟩ (.ref r):=pU.nil (by simp only[jQ,iV])
theorem pU.ptr{b o:Nat}:pU ρ ⟨[],.ptr b o⟩ (.ptr b o):=pU.nil (by simp only[jQ])
theorem pU.new(hn:n=ρ.length){x:D}:pU (ρ++[x]) ⟨[],vN n⟩ (.d x):=by
 subst hn;exact pU.nil ⟨x,iD ρ _ [],rfl⟩
theorem Eg{z:C}{x:SB}(h:rM z=some x):z.const=true:=by
 unfold rM at h
 split at h<;>first|rfl|cases h
theorem uW:∀{zs:List C} {xs:List SB},fk rM zs=some xs->zs.all C.const=true
 |[],_,_=>rfl
 |z::zs,xs,h=>by
  simp only[fk]at h
  split at h
  ·rename_i y hy;obtain⟨ys,h1,rfl⟩:=ad.1 h;simp only[bW,Eg hy,uW h1,iL]
  ·cases h
theorem Kz(h:Rel ρ S s){zs:List C}(hs:oh hint S gs n d (.alloc zs)=some (bs,S'))(hb:jm ρ bs=some gy):∃s',kc cf mf s d (.alloc zs)=some s'/\Rel gy S' s':=by
 simp only[oh]at hs
 split at hs
 ·rename_i b xs hz;simp only[aa,ao]at hs;obtain⟨rfl,rfl⟩:=hs;cases hb;exact⟨_,by simp only[kc,uW hz,if_true],(h.jK b (tO hz)).put _ pU.ptr⟩
 ·cases hs
theorem Si(h:Rel ρ S s)(hg:gQ ρ gs=some true){x:KX}(hs:oh hint S gs n d (.box x)=some (bs,S'))(hb:jm ρ bs=some gy):∃s',kc cf mf s d (.box x)=some s'/\Rel gy S' s':=by
 simp only[oh]at hs
 split at hs
 ·rename_i b c hx
  split at hs
  ·rename_i xs hc
   split at hs
   ·rename_i rk;simp only[aa,ao]at hs;obtain⟨rfl,rfl⟩:=hs;cases hb;have hr:=(ch h hg hx).cells hc rk;exact⟨_,by simp only[kc,hr.cell rk,if_true],(h.jK b (hr.kill b)).put _ pU.ptr⟩
   ·cases hs
  ·cases hs
 ·cases hs
theorem ym{k:Nat}:∀{cs:List SC} {S S':SS} {es pl:List SE} {dp:Bool},oJ k S cs=some (es,pl,dp,S')->es.length=k * cs.length
 |[],_,_,_,_,_,h=>by
  simp only[oJ,aa,ao]at h;obtain⟨rfl,_⟩:=h;rfl
 |c::cs,_,_,_,_,_,hs=>by
  simp only[oJ]at hs
  split at hs
  ·split at hs
   ·split at hs
    ·split at hs
     ·rename_i hk;obtain⟨⟨a1,a2,a3,a4⟩,h4,h5⟩:=ad.1 hs;simp only[ao]at h5;obtain⟨rfl,_⟩:=h5;rw[aO,hk,ym h4,aE,Nat.mul_succ,Nat.add_comm]
     ·cases hs
    ·cases hs
   ·cases hs
  ·cases hs
theorem zX{k:Nat}{fl:Bool}:∀{cs:List C} {s s':St} {es:List (List D)} {dp:Bool},zW k fl s cs=some (es,dp,s')->fl=true->dp=true
 |[],_,_,_,_,h,_=>by simp only[zW,aa,ao]at h;exact h.2.1.symm
 |c::cs,_,_,_,_,h,hf=>by
  simp only[zW]at h
  split at h
  ·rename_i ds dp1 s1 he
   split at h
   ·rename_i hk;obtain⟨⟨a1,a2,a3⟩,h4,h5⟩:=ad.1 h;simp only[ao]at h5;obtain⟨rfl,rfl,rfl⟩:=h5;rw[zX h4 hf,C0 he (hk.2 hf)];rfl
   ·cases h
  ·cases h
theorem U5{r:Nat}{fl dp deep:Bool}{pl:List SE}{ps τ:List D}(ho:U4 hint r fl dp pl=(bs,deep))(hb:jm ρ bs=some gy)(hp:gU (ρ++τ) pl=some ps):deep=(fl ||(dp && cQ ps)):=by
 unfold U4 at ho
 split at ho
 ·rename_i hf;cases ho;simp[hf]
 ·rename_i hf;have hf:fl=false:=by simpa using hf
  subst hf
  split at ho
  ·rename_i hd;cases ho;simp[hd]
  ·rename_i hd;have hd:dp=true:=by simpa using hd
   subst hd
   split at ho
   ·cases ho;cases hp;rfl
   ·split at ho
    ·cases ho;obtain⟨xs,x,h1,h2,rfl⟩:=dH hb;rw[u6 τ h1]at hp;cases hp;simp only[aK]at h2
     split at h2
     ·cases h2
     ·rename_i hn;simpa using hn
    ·cases ho;obtain⟨xs,x,h1,h2,rfl⟩:=dH hb;rw[u6 τ h1]at hp;cases hp;simp only[aK]at h2
     split at h2
     ·rename_i hn;simpa using hn
     ·cases h2
theorem KA(h:Rel ρ S s)(hg:gQ ρ gs=some true)(hn:n=ρ.length){k:Nat}{fl:Bool}{xs:List KX}(hs:oh hint S gs n d (.nf k fl xs)=some (bs,S'))(hb:jm ρ bs=some gy):∃s',kc cf mf s d (.nf k fl xs)=some s'/\Rel gy S' s':=by
 simp only[oh]at hs
 split at hs
 ·rename_i r cs hx
  split at hs
  ·rename_i p hp;obtain⟨es,pl,dp,S1⟩:=p;simp only at hs
   split at hs
   ·rename_i hk;generalize ho:U4 hint r fl dp pl=q at hs;obtain⟨bs0,deep⟩:=q;simp only[aa,ao]at hs;obtain⟨rfl,rfl⟩:=hs;obtain⟨O0,yv,Ap⟩:=sx hb;obtain⟨Gq,x,h1,h2,rfl⟩:=dH Ap;obtain⟨τ,rfl⟩:=nV yv;have hl:=sy yv;have hr:=xA h hg hx;simp only[aK]at h2
    split at h2
    ·split at h2
     ·rename_i I_ hc
      split at h2
      ·rename_i hf;cases h2;have hlen:Gq.length=k * cs.length:=by rw[jr h1,ym hp]
       rw[hlen,Nat.mul_div_cancel_left _ hk]at hc;obtain⟨ps,s',g1,g2,g3⟩:=PU (fl:=fl) (h.mono τ) (hr.mono τ) hp h1 hc hf;have hd:=U5 ho yv g2;have Wc:(dp && cQ ps)=deep:=by
        cases fl with
        |true=>rw[zX g1 rfl,hd];rfl
        |false=>rw[hd,fQ]
       rw[Wc]at g1;refine⟨_,by simp only[kc,g1];rw[if_pos hk],((g3.mono [_]).newRow r (nq (by rw[hn,hl]) rfl)).put _ pU.ref⟩
      ·cases h2
     ·cases h2
    ·cases h2
   ·cases hs
  ·cases hs
 ·cases hs
theorem Sc:∀{zs:List D} {ks:List SK},fk ZB zs=some ks->ks.map SK.d=zs
 |[],_,h=>by cases h;rfl
 |z::zs,ks,h=>by
  simp only[fk]at h
  split at h
  ·rename_i y hy;obtain⟨ys,h1,rfl⟩:=ad.1 h;rw[aN,Sc h1];unfold ZB at hy
   split at hy<;>cases hy<;>rfl
  ·cases h
theorem No{k by_:Nat}{fl:Bool}{zs:List SK}{xs:List D}{x:D}(h:aK (.make k by_ fl zs) xs=some x):∃m,xs=[.int .i64 m]/\(0<=m/\m.toNat * by_<=room/\m<=4611686018427387904)/\x=.list k fl (aC m.toNat (zs.map SK.d)):=by
 rcases xs with _|⟨a,_|⟨b,l⟩⟩
 ·simp[aK]at h
 ·cases a with
  |int ik m=>
   cases ik<;>simp only[aK]at h<;>try cases h
   split at h
   ·rename_i hc;cases h;exact⟨m,rfl,hc,rfl⟩
   ·cases h
  |_=>simp[aK]at h
 ·simp[aK]at h
theorem Hn{k by_:Nat}{xs:List D}{x:D}(h:aK (.app k by_) xs=some x):∃fl es iY,xs=[.list k fl es,.list k fl iY]/\(es.length+iY.length) * by_<=room/\es.length+iY.length<=maxLen/\x=.list k fl (es++iY):=by
 rcases xs with _|⟨a,_|⟨b,_|⟨c,l⟩⟩⟩
 ·simp[aK]at h
 ·cases a<;>simp[aK]at h
 ·cases a<;>cases b<;>simp only[aK]at h<;>try cases h
  split at h
  ·rename_i hc;obtain⟨rfl,rfl,rfl,h1,h2⟩:=hc;cases h;exact⟨_,_,_,rfl,h1,h2,rfl⟩
  ·cases h
 ·cases a<;>cases b<;>simp[aK]at h
theorem Qh{o:Nat}{xs:List D}{x:D}(h:aK (.set o) xs=some x):∃k fl es i ds e,xs=.list k fl es::.int .i64 i::ds/\nth es i.toNat=some e/\o+ds.length<=k/\(fl=true->cQ ds=true)/\x=.list k fl (es.set i.toNat (fP e o ds)):=by
 rcases xs with _|⟨a,_|⟨b,l⟩⟩
 ·simp[aK]at h
 ·cases a<;>simp[aK]at h
 ·cases a with
  |list k fl es=>
   cases b with
   |int ik i=>
    cases ik<;>simp only[aK]at h<;>try cases h
    split at h
    ·rename_i e he
     split at h
     ·rename_i hc;cases h;exact⟨_,_,_,_,_,_,rfl,he,hc.1,hc.2,rfl⟩
     ·cases h
    ·cases h
   |_=>simp[aK]at h
  |_=>simp[aK]at h
theorem Qd{xs:List D}{x:D}(h:aK .xP xs=some x):∃k es iY,xs=[.list k true es,.list k true iY]/\iY.length=es.length/\x=.list k true iY:=by
 rcases xs with _|⟨a,_|⟨b,_|⟨c,l⟩⟩⟩
 ·simp[aK]at h
 ·cases a<;>simp[aK]at h
 ·cases a<;>cases b<;>simp only[aK]at h<;>try cases h
  split at h
  ·rename_i hc;obtain⟨rfl,rfl,rfl,h1⟩:=hc;cases h;exact⟨_,_,_,rfl,h1,rfl⟩
  ·cases h
 ·cases a<;>cases b<;>simp[aK]at h
theorem Qf{xs:List D}{x:D}(h:aK .Q8 xs=some x):∃es sO iY bs cs,xs=[.list 1 true es,.list 1 sO iY]/\iY.length=es.length/\iY≠[]/\jq es=some bs/\jq iY=some cs/\x=.list 1 true ((cF bs cs).map λb=>[D.bool b]):=by
 rcases xs with _|⟨a,_|⟨b,_|⟨c,l⟩⟩⟩
 ·simp[aK]at h
 ·cases a<;>simp[aK]at h
 ·cases a<;>cases b<;>simp only[aK]at h<;>try cases h
  split at h
  ·rename_i hc;obtain⟨rfl,rfl,rfl,h1,h2⟩:=hc
   split at h
   ·rename_i bs cs hb Dd;cases h;exact⟨_,_,_,_,_,rfl,h1,h2,hb,Dd,rfl⟩
   ·cases h
  ·cases h
 ·cases a<;>cases b<;>simp[aK]at h
theorem Qe{xs:List D}{x:D}(h:aK .Q7 xs=some x):∃k fl es k' sO iY bs cs,xs=[.list k fl es,.list k' sO iY]/\jq es=some bs/\jq iY=some cs/\x=.bool (lg bs cs):=by
 rcases xs with _|⟨a,_|⟨b,_|⟨c,l⟩⟩⟩
 ·simp[aK]at h
 ·cases a<;>simp[aK]at h
 ·cases a<;>cases b<;>simp only[aK]at h<;>try cases h
  split at h
  ·rename_i bs cs hb Dd;cases h;exact⟨_,_,_,_,_,_,_,_,rfl,hb,Dd,rfl⟩
  ·cases h
 ·cases a<;>cases b<;>simp[aK]at h
theorem Qg{xs:List D}{x:D}(h:aK .len xs=some x):∃k fl es,xs=[.list k fl es]/\x=.int .i64 es.length:=by
 rcases xs with _|⟨a,_|⟨b,l⟩⟩
 ·simp[aK]at h
 ·cases a<;>simp only[aK]at h<;>cases h
  exact⟨_,_,_,rfl,rfl⟩
 ·cases a<;>simp[aK]at h
theorem Oy(h:Rel ρ S s)(hg:gQ ρ gs=some true)(hn:n=ρ.length){k by_:Nat}{fl:Bool}{zs:List D}{x:KX}(hs:oh hint S gs n d (.make k by_ fl zs x)=some (bs,S'))(hb:jm ρ bs=some gy):∃s',kc cf mf s d (.make k by_ fl zs x)=some s'/\Rel gy S' s':=by
 simp only[oh]at hs
 split at hs
 ·rename_i r e ks hx hz;simp only[aa,ao]at hs;obtain⟨rfl,rfl⟩:=hs;obtain⟨Gq,x',h1,h2,rfl⟩:=dH hb;obtain⟨a,h3,rfl⟩:=ef h1;obtain⟨a',h4,h5⟩:=j9 h hg hx;rw[h3]at h4;cases h4;obtain⟨m,hm,hc,rfl⟩:=No h2;cases hm;refine⟨_,by simp only[kc,h5];rw[if_pos hc],((h.mono [_]).newRow r (nq hn (by rw[Sc hz]))).put _ pU.ref⟩
 ·cases hs
theorem jQ.qc{x:SC}{c:C}{xs:List SB}(h:jQ ρ x c)(hx:x.cells=some xs)(hc:xs.all SB.cell=true):dw ρ xs c.cells/\c.cells.all C.cell=true:=⟨h.cells hx hc,(h.cells hx hc).cell hc⟩
theorem VC(h:Rel ρ S s)(hg:gQ ρ gs=some true)(hn:n=ρ.length){m:Nat}{x y:KX}(hs:oh hint S gs n d (.st m x y)=some (bs,S'))(hb:jm ρ bs=some gy):∃s',kc cf mf s d (.st m x y)=some s'/\Rel gy S' s':=by
 simp only[oh]at hs
 split at hs
 ·rename_i b o c hx hy
  split at hs
  ·rename_i xs ys hl hc
   split at hs
   ·rename_i hk;obtain⟨k1,k2,k3⟩:=hk;simp only[aa,ao]at hs;obtain⟨rfl,rfl⟩:=hs;cases hb;have hr:=ch h hg hx;simp only[jQ]at hr;obtain⟨cs,g1,g2⟩:=h.bx b xs hl;obtain⟨g3,g4⟩:=(ch h hg hy).qc hc k1;refine⟨_,by simp only[kc,hr,g1];rw[if_pos ⟨g4,by rw[g3.len,k2],by rw[g2.len];exact k3⟩],h.eN b (g2.ZG o g3)⟩
   ·cases hs
  ·cases hs
 ·rename_i r k i o c hx hy;obtain⟨iv,hi,hr⟩:=ch h hg hx
  split at hs
  ·rename_i ys hc
   split at hs
   ·rename_i p hp;obtain⟨es,pl,dp,S1⟩:=p;simp only at hs
    split at hs
    ·rename_i row hl
     split at hs
     ·rename_i hk;obtain⟨k1,k2,k3,k4,k5,k6,k7⟩:=hk;obtain⟨g3,g4⟩:=(ch h hg hy).qc hc k1;obtain⟨ds,ps,s1,q1,q2,q3,q4⟩:=Lr h g3 hp;obtain⟨z,w1,I_,w2,rfl⟩:=q4.rw r row hl;have key:∀{σ:List D} {xs:List D} {v:D},gU (ρ++σ) (row.e::i::es)=some xs->aK (.set o) xs=some v->∃e,nth I_ iv.toNat=some e/\o+ds.length<=row.k/\(row.fl=true->cQ ds=true)/\v=.list row.k row.fl (I_.set iv.toNat (fP e o ds)):=by
       intro σ xs v h1 h2;obtain⟨a,MX,j1,j2,rfl⟩:=cS h1;obtain⟨b,zs',j3,j4,rfl⟩:=cS j2;rw[SE.mono σ w2]at j1;cases j1;rw[SE.mono σ hi]at j3;cases j3;rw[u6 σ q2]at j4;cases j4;obtain⟨k',sO,iY,i',ga,e,t1,t2,t3,t4,rfl⟩:=Qh h2;simp only[bq,D.list.injEq,D.int.injEq,true_and]at t1;obtain⟨⟨rfl,rfl,rfl⟩,rfl,rfl⟩:=t1;exact⟨e,t2,t3,t4,rfl⟩
      split at hs
      ·rename_i hf;simp only[aa,ao]at hs;obtain⟨rfl,rfl⟩:=hs;obtain⟨Gq,v,h1,h2,rfl⟩:=dH hb;obtain⟨e,t1,t2,t3,rfl⟩:=key (σ:=[]) (by simpa using h1) h2;refine⟨_,by
        simp only[kc,hr,q1,w1,t1];rw[if_pos ⟨k2,k3,k4,by rw[jr q2,k5],k6,t3,by
         cases sR:row.fl with
         |true=>rw[C0 q1 (t3 sR)];rfl
         |false=>rw[sR,fQ]at hf;rw[hf,jo]⟩],?_⟩
       exact (q4.mono [_]).setRow r (nq hn rfl)
      ·rename_i hf;simp only[aa,ao]at hs;obtain⟨rfl,rfl⟩:=hs;obtain⟨O0,yv,Ap⟩:=sx (bs:=[_]) (cs:=[_]) hb;obtain⟨xs1,v1,f1,f2,rfl⟩:=dH yv;obtain⟨Gq,v,h1,h2,rfl⟩:=dH Ap;obtain⟨e,t1,t2,t3,rfl⟩:=key h1 h2;rw[q3]at f1;cases f1;simp only[aK]at f2
       split at f2
       ·rename_i hpl;refine⟨_,by
         simp only[kc,hr,q1,w1,t1];rw[if_pos ⟨k2,k3,k4,by rw[jr q2,k5],k6,t3,by
          rw[hpl,fj];cases dp with
          |true=>rfl
          |false=>
           simp only[Bool.not_eq_true,Bool.or_eq_false_iff]at hf;simp only[hf.1,hf.2,Bool.or_self,au]at k7⟩],?_⟩
        exact (q4.mono [_] |>.mono [_]).setRow r (nq (by rw[hn];simp) rfl)
       ·cases f2
     ·cases hs
    ·cases hs
   ·cases hs
  ·cases hs
 ·cases hs
theorem Oz(h:Rel ρ S s){k:Nat}{fl:Bool}{c:SC}{v:C}{e:SE}{dp:Bool}{S1:SS}(hv:jQ ρ c v)(hs:KC S k fl c=some (e,dp,S1)):∃x s1,e.d ρ=some x/\Rel ρ S1 s1/\∀es,x=.list k fl es->mN s k fl v=some (es,dp,s1):=by
 unfold KC at hs
 split at hs
 ·cases hs;obtain⟨x,h1,rfl⟩:=hv;refine⟨x,s,h1,h,?_⟩
  rintro es rfl
  simp[mN]
 ·cases hs;simp only[jQ,iV]at hv;subst hv;refine⟨_,s,rfl,h,?_⟩;intro es he;cases he;simp[mN]
 ·split at hs
  ·rename_i row hl
   split at hs
   ·rename_i hk;obtain⟨rfl,rfl⟩:=hk;cases hs;simp only[jQ,iV]at hv;subst hv;obtain⟨z,w1,I_,w2,rfl⟩:=h.rw _ row hl;refine⟨_,_,w2,h.cM _,?_⟩;intro es he;cases he;simp[mN,w1]
   ·cases hs
  ·cases hs
 ·cases hs
theorem Sh(h:Rel ρ S s)(hg:gQ ρ gs=some true)(hn:n=ρ.length){k by_:Nat}{fl:Bool}{x y:KX}(hs:oh hint S gs n d (.app k by_ fl x y)=some (bs,S'))(hb:jm ρ bs=some gy):∃s',kc cf mf s d (.app k by_ fl x y)=some s'/\Rel gy S' s':=by
 simp only[oh]at hs
 split at hs
 ·rename_i d0 c hy
  split at hs
  ·rename_i p hp;obtain⟨e,dp,S1⟩:=p;simp only at hs
   obtain⟨v,s1,j1,q2,j2⟩:=Oz h (ch h hg hy) hp
   split at hs
   ·rename_i k' sO hx;have hr:=ch h hg hx;simp only[jQ,iV]at hr
    split at hs
    ·rename_i hk;obtain⟨rfl,rfl⟩:=hk;simp only[aa,ao]at hs;obtain⟨rfl,rfl⟩:=hs;obtain⟨Gq,v',h1,h2,rfl⟩:=dH hb;obtain⟨a,MX,f1,f2,rfl⟩:=cS h1;obtain⟨b,f3,rfl⟩:=ef f2;rw[j1]at f3;cases f3;simp only[SE.d,SK.d,aa]at f1;subst f1;obtain⟨fl,es,iY,t1,t2,t3,rfl⟩:=Hn h2;simp only[bq,D.list.injEq,true_and,and_true]at t1;obtain⟨⟨rfl,rfl⟩,rfl⟩:=t1;have q1:=j2 iY rfl;simp only[aQ,bo]at t2 t3;refine⟨_,by simp only[kc,q1,hr];rw[if_pos ⟨trivial,trivial,t2,t3⟩],?_⟩;exact ((q2.mono [_]).newRow d0 (nq hn (by simp))).put _ pU.ref
    ·cases hs
   ·rename_i r hx;have hr:=ch h hg hx;simp only[jQ,iV]at hr
    split at hs
    ·rename_i row hl
     split at hs
     ·rename_i hk;obtain⟨rfl,rfl,k3⟩:=hk;simp only[aa,ao]at hs;obtain⟨rfl,rfl⟩:=hs;obtain⟨Gq,v',h1,h2,rfl⟩:=dH hb;obtain⟨a,MX,f1,f2,rfl⟩:=cS h1;obtain⟨b,f3,rfl⟩:=ef f2;rw[j1]at f3;cases f3;obtain⟨fl,es,iY,t1,t2,t3,rfl⟩:=Hn h2;simp only[bq,and_true]at t1;obtain⟨rfl,rfl⟩:=t1;obtain⟨z,w1,I_,w2,rfl⟩:=q2.rw r row hl;rw[f1]at w2;cases w2;have q1:=j2 iY rfl;refine⟨_,by simp only[kc,q1,hr,w1];rw[if_pos ⟨trivial,trivial,k3,t2,t3⟩],?_⟩;exact ((q2.mono [_]).newRow r (nq hn rfl)).put _ pU.ref
     ·cases hs
    ·cases hs
   ·cases hs
  ·cases hs
 ·cases hs
theorem Lk(h:Rel ρ S s)(hg:gQ ρ gs=some true){e:SE}{lo hi:Option KX}{b:PO×List SE}(hs:TL S gs e lo hi=some b){k:Nat}{fl:Bool}{es:List (List D)}(he:e.d ρ=some (.list k fl es))(hb:jm ρ [b]=some gy):∃x y,pO s lo 0=some x/\pO s hi es.length=some y/\x<=y/\y<=es.length/\gy=ρ++[.list k fl ((es.take y).drop x)]:=by
 unfold TL at hs
 split at hs
 ·split at hs
  ·rename_i l hl;cases hs;obtain⟨Gq,v,h1,h2,rfl⟩:=dH hb;obtain⟨a,MX,f1,f2,rfl⟩:=cS h1;obtain⟨b,f3,rfl⟩:=ef f2;rw[he]at f1;cases f1;simp only[aK]at h2
   split at h2
   ·rename_i x hx
    split at h2
    ·rename_i hle;cases h2;refine⟨x,es.length,FZ h hg hl f3 hx 0 (λ_=>rfl),rfl,hle,aj _,by rw[aW]⟩
    ·cases h2
   ·cases h2
  ·cases hs
 ·rename_i hh
  split at hs
  ·rename_i l y hl hy;cases hs;obtain⟨Gq,v,h1,h2,rfl⟩:=dH hb;obtain⟨a,MX,f1,f2,rfl⟩:=cS h1;obtain⟨b,zs',f3,f4,rfl⟩:=cS f2;obtain⟨c,f5,rfl⟩:=ef f4;rw[he]at f1;cases f1;simp only[aK]at h2
   split at h2
   ·rename_i x y' hx NH
    split at h2
    ·rename_i hle;cases h2;refine⟨x,y',FZ h hg hl f3 hx 0 (λ_=>rfl),FZ (lo:=some hh) h hg hy f5 NH _ (λh=>by cases h),hle.1,hle.2,rfl⟩
    ·cases h2
   ·cases h2
  ·cases hs
theorem Sk(h:Rel ρ S s)(hg:gQ ρ gs=some true)(hn:n=ρ.length){k:Nat}{x:KX}{lo hi:Option KX}(hs:oh hint S gs n d (.cut k x lo hi)=some (bs,S'))(hb:jm ρ bs=some gy):∃s',kc cf mf s d (.cut k x lo hi)=some s'/\Rel gy S' s':=by
 simp only[oh]at hs
 split at hs
 ·rename_i d0 k' fl hx;have hr:=ch h hg hx;simp only[jQ,iV]at hr
  split at hs
  ·rename_i b hc
   split at hs
   ·rename_i hk;subst hk;simp only[aa,ao]at hs;obtain⟨rfl,rfl⟩:=hs;obtain⟨a,b',q1,q2,q3,q4,rfl⟩:=Lk (es:=[]) h hg hc rfl hb;simp only[aQ,Nat.le_zero]at q4 q2;subst q4;simp only[Nat.le_zero]at q3;subst q3;refine⟨_,by simp only[kc,hr,q1,q2];rw[if_pos ⟨trivial,trivial,trivial⟩],(h.mono _).put _ (pU.nil (by simp only[jQ,iV]))⟩
   ·cases hs
  ·cases hs
 ·rename_i d0 r hx;have hr:=ch h hg hx;simp only[jQ,iV]at hr
  split at hs
  ·rename_i row hl;obtain⟨z,w1,I_,w2,rfl⟩:=h.rw r row hl
   split at hs
   ·rename_i b hc
    split at hs
    ·rename_i hk;simp only[aa,ao]at hs;obtain⟨rfl,rfl⟩:=hs;obtain⟨a,b',q1,q2,q3,q4,rfl⟩:=Lk h hg hc w2 hb;refine⟨_,by simp only[kc,hr,w1,q1,q2];rw[if_pos ⟨hk.1,q3,q4,hk.2⟩],?_⟩;exact ((h.mono [_]).newRow r (nq hn rfl)).put _ pU.ref
    ·cases hs
   ·cases hs
  ·cases hs
 ·cases hs
theorem Sj(h:Rel ρ S s)(hg:gQ ρ gs=some true)(hn:n=ρ.length){k:Nat}{x y:KX}(hs:oh hint S gs n d (.xP k x y)=some (bs,S'))(hb:jm ρ bs=some gy):∃s',kc cf mf s d (.xP k x y)=some s'/\Rel gy S' s':=by
 simp only[oh]at hs
 split at hs
 ·rename_i d0 r e hx hy;have hr:=ch h hg hx;simp only[jQ,iV]at hr;obtain⟨v,j1,j2⟩:=j9 h hg hy
  split at hs
  ·rename_i row hl;obtain⟨z,w1,I_,w2,rfl⟩:=h.rw r row hl
   split at hs
   ·rename_i hk;obtain⟨k1,k2,k3,k4⟩:=hk;simp only[aa,ao]at hs;obtain⟨rfl,rfl⟩:=hs;obtain⟨O0,yv,Ap⟩:=sx (bs:=[_]) (cs:=[_]) hb;obtain⟨xs1,v1,f1,f2,rfl⟩:=dH yv;obtain⟨Gq,v',h1,h2,rfl⟩:=dH Ap;obtain⟨a,MX,t1,t2,rfl⟩:=cS f1;obtain⟨b,t3,rfl⟩:=ef t2;rw[w2]at t1;cases t1;rw[j1]at t3;cases t3;obtain⟨k',es,iY,i1,i2,rfl⟩:=Qd f2;simp only[bq,D.list.injEq,and_true]at i1;obtain⟨⟨i3,i4,rfl⟩,rfl⟩:=i1;obtain⟨c,c1,rfl⟩:=ef h1;obtain⟨k2',fl2,es2,m1,rfl⟩:=Qg h2;simp only[SE.d,hn,iD,aa]at c1;subst c1;simp only[bq,D.list.injEq,and_true]at m1;obtain⟨rfl,rfl,rfl⟩:=m1;refine⟨_,by simp only[kc,hr,j2,w1];rw[if_pos ⟨k1,by rw[<- i3,k1],trivial,k2,k3,k4,i2⟩],?_⟩;refine Rel.put ?_ _ (pU.new (by rw[hn];simp));exact ((h.mono [_]).setRow r (nq hn (by rw[i3,i4]))).mono [_]
   ·cases hs
  ·cases hs
 ·cases hs
theorem VB(h:Rel ρ S s)(hg:gQ ρ gs=some true)(hn:n=ρ.length){x y:KX}(hs:oh hint S gs n d (.jn x y)=some (bs,S'))(hb:jm ρ bs=some gy):∃s',kc cf mf s d (.jn x y)=some s'/\Rel gy S' s':=by
 simp only[oh]at hs
 split at hs
 ·rename_i d0 r c hx hy;have hr:=ch h hg hx;simp only[jQ,iV]at hr;have hry:=ch h hg hy
  split at hs
  ·rename_i row hl;obtain⟨z,w1,I_,w2,rfl⟩:=h.rw r row hl
   split at hs
   ·rename_i hk;obtain⟨k1,k2,k3,k4⟩:=hk;have key:∀{e:SE} {v:D},e.d ρ=some v->(∀sO iY,v=.list 1 sO iY->Dj s r (eU s y)=some iY)->jm ρ [(.Q8,[row.e,e]),(.Q7,[row.e,e])]=some gy->S'=(S.setRow r ⟨.v n,row.k,row.fl,row.deep,row.app,row.fz⟩).put (some d0) ⟨[],vN (n+1)⟩->∃s',kc cf mf s (some d0) (.jn x y)=some s'/\Rel gy S' s':=by
     rintro e v j1 QX hb rfl
     obtain⟨O0,yv,Ap⟩:=sx (bs:=[_]) (cs:=[_]) hb;obtain⟨xs1,v1,f1,f2,rfl⟩:=dH yv;obtain⟨Gq,v',h1,h2,rfl⟩:=dH Ap;obtain⟨a,MX,t1,t2,rfl⟩:=cS f1;obtain⟨b,t3,rfl⟩:=ef t2;rw[w2]at t1;cases t1;rw[j1]at t3;cases t3;obtain⟨es,sO,iY,bs,cs,i1,i2,i3,i4,i5,rfl⟩:=Qf f2;simp only[bq,D.list.injEq,and_true]at i1;obtain⟨⟨_,_,rfl⟩,rfl⟩:=i1;obtain⟨a,MX,t1,t2,rfl⟩:=cS h1;obtain⟨b,t3,rfl⟩:=ef t2;rw[SE.mono _ w2]at t1;cases t1;rw[SE.mono _ j1]at t3;cases t3;obtain⟨_,_,es2,_,_,aio,bs',iA,m1,m2,m3,rfl⟩:=Qe h2;simp only[bq,D.list.injEq,and_true]at m1;obtain⟨⟨_,_,rfl⟩,⟨_,_,rfl⟩⟩:=m1;rw[i4]at m2;cases m2;rw[i5]at m3;cases m3;refine⟨_,by simp only[kc,hr,QX sO iY rfl,w1];rw[if_pos ⟨k1,k2,k3,k4,i2⟩];simp only[i4,i5];rw[if_pos i3],?_⟩;refine Rel.put ?_ _ (pU.new (by rw[hn];simp));exact ((h.mono [_]).setRow r (nq hn (by rw[k1,k2]))).mono [_]
    split at hs
    ·rename_i e;simp only[aa,ao]at hs;obtain⟨rfl,hS⟩:=hs;obtain⟨v,j1,j2⟩:=hry;exact key j1 (λsO iY he=>by rw[j2,he];rfl) hb hS.symm
    ·rename_i q
     split at hs
     ·rename_i IE rq
      split at hs
      ·rename_i hq;simp only[aa,ao]at hs;obtain⟨rfl,hS⟩:=hs;simp only[jQ,iV]at hry;obtain⟨z',w1',agf,w2',rfl⟩:=h.rw q IE rq;refine key w2' (λsO iY he=>?_) hb hS.symm
       injection he with e1 e2 e3
       subst e3;simp only[hry,Dj,w1'];rw[if_pos hq]
      ·cases hs
     ·cases hs
    ·cases hs
   ·cases hs
  ·cases hs
 ·cases hs
theorem iV.fY(q i:Nat):∀{x:SB} {c:C},iV ρ x c->iV ρ (x.fY q i) (c.fY q i)
 | .d e,_,⟨x,h1,h2⟩=>by subst h2;exact⟨x,h1,rfl⟩
 | .nil _ _,_,h=>by simp only[iV]at h;subst h;rfl
 | .ref r,_,h=>by
  simp only[iV]at h;subst h;simp only[SB.fY,C.fY];split
  ·rfl
  ·split
   ·trivial
   ·rfl
 | .any,_,_=>trivial
theorem dw.fY(q i:Nat):∀{xs:List SB} {cs:List C},dw ρ xs cs->dw ρ (xs.map (SB.fY q i)) (C.xq q i cs)
 |[],_,h=>by simp only[dw]at h;subst h;rfl
 |_::_,_,⟨c,iA,h1,h2,h3⟩=>by subst h1;exact⟨_,_,rfl,h2.fY q i,dw.fY q i h3⟩
theorem rB.fY(q i:Nat):∀{xs:List (SB ⊕ List SB)} {cs:List C},rB ρ xs cs->rB ρ (xs.map λ| .inl x=>.inl (x.fY q i) | .inr l=>.inr (l.map (SB.fY q i))) (C.xq q i cs)
 |[],_,h=>by simp only[rB]at h;subst h;rfl
 | .inl _::_,_,⟨c,iA,h1,h2,h3⟩=>by subst h1;exact⟨_,_,rfl,h2.fY q i,rB.fY q i h3⟩
 | .inr _::_,_,⟨ds,iA,h1,h2,h3⟩=>by subst h1;exact⟨_,_,rfl,h2.fY q i,rB.fY q i h3⟩
theorem jQ.fY(q i:Nat):∀{x:SC} {c:C},jQ ρ x c->jQ ρ (x.fY q i) (c.fY q i)
 | .b _,_,h=>iV.fY q i h
 | .agg _,_,⟨cs,h1,h2⟩=>by subst h1;exact⟨_,rfl,h2.fY q i⟩
 | .oK _,_,⟨cs,h1,h2⟩=>by subst h1;exact⟨_,rfl,h2.fY q i⟩
 | .ptr b o,_,h=>by simp only[jQ]at h;subst h;rfl
 | .na r k a o,_,⟨n,h1,h2⟩=>by
  subst h2;simp only[SC.fY,C.fY];split
  ·exact⟨n,h1,rfl⟩
  ·split
   ·trivial
   ·exact⟨n,h1,rfl⟩
 | .qN _ _,_,⟨x,cs,h1,h2,h3⟩=>by subst h3;exact⟨x,cs,h1,h2,rfl⟩
 | .any,_,_=>trivial
theorem Rel.fY(h:Rel ρ S s)(q i:Nat){row:SR}{y:Row}(hy:Tl ρ row y):Rel ρ (S.fY q i row) (s.fY q i y) where
 sl d g hl:=by
  simp only[SS.fY]at hl;rw[nC (λg:SG=>(⟨g.gs,g.c.fY q i⟩:SG)),ad]at hl;obtain⟨g',h1,rfl⟩:=hl;obtain⟨b,h2,h3,h4⟩:=h.sl d g' h1;have:(s.fY q i y).get d=(s.get d).fY q i:=by
   simp only[St.get,St.fY,R4];rw[nC (C.fY q i)];cases look s.sl d<;>rfl
  rw[this];exact⟨b,h2,λhb=>(h3 hb).fY q i,λhb=>by rw[h4 hb];rfl⟩
 bx b xs hl:=by
  simp only[SS.fY]at hl;rw[nC (λxs:List SB=>xs.map (SB.fY q i)),ad]at hl;obtain⟨Gq,h1,rfl⟩:=hl;obtain⟨cs,h2,h3⟩:=h.bx b Gq h1;refine⟨C.xq q i cs,?_,h3.fY q i⟩;simp only[St.fY,R3];rw[nC (C.xq q i),h2];rfl
 rw r x hl:=by
  simp only[SS.fY,look,dM]at hl;simp only[St.fY,look,dM]
  split at hl
  ·rename_i he;cases hl;exact⟨y,by rw[if_pos he],hy⟩
  ·rename_i he;rw[if_neg he]
   split at hl
   ·cases hl
   ·rename_i h1;rw[if_neg he,if_neg h1];exact h.rw r x hl
theorem Sl(h:Rel ρ S s)(hg:gQ ρ gs=some true){x:KX}(hs:oh hint S gs n d (.Mq x)=some (bs,S'))(hb:jm ρ bs=some gy):∃s',kc cf mf s d (.Mq x)=some s'/\Rel gy S' s':=by
 simp only[oh]at hs
 split at hs
 ·rename_i d0 q hx;have hr:=ch h hg hx;simp only[jQ,iV]at hr
  split at hs
  ·rename_i row hl;simp only[aa,ao]at hs;obtain⟨rfl,rfl⟩:=hs;cases hb;obtain⟨y,w1,w2⟩:=h.rw q row hl;exact⟨_,by simp only[kc,hr,w1],(h.fY q (tw d0 0) w2).put _ pU.ref⟩
  ·cases hs
 ·rename_i d0 k fl hx;have hr:=ch h hg hx;simp only[jQ,iV]at hr;simp only[aa,ao]at hs;obtain⟨rfl,rfl⟩:=hs;cases hb;exact⟨s.put (some d0) (.nil k fl),by simp only[kc,hr],h.put _ (pU.nil (by simp only[jQ,iV]))⟩
 ·rename_i d0 e hx;obtain⟨v,j1,j2⟩:=ch h hg hx;simp only[aa,ao]at hs;obtain⟨rfl,rfl⟩:=hs;cases hb;exact⟨_,by simp only[kc,j2],h.put _ (pU.nil ⟨v,j1,rfl⟩)⟩
 ·cases hs
theorem KB(h:Rel ρ S s)(hg:gQ ρ gs=some true)(hn:n=ρ.length){o:KO}(hs:oh hint S gs n d o=some (bs,S'))(hb:jm ρ bs=some gy):o.jg=false/\∃s',kc cf mf s d o=some s'/\Rel gy S' s':=by
 cases o with
 |alloc zs=>exact⟨rfl,Kz h hs hb⟩
 |box x=>exact⟨rfl,Si h hg hs hb⟩
 |nf k fl xs=>exact⟨rfl,KA h hg hn hs hb⟩
 |make k b fl zs x=>exact⟨rfl,Oy h hg hn hs hb⟩
 |st m x y=>exact⟨rfl,VC h hg hn hs hb⟩
 |app k b fl x y=>exact⟨rfl,Sh h hg hn hs hb⟩
 |cut k x lo hi=>exact⟨rfl,Sk h hg hn hs hb⟩
 |xP k x y=>exact⟨rfl,Sj h hg hn hs hb⟩
 |jn x y=>exact⟨rfl,VB h hg hn hs hb⟩
 |Mq x=>exact⟨rfl,Sl h hg hs hb⟩
 |_=>cases hs
end
end
section
section
variable {T:Nat->Option KF} {cf:Cf} {mf:Mf}
noncomputable def cnd(T:Nat->Option KF)(mf:Mf)(c:C)(a b:K)(s:St):Option (Ex×St):=Ws c (ev T mf a s) (ev T mf b s)
theorem Xs(c:KX)(a b:K)(s:St):ev T mf (.cond c a b) s=cnd T mf (eU s c) a b s:=Ev T mf c a b s
theorem aaF(a b:K)(s:St):cnd T mf (.d (.bool true)) a b s=ev T mf a s:=rfl
theorem aaE(a b:K)(s:St):cnd T mf (.d (.bool false)) a b s=ev T mf b s:=rfl
end
attribute [go_sem 2000] Xs
attribute [go_sem] aaF aaE Nat.max_def ite_self
theorem aR{α:Type}{l:List α}{i:Nat}{x:α}(h:nth l i=some x):i < l.length:=by rw[cV]at h;exact (aI.1 h).1
inductive Sg (σ ρ:Type) where
 |go (s:σ)
 |out (r:ρ)
def ij{α σ ρ:Type}(step:Nat->σ->α->Sg σ ρ):Nat->σ->List α->Sg σ ρ
 |_,s,[]=>.go s
 |i,s,e::es=>match step i s e with
  | .go s'=>ij step (i+1) s' es
  | .out r=>.out r
def sgR{σ ρ:Type}(st:σ->St)(rs:ρ->Ex×St):Sg σ ρ->Option (Ex×St)
 | .go s=>some (.norm,st s)
 | .out r=>some (rs r)
def sgE{σ ρ:Type}(b:Nat)(fin:σ->St)(rs:ρ->Ex×St):Sg σ ρ->Option (Ex×St)
 | .go s=>some (.exit b,fin s)
 | .out r=>some (rs r)
theorem VK{g:St->Option (Ex×St)}{r:Ex×St}(h:r.1≠.norm):Cz g (some r)=some r:=by
 obtain⟨e,s⟩:=r;cases e with
 |norm=>exact absurd rfl h
 |exit i=>rfl
 |ret=>rfl
theorem Of{T:Nat->Option KF}{mf:Mf}{body:K}{α σ ρ:Type}{es:List α}{b:Nat}(step:Nat->σ->α->Sg σ ρ)(I:Nat->σ->Prop)(st:Nat->σ->St)(fin:σ->St)(rs:ρ->Ex×St)
  (qX:∀r,(rs r).1≠.norm)
  (nA:∀i e s,nth es i=some e->I i s->ev T mf body (st i s)=sgR (st (i+1)) rs (step i s e)/\∀s',step i s e=.go s'->I (i+1) s')
  (fy:∀s,I es.length s->ev T mf body (st es.length s)=some (.exit b,fin s)) :
  ∀m i s,i+m=es.length->I i s->ev T mf (.loop body) (st i s)=sgE b fin rs (ij step i s (es.drop i))
 |0,i,s,h,hI=>by
  obtain rfl:i=es.length:=by omega
  rw[fG,fy s hI,cC];rfl
 |m+1,i,s,h,hI=>by
  have a1:=dF (l:=es) (i:=i) (by omega);obtain⟨h1,h2⟩:=nA i _ s a1 hI;rw[gY es i _ a1,fG,h1];simp only[ij];cases hs:step i s es[i]with
  |go s'=>
   simp only[sgR,Cz];exact Of step I st fin rs qX nA fy m (i+1) s' (by omega) (h2 s' hs)
  |out r=>
   simp only[sgR,sgE];exact VK (qX r)
def allI{α:Type}(p:Nat->α->Bool):Nat->List α->Bool
 |_,[]=>true
 |i,e::es=>p i e && allI p (i+1) es
theorem rE{α:Type}(p:α->Bool):∀(i:Nat) (es:List α),allI (λ_=>p) i es=es.all p
 |_,[]=>rfl
 |i,e::es=>by simp[allI,rE p (i+1) es]
theorem Ib{T:Nat->Option KF}{mf:Mf}{body:K}{α:Type}{es:List α}{b:Nat}(p:Nat->α->Bool)(st:Nat->St)(fin r:St)
  (nA:∀i e,nth es i=some e->ev T mf body (st i)=if p i e=true then some (.norm,st (i+1)) else some (.ret,r))
  (fy:ev T mf body (st es.length)=some (.exit b,fin)) :
  ∀m i,i+m=es.length->ev T mf (.loop body) (st i)=if allI p i (es.drop i)=true then some (.exit b,fin) else some (.ret,r)
 |0,i,h=>by
  obtain rfl:i=es.length:=by omega
  rw[fG,fy,cC];rfl
 |m+1,i,h=>by
  have a1:=dF (l:=es) (i:=i) (by omega);have e1:allI p i (es.drop i)=(p i (es[i]'(by omega)) && allI p (i+1) (es.drop (i+1))):=by rw[gY es i _ a1];rfl
  rw[fG,nA i _ a1,e1];by_cases hp:p i (es[i]'(by omega))=true
  ·rw[if_pos hp,hp,bU];exact Ib p st fin r nA fy m (i+1) (by omega)
  ·rw[if_neg hp,cT.2 hp,df,if_neg cj];rfl
theorem aai{T:Nat->Option KF}{mf:Mf}{body:K}{α:Type}{es:List α}{b:Nat}(p:α->Bool)(st:Nat->St)(fin r:St)
  (nA:∀i e,nth es i=some e->ev T mf body (st i)=if p e=true then some (.norm,st (i+1)) else some (.ret,r))
  (fy:ev T mf body (st es.length)=some (.exit b,fin)):ev T mf (.loop body) (st 0)=if es.all p=true then some (.exit b,fin) else some (.ret,r):=by
 have h:=Ib (λ_=>p) st fin r nA fy es.length 0 (by omega);rw[aX,rE]at h;exact h
def pV{α:Type}(p:α->Bool):List α->Nat->Option Nat
 |[],_=>none
 |e::es,k=>if p e then some k else pV p es (k+1)
def aip(b:Nat)(fin:St)(r:Nat->St):Option Nat->Option (Ex×St)
 |none=>some (.exit b,fin)
 |some i=>some (.ret,r i)
theorem vq{α β:Type}{f:α->β}{es:List α}{i:Nat}{e:α}(h:nth es i=some e):(es.take (i+1)).map f=(es.take i).map f++[f e]:=by
 rw[cu es i e h];simp
theorem LF{α:Type}{p:α->Bool}:∀{es:List α} {k j:Nat},pV p es k=some j->∃e,k<=j/\nth es (j - k)=some e/\p e=true
 |[],k,j,h=>by simp[pV]at h
 |e::es,k,j,h=>by
  simp only[pV]at h
  split at h
  ·rename_i hp;obtain rfl:=eJ h;exact⟨e,aj _,by simp[nth],hp⟩
  ·obtain⟨x,h1,h2,h3⟩:=LF h;refine⟨x,by omega,?_,h3⟩;rw[show j - k=(j - (k+1))+1 by omega];exact h2
theorem dr{α:Type}{p:α->Bool}{es:List α}{j:Nat}(h:pV p es 0=some j):∃e,nth es j=some e/\p e=true:=by
 obtain⟨e,_,h2,h3⟩:=LF h;exact⟨e,by simpa using h2,h3⟩
def kR:Option Nat->Int
 |none=>-1
 |some j=>(j:Int)
inductive vU {σ ρ:Type} (b:σ->Option (Sg σ ρ)):σ->ρ->Prop
 |out {s:σ} {r:ρ} (h:b s=some (.out r)):vU b s r
 |go {s s':σ} {r:ρ} (h:b s=some (.go s')) (h':vU b s' r):vU b s r
open Classical in
noncomputable def bR{σ ρ:Type}(b:σ->Option (Sg σ ρ))(s:σ):Option ρ:=if h:∃r,vU b s r then some h.choose else none
theorem JP{σ ρ:Type}{b:σ->Option (Sg σ ρ)}{s:σ}{r:ρ}(h:bR b s=some r):vU b s r:=by
 unfold bR at h
 split at h
 ·rename_i hx;rw[<- eJ h];exact hx.choose_spec
 ·cases h
theorem vU.uI{σ ρ:Type}{b:σ->Option (Sg σ ρ)}{s:σ}{r r':ρ}(h:vU b s r)(h':vU b s r'):r=r':=by
 induction h with
 |out h=>
  cases h' with
  |out g=>rw[h]at g;cases g;rfl
  |go g _=>rw[h]at g;cases g
 |go h _ ih=>
  cases h' with
  |out g=>rw[h]at g;cases g
  |go g g'=>rw[h]at g;cases g;exact ih g'
theorem uB{σ ρ:Type}{b:σ->Option (Sg σ ρ)}{s:σ}{r:ρ}(h:vU b s r):bR b s=some r:=by
 unfold bR;have hx:∃r,vU b s r:=⟨r,h⟩
 rw[dif_pos hx,hx.choose_spec.uI h]
theorem bk{σ ρ:Type}{b:σ->Option (Sg σ ρ)}{s:σ}{r:ρ}(h:b s=some (.out r)):bR b s=some r:=uB (.out h)
theorem cE{σ ρ:Type}{b:σ->Option (Sg σ ρ)}{s s':σ}(h:b s=some (.go s')):bR b s=bR b s':=by
 by_cases hx:∃r,vU b s' r
 ·obtain⟨r,hr⟩:=hx;rw[uB hr,uB (.go h hr)]
 ·have hy:¬∃r,vU b s r:=λ⟨r,hr⟩=>by
   cases hr with
   |out g=>rw[h]at g;cases g
   |go g g'=>rw[h]at g;cases g;exact hx ⟨r,g'⟩
  unfold bR;rw[dif_neg hx,dif_neg hy]
theorem aH{α β:Type}(f:α->β):∀(l:List α) (i:Nat),nth (l.map f) i=(nth l i).map f
 |[],_=>rfl
 |_::_,0=>rfl
 |_::l,i+1=>aH f l i
theorem wrap_i64{a:Int}(h:-9223372036854775808<=a/\a<=9223372036854775807):IntKind.i64.wrap a=a:=bN (by omega)
theorem wrap_u8{a:Int}(h:0<=a/\a<=255):IntKind.u8.wrap a=a:=by
 simp[IntKind.wrap,IntKind.bits,IntKind.signed];omega
theorem Zt{α:Type}{b:Nat}{u t:List α}(hb:b<=65536)(h:u.length+t.length<=2147483648):((u.length+t.length) * b<=room/\u.length+t.length<=maxLen)=True:=by
 refine eq_true ⟨az (Nat.mul_le_mul h hb) (by decide),az h (by decide)⟩
def Jh{τ σ ρ:Type}(mk:τ->σ):Sg τ ρ->Sg σ ρ
 | .go t=>.go (mk t)
 | .out r=>.out r
def WU{τ ρ:Type}(fin:τ->ρ):Sg τ ρ->ρ
 | .go t=>fin t
 | .out r=>r
theorem LK{α τ σ ρ:Type}{b:σ->Option (Sg σ ρ)}{es:List α}(mk:Nat->τ->σ)(step:Nat->τ->α->Sg τ ρ)(fin:τ->ρ)(I:Nat->τ->Prop)
  (nA:∀i e t,nth es i=some e->I i t->b (mk i t)=some (Jh (mk (i+1)) (step i t e))/\∀t',step i t e=.go t'->I (i+1) t')
  (fy:∀t,I es.length t->b (mk es.length t)=some (.out (fin t))) :
  ∀m i t,i+m=es.length->I i t->bR b (mk i t)=some (WU fin (ij step i t (es.drop i)))
 |0,i,t,h,hI=>by
  obtain rfl:i=es.length:=by omega
  rw[bk (fy t hI),cC];rfl
 |m+1,i,t,h,hI=>by
  have a1:=dF (l:=es) (i:=i) (by omega);obtain⟨h1,h2⟩:=nA i _ t a1 hI;rw[gY es i _ a1];simp only[ij];cases hs:step i t es[i]with
  |go t'=>
   rw[hs]at h1;rw[cE h1];exact LK mk step fin I nA fy m (i+1) t' (by omega) (h2 t' hs)
  |out r=>
   rw[hs]at h1;rw[bk h1];rfl
theorem vd{α τ σ ρ:Type}{b:σ->Option (Sg σ ρ)}(es:List α)(mk:Nat->τ->σ)(step:Nat->τ->α->Sg τ ρ)(fin:τ->ρ)(I:Nat->τ->Prop)(t:τ)(h0:I 0 t)
  (nA:∀i e t,nth es i=some e->I i t->b (mk i t)=some (Jh (mk (i+1)) (step i t e))/\∀t',step i t e=.go t'->I (i+1) t')
  (fy:∀t,I es.length t->b (mk es.length t)=some (.out (fin t))):bR b (mk 0 t)=some (WU fin (ij step 0 t es)):=by
 have h:=LK mk step fin I nA fy es.length 0 t (by omega) h0
 rwa [aX]at h
theorem nk{α σ ρ:Type}{b:σ->Option (Sg σ ρ)}(es:List α)(mk:Nat->σ)(p:Nat->α->Bool)(yes no:ρ)
  (nA:∀i e,nth es i=some e->b (mk i)=some (if p i e=true then .go (mk (i+1)) else .out no))
  (fy:b (mk es.length)=some (.out yes)):∀m i,i+m=es.length->bR b (mk i)=some (if allI p i (es.drop i)=true then yes else no)
 |0,i,h=>by
  obtain rfl:i=es.length:=by omega
  rw[bk fy,cC];rfl
 |m+1,i,h=>by
  have a1:=dF (l:=es) (i:=i) (by omega);have h1:=nA i _ a1;have e1:allI p i (es.drop i)=(p i (es[i]'(by omega)) && allI p (i+1) (es.drop (i+1))):=by rw[gY es i _ a1];rfl
  rw[e1];by_cases hp:p i (es[i]'(by omega))=true
  ·rw[if_pos hp]at h1;rw[cE h1,hp,bU];exact nk es mk p yes no nA fy m (i+1) (by omega)
  ·rw[if_neg hp]at h1;rw[bk h1,cT.2 hp,df,if_neg cj]
theorem iG{α σ ρ:Type}{b:σ->Option (Sg σ ρ)}(es:List α)(mk:Nat->σ)(p:α->Bool)(yes no:ρ)
  (nA:∀i e,nth es i=some e->b (mk i)=some (if p e=true then .go (mk (i+1)) else .out no))
  (fy:b (mk es.length)=some (.out yes)):bR b (mk 0)=some (if es.all p=true then yes else no):=by
 have h:=nk es mk (λ_=>p) yes no nA fy es.length 0 (by omega)
 rwa [aX,rE]at h
theorem LJ{α σ ρ:Type}{b:σ->Option (Sg σ ρ)}(es:List α)(mk:Nat->σ)(p:α->Bool)(none_:ρ)(Nx:Nat->α->ρ)
  (nA:∀i e,nth es i=some e->b (mk i)=some (if p e=true then .out (Nx i e) else .go (mk (i+1))))
  (fy:b (mk es.length)=some (.out none_)):∀m i,i+m=es.length->bR b (mk i)=some (match pV p (es.drop i) i with|none=>none_|some j=>match nth es j with|some e=>Nx j e|none=>none_)
 |0,i,h=>by
  obtain rfl:i=es.length:=by omega
  rw[bk fy,cC];rfl
 |m+1,i,h=>by
  have a1:=dF (l:=es) (i:=i) (by omega);have h1:=nA i _ a1;rw[gY es i _ a1];simp only[pV];by_cases hp:p (es[i]'(by omega))=true
  ·rw[if_pos hp]at h1;rw[bk h1,if_pos hp];simp only[a1]
  ·rw[if_neg hp]at h1;rw[cE h1,if_neg hp];exact LJ es mk p none_ Nx nA fy m (i+1) (by omega)
theorem nP{α σ ρ:Type}{b:σ->Option (Sg σ ρ)}(es:List α)(mk:Nat->σ)(p:α->Bool)(none_:ρ)(Nx:Nat->α->ρ)
  (nA:∀i e,nth es i=some e->b (mk i)=some (if p e=true then .out (Nx i e) else .go (mk (i+1))))
  (fy:b (mk es.length)=some (.out none_)):bR b (mk 0)=some (match pV p es 0 with|none=>none_|some j=>match nth es j with|some e=>Nx j e|none=>none_):=by
 have h:=LJ es mk p none_ Nx nA fy es.length 0 (by omega)
 rwa [aX]at h
theorem eB{α τ σ ρ:Type}{b:σ->Option (Sg σ ρ)}(es:List α)(mk:Nat->τ->σ)(f:Nat->τ)(fin:ρ)
  (nA:∀i e,nth es i=some e->b (mk i (f i))=some (.go (mk (i+1) (f (i+1)))))
  (fy:b (mk es.length (f es.length))=some (.out fin)):∀m i,i+m=es.length->bR b (mk i (f i))=some fin
 |0,i,h=>by
  obtain rfl:i=es.length:=by omega
  exact bk fy
 |m+1,i,h=>by
  have a1:=dF (l:=es) (i:=i) (by omega);rw[cE (nA i _ a1)];exact eB es mk f fin nA fy m (i+1) (by omega)
def nr{β:Type}(i:Nat):List β->Int ⊕ (Int×List β)
 |[]=>.inl i
 |x::t=>.inr (i,x::t)
end
section
inductive ST where
 |nil
 |cons (a b:ST)
 |op (gs:Gs) (o:PO) (es:List SE) (t:ST)
 |gd (gs:Gs) (a b:ST)
 |call (i:Nat) (es:List SE) (ts:ST)
 |leaf (j:Nat) (es:List SE)
 |map (f:List Nat) (t:ST)
 |seq (t ts:ST)
 |loop (h:Nat) (es:List SE) (bs:ST)
 |both (a b:ST)
 deriving DecidableEq
abbrev Gf:=Nat->List D->Option (Nat×List D)
def An:Option (Nat×List D)->Option (Sg (Nat×List D) (Nat×List D))
 |some (j,σ)=>some (if j % 2=0 then .go (j / 2,σ) else .out (j / 2,σ))
 |none=>none
open Classical in
noncomputable def CI{α:Type}:Option α->Option α->Option α
 |some a,some b=>if a=b then some a else none
 |_,_=>none
theorem Pv{α:Type}{a b:Option α}{r:α}(h:CI a b=some r):a=some r/\b=some r:=by
 unfold CI at h
 split at h
 ·split at h
  ·rename_i he;cases h;subst he;exact⟨rfl,rfl⟩
  ·cases h
 ·cases h
theorem Ju{α:Type}(a:α):CI (some a) (some a)=some a:=by simp[CI]
noncomputable def dL(G:Gf):ST->Nat->List D->Option (Nat×List D)
 | .nil,_,_=>none
 | .cons a _,0,ρ=>dL G a 0 ρ
 | .cons _ b,j+1,ρ=>dL G b j ρ
 | .op gs o es t,_,ρ=>match gQ ρ gs with
  |some true=>match gU ρ es with
   |some xs=>match aK o xs with
    |some x=>dL G t 0 (ρ++[x])
    |none=>none
   |none=>none
  |some false=>dL G t 0 (ρ++[.bool false])
  |none=>none
 | .gd gs a b,_,ρ=>match gQ ρ gs with
  |some true=>dL G a 0 ρ
  |some false=>dL G b 0 ρ
  |none=>none
 | .call i es ts,_,ρ=>match gU ρ es with
  |some xs=>match G i xs with
   |some (j,ws)=>dL G ts j (ρ++ws)
   |none=>none
  |none=>none
 | .leaf j es,_,ρ=>match gU ρ es with
  |some xs=>some (j,xs)
  |none=>none
 | .map f t,_,ρ=>match dL G t 0 ρ with
  |some (j,σ)=>(nth f j).map (·,σ)
  |none=>none
 | .seq t ts,_,ρ=>match dL G t 0 ρ with
  |some (j,σ)=>dL G ts j σ
  |none=>none
 | .loop h es bs,_,ρ=>match gU ρ es with
  |some σ=>bR (λp=>An (dL G bs p.1 p.2)) (h,σ)
  |none=>none
 | .both a b,_,ρ=>CI (dL G a 0 ρ) (dL G b 0 ρ)
def Jv(c:Nat):SB->SB×List SE
 | .d e=>(.d (.v c),[e])
 |x=>(x,[])
def tB:Nat->List SB->List SB×List SE
 |_,[]=>([],[])
 |c,x::xs=>match Jv c x with
  |(y,es)=>match tB (c+es.length) xs with
   |(ys,fs)=>(y::ys,es++fs)
def D_:Nat->List (SB ⊕ List SB)->List (SB ⊕ List SB)×List SE
 |_,[]=>([],[])
 |c,.inl x::xs=>match Jv c x with
  |(y,es)=>match D_ (c+es.length) xs with
   |(ys,fs)=>(.inl y::ys,es++fs)
 |c,.inr x::xs=>match tB c x with
  |(y,es)=>match D_ (c+es.length) xs with
   |(ys,fs)=>(.inr y::ys,es++fs)
def M_(c:Nat):SC->SC×List SE
 | .b x=>match Jv c x with
  |(y,es)=>(.b y,es)
 | .agg xs=>match tB c xs with
  |(ys,es)=>(.agg ys,es)
 | .oK xs=>match D_ c xs with
  |(ys,es)=>(.oK ys,es)
 | .ptr b o=>(.ptr b o,[])
 | .na r k i o=>(.na r k (.v c) o,[i])
 | .qN i o=>(.qN c o,[.v i])
 | .any=>(.any,[])
def xO(kn:Gs):Nat->List (Nat×SG)->List (Nat×SG)×List SE
 |_,[]=>([],[])
 |c,(d,g)::l=>if g.gs.all (λp=>decide (p∈kn)) then (match M_ c g.c with
   |(y,es)=>match xO kn (c+es.length) l with
    |(ys,fs)=>((d,⟨[],y⟩)::ys,es++fs))
  else match xO kn c l with
   |(ys,fs)=>((d,⟨[],.any⟩)::ys,fs)
def CO:Nat->List (Nat×List SB)->List (Nat×List SB)×List SE
 |_,[]=>([],[])
 |c,(d,x)::l=>match tB c x with
  |(y,es)=>match CO (c+es.length) l with
   |(ys,fs)=>((d,y)::ys,es++fs)
def CP:Nat->List (Nat×SR)->List (Nat×SR)×List SE
 |_,[]=>([],[])
 |c,(d,x)::l=>match CP (c+1) l with
   |(ys,fs)=>((d,{x with e:=.v c })::ys,x.e::fs)
def abE(d:Nat):List Nat->List Nat
 |[]=>[d]
 |e::l=>if d < e then d::e::l else if d=e then e::l else e::abE d l
def LY{α:Type}:List (Nat×α)->List Nat
 |[]=>[]
 |(d,_)::l=>abE d (LY l)
def SS.keys(S:SS):j7:=⟨LY S.sl,LY S.bx,LY S.rw⟩
def Na(kn:Gs)(S:SS):SS×List SE:=
 match xO kn 0 (S.cG S.keys).sl with
 |(sl,es)=>match CO es.length (S.cG S.keys).bx with
  |(bx,fs)=>match CP (es.length+fs.length) (S.cG S.keys).rw with
   |(rw,gs)=>(⟨sl,bx,rw⟩,es++(fs++gs))
section
variable {ρ:List D}
theorem FE{α:Type}:∀(l:List α) (x:α) (m:List α),nth (l++([x]++m)) l.length=some x:=λl x m=>iD l x m
theorem D9{c:Nat}{x y:SB}{es:List SE}{v:C}{σ:List D}(hc:Jv c x=(y,es))(hx:iV ρ x v)(he:gU ρ es=some σ){σ0 σ1:List D}(h0:σ0.length=c):iV (σ0++(σ++σ1)) y v:=by
 subst h0;cases x with
 |d e=>
  cases hc;obtain⟨z,h1,rfl⟩:=hx;obtain⟨w,h2,rfl⟩:=ef he;rw[h1]at h2;cases h2;exact⟨z,FE _ _ _,rfl⟩
 |nil k fl=>cases hc;exact hx
 |ref r=>cases hc;exact hx
 |any=>cases hc;trivial
theorem kL:∀{es fs:List SE} {σ:List D},gU ρ (es++fs)=some σ->∃σ1 Z2,gU ρ es=some σ1/\gU ρ fs=some Z2/\σ=σ1++Z2
 |[],_,σ,h=>⟨[],σ,rfl,h,rfl⟩
 |e::es,_,_,h=>by
  obtain⟨x,ys,h1,h2,rfl⟩:=cS (es:=es++_) h;obtain⟨σ1,Z2,h3,h4,rfl⟩:=kL h2;exact⟨x::σ1,Z2,by simp only[gU,h1,h3,aB],h4,rfl⟩
theorem uU:∀{xs:List SB} {c:Nat} {ys:List SB} {es:List SE} {vs:List C} {σ σ0 σ1:List D},tB c xs=(ys,es)->dw ρ xs vs->gU ρ es=some σ->σ0.length=c->dw (σ0++(σ++σ1)) ys vs
 |[],_,_,_,_,_,_,_,hc,hx,he,h0=>by
  cases hc;exact hx
 |x::xs,c,ys,es,vs,σ,σ0,σ1,hc,⟨v,eb,hv,h1,h2⟩,he,h0=>by
  subst hv;simp only[tB]at hc;generalize h3:Jv c x=q at hc;obtain⟨y,Hm⟩:=q;simp only at hc
  generalize h4:tB (c+Hm.length) xs=q at hc;obtain⟨MX,fs⟩:=q;cases hc;obtain⟨OL,Tb,h5,h6,rfl⟩:=kL he;refine⟨v,eb,rfl,?_,?_⟩
  ·have:=D9 h3 h1 h5 h0 (σ1:=Tb++σ1)
   simpa only [bh] using this
  ·have:=uU h4 h2 h6 (σ0:=σ0++OL) (σ1:=σ1) (by rw[aO,h0,jr h5])
   simpa only [bh] using this
theorem Ea:∀{xs:List (SB ⊕ List SB)} {c:Nat} {ys:List (SB ⊕ List SB)} {es:List SE} {vs:List C} {σ σ0 σ1:List D},D_ c xs=(ys,es)->rB ρ xs vs->gU ρ es=some σ->σ0.length=c->rB (σ0++(σ++σ1)) ys vs
 |[],_,_,_,_,_,_,_,hc,hx,he,h0=>by
  cases hc;exact hx
 | .inl x::xs,c,ys,es,vs,σ,σ0,σ1,hc,⟨v,eb,hv,h1,h2⟩,he,h0=>by
  subst hv;simp only[D_]at hc;generalize h3:Jv c x=q at hc;obtain⟨y,Hm⟩:=q;simp only at hc
  generalize h4:D_ (c+Hm.length) xs=q at hc;obtain⟨MX,fs⟩:=q;cases hc;obtain⟨OL,Tb,h5,h6,rfl⟩:=kL he;refine⟨v,eb,rfl,?_,?_⟩
  ·have:=D9 h3 h1 h5 h0 (σ1:=Tb++σ1)
   simpa only [bh] using this
  ·have:=Ea h4 h2 h6 (σ0:=σ0++OL) (σ1:=σ1) (by rw[aO,h0,jr h5])
   simpa only [bh] using this
 | .inr x::xs,c,ys,es,vs,σ,σ0,σ1,hc,⟨v,eb,hv,h1,h2⟩,he,h0=>by
  subst hv;simp only[D_]at hc;generalize h3:tB c x=q at hc;obtain⟨y,Hm⟩:=q;simp only at hc
  generalize h4:D_ (c+Hm.length) xs=q at hc;obtain⟨MX,fs⟩:=q;cases hc;obtain⟨OL,Tb,h5,h6,rfl⟩:=kL he;refine⟨v,eb,rfl,?_,?_⟩
  ·have:=uU h3 h1 h5 h0 (σ1:=Tb++σ1)
   simpa only [bh] using this
  ·have:=Ea h4 h2 h6 (σ0:=σ0++OL) (σ1:=σ1) (by rw[aO,h0,jr h5])
   simpa only [bh] using this
theorem TJ{c:Nat}{x y:SC}{es:List SE}{v:C}{σ:List D}(hc:M_ c x=(y,es))(hx:jQ ρ x v)(he:gU ρ es=some σ){σ0 σ1:List D}(h0:σ0.length=c):jQ (σ0++(σ++σ1)) y v:=by
 cases x with
 |b x=>
  simp only[M_]at hc;generalize h3:Jv c x=q at hc;obtain⟨y',Hm⟩:=q;cases hc;exact D9 h3 hx he h0
 |agg xs=>
  simp only[M_]at hc;generalize h3:tB c xs=q at hc;obtain⟨y',Hm⟩:=q;cases hc;obtain⟨cs,rfl,h1⟩:=hx;exact⟨cs,rfl,uU h3 h1 he h0⟩
 |oK xs=>
  simp only[M_]at hc;generalize h3:D_ c xs=q at hc;obtain⟨y',Hm⟩:=q;cases hc;obtain⟨cs,rfl,h1⟩:=hx;exact⟨cs,rfl,Ea h3 h1 he h0⟩
 |ptr b o=>cases hc;exact hx
 |na r k i o=>
  cases hc;subst h0;obtain⟨n,h1,rfl⟩:=hx;obtain⟨w,h2,rfl⟩:=ef he;rw[h1]at h2;cases h2;exact⟨n,FE _ _ _,rfl⟩
 |qN i o=>
  cases hc;subst h0;obtain⟨x,cs,h1,h2,rfl⟩:=hx;obtain⟨w,h3,rfl⟩:=ef he;rw[SE.d,h1]at h3;cases h3;exact⟨x,cs,FE _ _ _,h2,rfl⟩
 |any=>cases hc;trivial
theorem zK{kn:Gs}(hk:gQ ρ kn=some true):∀{l:List (Nat×SG)} {c:Nat} {l':List (Nat×SG)} {es:List SE} {σ σ0 σ1:List D},xO kn c l=(l',es)->gU ρ es=some σ->σ0.length=c->
  ∀d g,look l' d=some g->∃g0,look l d=some g0/\∀v,pU ρ g0 v->pU (σ0++(σ++σ1)) g v
 |[],_,_,_,_,_,_,hc,he,h0=>by
  cases hc;intro d g h;cases h
 |(d0,g0)::l,c,l',es,σ,σ0,σ1,hc,he,h0=>by
  intro d g h;simp only[xO]at hc
  split at hc
  ·rename_i hg;generalize h3:M_ c g0.c=q at hc;obtain⟨y,Hm⟩:=q;simp only at hc
   generalize h4:xO kn (c+Hm.length) l=q at hc;obtain⟨MX,fs⟩:=q;cases hc;obtain⟨OL,Tb,h5,h6,rfl⟩:=kL he;simp only[look]at h ⊢
   split at h
   ·rename_i hd;cases h;refine⟨g0,by rw[if_pos hd],λv hv=>?_⟩;obtain⟨b,q1,q2,q3⟩:=hv;rw[JQ hk hg]at q1;cases q1;have:=TJ h3 (q2 rfl) h5 h0 (σ1:=Tb++σ1);exact pU.nil (by simpa only [bh] using this)
   ·rename_i hd;rw[if_neg hd];have:=zK hk h4 h6 (σ0:=σ0++OL) (σ1:=σ1) (by rw[aO,h0,jr h5]) d g h
    simpa only [bh] using this
  ·generalize h4:xO kn c l=q at hc;obtain⟨MX,fs⟩:=q;cases hc;simp only[look]at h ⊢
   split at h
   ·rename_i hd;cases h;exact⟨g0,by rw[if_pos hd],λv hv=>pU.nil trivial⟩
   ·rename_i hd;rw[if_neg hd];exact zK hk h4 he h0 d g h
theorem GV:∀{l:List (Nat×List SB)} {c:Nat} {l':List (Nat×List SB)} {es:List SE} {σ σ0 σ1:List D},CO c l=(l',es)->gU ρ es=some σ->σ0.length=c->
  ∀d g,look l' d=some g->∃g0,look l d=some g0/\∀v,dw ρ g0 v->dw (σ0++(σ++σ1)) g v
 |[],_,_,_,_,_,_,hc,he,h0=>by
  cases hc;intro d g h;cases h
 |(d0,g0)::l,c,l',es,σ,σ0,σ1,hc,he,h0=>by
  intro d g h;simp only[CO]at hc;generalize h3:tB c g0=q at hc;obtain⟨y,Hm⟩:=q;simp only at hc
  generalize h4:CO (c+Hm.length) l=q at hc;obtain⟨MX,fs⟩:=q;cases hc;obtain⟨OL,Tb,h5,h6,rfl⟩:=kL he;simp only[look]at h ⊢
  split at h
  ·rename_i hd;cases h;refine⟨g0,by rw[if_pos hd],λv hv=>?_⟩;have:=uU h3 hv h5 h0 (σ1:=Tb++σ1)
   simpa only [bh] using this
  ·rename_i hd;rw[if_neg hd];have:=GV h4 h6 (σ0:=σ0++OL) (σ1:=σ1) (by rw[aO,h0,jr h5]) d g h
   simpa only [bh] using this
theorem GW:∀{l:List (Nat×SR)} {c:Nat} {l':List (Nat×SR)} {es:List SE} {σ σ0 σ1:List D},CP c l=(l',es)->gU ρ es=some σ->σ0.length=c->
  ∀d g,look l' d=some g->∃g0,look l d=some g0/\∀v,Tl ρ g0 v->Tl (σ0++(σ++σ1)) g v
 |[],_,_,_,_,_,_,hc,he,h0=>by
  cases hc;intro d g h;cases h
 |(d0,g0)::l,c,l',es,σ,σ0,σ1,hc,he,h0=>by
  intro d g h;simp only[CP]at hc;generalize h4:CP (c+1) l=q at hc;obtain⟨MX,fs⟩:=q;cases hc;obtain⟨x,Tb,h5,h6,rfl⟩:=cS he;simp only[look]at h ⊢
  split at h
  ·rename_i hd;cases h;refine⟨g0,by rw[if_pos hd],λv hv=>?_⟩;obtain⟨I_,w1,rfl⟩:=hv;rw[h5]at w1;cases w1;subst h0;exact⟨I_,iD σ0 _ (Tb++σ1),rfl⟩
  ·rename_i hd;rw[if_neg hd];have:=GW h4 h6 (σ0:=σ0++[x]) (σ1:=σ1) (by rw[aO,h0];rfl) d g h
   simpa only [bh,ai,ak] using this
theorem Rel.aim{S:SS}{s:St}(h:Rel ρ S s)(kp:j7):Rel ρ (S.cG kp) s:=
 ⟨λd g hl=>h.sl d g (gr _ _ hl).1,λb xs hl=>h.bx b xs (gr _ _ hl).1,λr x hl=>h.rw r x (gr _ _ hl).1⟩
theorem Li{S S':SS}{s:St}{kn:Gs}{es:List SE}{σ:List D}(h:Rel ρ S s)(hk:gQ ρ kn=some true)(hc:Na kn S=(S',es))(he:gU ρ es=some σ):Rel σ S' s:=by
 have h:=h.aim S.keys;unfold Na at hc;generalize h1:xO kn 0 (S.cG S.keys).sl=q at hc;obtain⟨sl,Hm⟩:=q;simp only at hc
 generalize h2:CO Hm.length (S.cG S.keys).bx=q at hc;obtain⟨bx,es2⟩:=q;simp only at hc
 generalize h3:CP (Hm.length+es2.length) (S.cG S.keys).rw=q at hc;obtain⟨rw_,es3⟩:=q;cases hc;obtain⟨σ1,τ,g1,g2,rfl⟩:=kL he;obtain⟨Z2,σ3,g3,g4,rfl⟩:=kL g2;refine⟨λd g hl=>?_,λb xs hl=>?_,λr x hl=>?_⟩
 ·obtain⟨g0,q1,q2⟩:=zK hk h1 g1 (σ0:=[]) (σ1:=Z2++σ3) rfl d g hl;exact q2 _ (h.sl d g0 q1)
 ·obtain⟨g0,q1,q2⟩:=GV h2 g3 (σ0:=σ1) (σ1:=σ3) (jr g1) b xs hl;obtain⟨cs,q3,q4⟩:=h.bx b g0 q1;exact⟨cs,q3,q2 _ q4⟩
 ·obtain⟨g0,q1,q2⟩:=GW h3 g4 (σ0:=σ1++Z2) (σ1:=[]) (by rw[aO,jr g1,jr g3]) r x hl;obtain⟨cs,q3,q4⟩:=h.rw r g0 q1;refine⟨cs,q3,?_⟩;have:=q2 _ q4
  simpa only [bh,aD] using this
end
end
section
inductive D5 where
 |d
 |row (k:Nat) (fl deep app fz:Bool)
 deriving DecidableEq
inductive SA where
 |val (ag:Bool) (l:List D5)
 |box (l:List D5)
 deriving DecidableEq
structure lI where
 f:Nat
 args:List SA
 res:List (List SA×List SA)
 deriving DecidableEq
def SA.n:SA->Nat
 | .val _ l=>l.length
 | .box l=>l.length
def SA.l:SA->List D5
 | .val _ l=>l
 | .box l=>l
def zY:D5->D->Option RV
 | .d,x=>some (.d x)
 | .row k fl deep app fz,.list k' sO es=>if k'=k/\sO=fl then some (.row ⟨es,k,fl,deep,app,fz⟩) else none
 |_,_=>none
def lM:List D5->List D->Option (List RV)
 |[],[]=>some []
 |v::vs,x::xs=>match zY v x with
  |some r=>(lM vs xs).map (r::·)
  |none=>none
 |_,_=>none
def kZ:SA->List D->Option A
 | .val ag l,xs=>(lM l xs).map (.val ag)
 | .box l,xs=>(lM l xs).map .box
def fZ:List SA->List D->Option (List A)
 |[],[]=>some []
 |[],_::_=>none
 |a::as,xs=>match kZ a (xs.take a.n) with
  |some r=>(fZ as (xs.drop a.n)).map (r::·)
  |none=>none
def uV:List SA->Nat
 |[]=>0
 |a::as=>a.n+uV as
def u5(v:List SA×List SA)(xs:List D):Option (List A×List A):=
 match fZ v.1 (xs.take (uV v.1)),fZ v.2 (xs.drop (uV v.1)) with
 |some rs,some outs=>some (rs,outs)
 |_,_=>none
def TC(cf:Cf)(jA:List (Nat×lI))(G:Gf):Prop:=
 ∀i sg,look jA i=some sg->∀ws j us,G i ws=some (j,us)->∃as r v,fZ sg.args ws=some as/\nth sg.res j=some v/\u5 v us=some r/\cf sg.f as=some r
def rdS(S:SS):SB->Option SE
 | .d e=>some e
 | .nil k fl=>some (.k (.nil k fl))
 | .ref r=>(look S.rw r).map (·.e)
 | .any=>none
def ZU(S:SS):SB->Option (D5×SE)
 | .d e=>some (.d,e)
 | .nil k fl=>some (.row k fl true true false,.k (.nil k fl))
 | .ref r=>(look S.rw r).map λx=>(.row x.k x.fl x.deep x.app x.fz,x.e)
 | .any=>none
def SC.isAgg:SC->Bool
 | .agg _=>true
 |_=>false
def Vy(S:SS):SC->Option (SA×List SE)
 | .ptr b 0=>match look S.bx b with
  |some xs=>(fk (ZU S) xs).map λl=>(.box (l.map (·.1)),l.map (·.2))
  |none=>none
 |c=>match c.cells with
  |some xs=>(fk (rdS S) xs).map λl=>(.val c.isAgg (l.map λ_=>.d),l)
  |none=>none
def IK(S:SS):List SC->Option (List SA×List SE)
 |[]=>some ([],[])
 |c::cs=>match Vy S c with
  |some (a,es)=>(IK S cs).map λp=>(a::p.1,es++p.2)
  |none=>none
def fo:List SB->List Nat
 |[]=>[]
 | .ref r::cs=>r::fo cs
 |_::cs=>fo cs
def qw(S:SS):SC->List Nat
 | .ptr b 0=>fo ((look S.bx b).getD [])
 |_=>[]
def qv(S:SS):List SC->List Nat
 |[]=>[]
 |c::cs=>qw S c++qv S cs
def x_:List SC->List Nat
 |[]=>[]
 |c::cs=>fo (c.cells.getD [])++x_ cs
def oU:List SC->List Nat
 |[]=>[]
 | .ptr b _::cs=>b::oU cs
 |_::cs=>oU cs
section
variable {ρ:List D} {S:SS} {s:St}
theorem Zr(h:Rel ρ S s){x:SB}{v:C}{e:SE}(hv:iV ρ x v)(he:rdS S x=some e):∃y,e.d ρ=some y/\kJ s v=some (.d y):=by
 cases x with
 |d e'=>cases he;obtain⟨y,h1,rfl⟩:=hv;exact⟨y,h1,rfl⟩
 |nil k fl=>cases he;simp only[iV]at hv;subst hv;exact⟨_,rfl,rfl⟩
 |ref r=>
  simp only[iV]at hv;subst hv;obtain⟨x,h1,rfl⟩:=ad.1 he;obtain⟨y,h2,es,h3,rfl⟩:=h.rw r x h1;exact⟨_,h3,by simp only[kJ,h2,aB]⟩
 |any=>cases he
theorem ZV(h:Rel ρ S s){x:SB}{v:C}{p:D5×SE}(hv:iV ρ x v)(he:ZU S x=some p):∃y r,p.2.d ρ=some y/\iK s v=some r/\zY p.1 y=some r:=by
 cases x with
 |d e'=>cases he;obtain⟨y,h1,rfl⟩:=hv;exact⟨y,_,h1,rfl,rfl⟩
 |nil k fl=>cases he;simp only[iV]at hv;subst hv;exact⟨_,_,rfl,rfl,by simp[SK.d,zY]⟩
 |ref r=>
  simp only[iV]at hv;subst hv;obtain⟨x,h1,rfl⟩:=ad.1 he;obtain⟨y,h2,es,h3,rfl⟩:=h.rw r x h1;exact⟨_,.row ⟨es,x.k,x.fl,x.deep,x.app,x.fz⟩,h3,by simp only[iK,h2,aB],by simp[zY]⟩
 |any=>cases he
theorem MH(h:Rel ρ S s):∀{xs:List SB} {vs:List C} {es:List SE},dw ρ xs vs->fk (rdS S) xs=some es->∃ys rs,gU ρ es=some ys/\fk (kJ s) vs=some rs/\lM (es.map λ_=>.d) ys=some rs
 |[],vs,_,hv,he=>by cases he;simp only[dw]at hv;subst hv;exact⟨[],[],rfl,rfl,rfl⟩
 |x::xs,_,es,⟨v,vs,hv,h1,h2⟩,he=>by
  subst hv;simp only[fk]at he
  split at he
  ·rename_i e he1;obtain⟨iY,h3,rfl⟩:=ad.1 he;obtain⟨y,h4,h5⟩:=Zr h h1 he1;obtain⟨ys,rs,h6,h7,h8⟩:=MH h h2 h3;exact⟨y::ys,.d y::rs,by simp only[gU,h4,h6,aB],by simp only[fk,h5,h7,aB],by simp only[aN,lM,zY,h8,aB]⟩
  ·cases he
theorem zu(h:Rel ρ S s):∀{xs:List SB} {vs:List C} {ps:List (D5×SE)},dw ρ xs vs->fk (ZU S) xs=some ps->∃ys rs,gU ρ (ps.map (·.2))=some ys/\fk (iK s) vs=some rs/\lM (ps.map (·.1)) ys=some rs
 |[],vs,_,hv,he=>by cases he;simp only[dw]at hv;subst hv;exact⟨[],[],rfl,rfl,rfl⟩
 |x::xs,_,es,⟨v,vs,hv,h1,h2⟩,he=>by
  subst hv;simp only[fk]at he
  split at he
  ·rename_i p he1;obtain⟨iY,h3,rfl⟩:=ad.1 he;obtain⟨y,r,h4,h5,h5'⟩:=ZV h h1 he1;obtain⟨ys,rs,h6,h7,h8⟩:=zu h h2 h3;exact⟨y::ys,r::rs,by simp only[aN,gU,h4,h6,aB],by simp only[fk,h5,h7,aB],by simp only[aN,lM,h5',h8,aB]⟩
  ·cases he
theorem lO:∀{l:List D5} {xs:List D} {rs:List RV},lM l xs=some rs->xs.length=l.length
 |[],[],_,_=>rfl
 |[],_::_,_,h=>by cases h
 |_::_,[],_,h=>by cases h
 |v::l,x::xs,rs,h=>by
  simp only[lM]at h
  split at h
  ·obtain⟨ys,h1,_⟩:=ad.1 h;simp[lO h1]
  ·cases h
theorem pL{α β:Type}{f:α->Option β}{p:α->Bool}(hf:∀x y,f x=some y->p x=true):∀{xs:List α} {ys:List β},fk f xs=some ys->xs.all p=true
 |[],_,_=>rfl
 |x::xs,_,h=>by
  simp only[fk]at h
  split at h
  ·rename_i y hy;obtain⟨ys,h1,_⟩:=ad.1 h;simp only[bW,hf x y hy,pL hf h1,iL]
  ·cases h
theorem RZ{x:SB}{e:SE}(h:rdS S x=some e):x.cell=true:=by cases x<;>first|rfl|cases h
theorem vM{x:SB}{e:D5×SE}(h:ZU S x=some e):x.cell=true:=by cases x<;>first|rfl|cases h
theorem mc:∀{xs:List SB} {vs:List C},dw ρ xs vs->xs.all SB.cell=true->rowsOf vs=fo xs
 |[],_,h,_=>by simp only[dw]at h;subst h;rfl
 |x::xs,_,⟨v,vs,hv,h1,h2⟩,hc=>by
  subst hv;simp only[bW,ab]at hc;cases x with
  |d e=>obtain⟨y,_,rfl⟩:=h1;simp only[rowsOf,fo];exact mc h2 hc.2
  |nil k fl=>simp only[iV]at h1;subst h1;simp only[rowsOf,fo];exact mc h2 hc.2
  |ref r=>simp only[iV]at h1;subst h1;simp only[rowsOf,fo,mc h2 hc.2]
  |any=>cases hc.1
def O6(c:SC)(v:C):Prop:=(∃b,c=.ptr b 0/\v=.ptr b 0)\/((∀b o,c≠.ptr b o)/\∀b o,v≠.ptr b o)
theorem Vz(h:Rel ρ S s){c:SC}{v:C}{a:SA}{es:List SE}(hv:jQ ρ c v)(ha:Vy S c=some (a,es)) :
  ∃ws r,gU ρ es=some ws/\OF s v=some r/\kZ a ws=some r/\ws.length=a.n/\pM s v=qw S c/\rowsOf v.cells=fo (c.cells.getD [])/\O6 c v:=by
 have val:∀{xs:List SB} {l:List SE},c.cells=some xs->fk (rdS S) xs=some l->a=.val c.isAgg (l.map λ_=>.d)->es=l->(∀b o,c≠.ptr b o)->
   ∃ws r,gU ρ es=some ws/\OF s v=some r/\kZ a ws=some r/\ws.length=a.n/\pM s v=qw S c/\rowsOf v.cells=fo (c.cells.getD [])/\O6 c v:=by
  rintro xs l hc hl rfl rfl hn
  have jU:=pL (λ_ _=>RZ) hl;have hr:=hv.cells hc jU;obtain⟨ys,rs,h1,h2,h3⟩:=MH h hr hl;have QS:∀b o,v≠.ptr b o:=by
   rintro b o rfl
   cases c with
   |b x=>
    cases hc;have:=iV.cell hv (by simpa using jU);cases this
   |agg ys=>obtain⟨cs,h4,_⟩:=hv;cases h4
   |ptr b o=>exact hn b o rfl
   |oK _=>cases hc
   |na _ _ _ _=>cases hc
   |qN _ _=>cases hc
   |any=>cases hc
  have sQ:v.isAgg=c.isAgg:=by
   cases c with
   |b x=>
    cases hc;have:=iV.cell hv (by simpa using jU);cases v<;>first|rfl|cases this
   |agg ys=>obtain⟨cs,rfl,_⟩:=hv;rfl
   |ptr b o=>exact absurd rfl (hn b o)
   |oK _=>cases hc
   |na _ _ _ _=>cases hc
   |qN _ _=>cases hc
   |any=>cases hc
  refine⟨ys,.val v.isAgg rs,h1,?_,by rw[sQ];simp only[kZ,h3,aB],by rw[lO h3];rfl,?_,?_,.inr ⟨hn,QS⟩⟩
  ·unfold OF;split
   ·exact absurd rfl (QS _ _)
   ·simp only[h2,aB]
  ·have:pM s v=[]:=by
    unfold pM;split
    ·exact absurd rfl (QS _ _)
    ·rfl
   rw[this];unfold qw;split
   ·exact absurd rfl (hn _ _)
   ·rfl
  ·rw[hc,mc hr jU];rfl
 have box:∀{b:Nat} {xs:List SB} {l:List (D5×SE)},c=.ptr b 0->look S.bx b=some xs->fk (ZU S) xs=some l->a=.box (l.map (·.1))->es=l.map (·.2)->
   ∃ws r,gU ρ es=some ws/\OF s v=some r/\kZ a ws=some r/\ws.length=a.n/\pM s v=qw S c/\rowsOf v.cells=fo (c.cells.getD [])/\O6 c v:=by
  rintro b xs l rfl hl h1 rfl rfl
  simp only[jQ]at hv;subst hv;obtain⟨cs,h3,h4⟩:=h.bx b xs hl;obtain⟨ys,rs,h5,h6,h7⟩:=zu h h4 h1;refine⟨ys,.box rs,h5,by simp only[OF,h3,h6,aB],by simp only[kZ,h7,aB],by rw[lO h7];rfl,?_,rfl,.inl ⟨b,rfl,rfl⟩⟩;have:=mc h4 (pL (p:=SB.cell) (λ_ _=>vM) h1);simp only[pM,qw,h3,hl,mK,this]
 have OJ:(∀b o,c≠.ptr b o)->(match c.cells with
  |some xs=>(fk (rdS S) xs).map λl=>(SA.val c.isAgg (l.map λ_=>D5.d),l)
  |none=>none)=some (a,es)->∃ws r,gU ρ es=some ws/\OF s v=some r/\kZ a ws=some r/\ws.length=a.n/\pM s v=qw S c/\rowsOf v.cells=fo (c.cells.getD [])/\O6 c v:=by
  intro hn ha;rcases hc:c.cells with _|xs
  ·rw[hc]at ha;cases ha
  ·have LL:=ha;rw[hc]at LL;obtain⟨l,h1,h2⟩:=ad.1 LL;simp only[ao]at h2;have:=val hc h1 h2.1.symm h2.2.symm hn;rw[hc]at this;exact this
 cases c with
 |ptr b o=>
  cases o with
  |zero=>
   rcases hl:look S.bx b with _|xs
   ·simp only[Vy,hl]at ha;cases ha
   ·simp only[Vy,hl]at ha;obtain⟨l,h1,h2⟩:=ad.1 ha;simp only[ao]at h2;have:=box rfl hl h1 h2.1.symm h2.2.symm;exact this
  |succ o=>cases ha
 |b x=>exact OJ (λ_ _ h=>by cases h) ha
 |agg x=>exact OJ (λ_ _ h=>by cases h) ha
 |oK x=>exact OJ (λ_ _ h=>by cases h) ha
 |na _ _ _ _=>exact OJ (λ_ _ h=>by cases h) ha
 |qN _ _=>exact OJ (λ_ _ h=>by cases h) ha
 |any=>exact OJ (λ_ _ h=>by cases h) ha
def La:List SC->List C->Prop
 |[],vs=>vs=[]
 |c::cs,vs=>∃v eb,vs=v::eb/\O6 c v/\La cs eb
theorem take_left'{α:Type}{a b:List α}{n:Nat}(h:a.length=n):(a++b).take n=a:=by subst h;exact l8
theorem drop_left'{α:Type}{a b:List α}{n:Nat}(h:a.length=n):(a++b).drop n=b:=by subst h;exact List.drop_left
theorem IL(h:Rel ρ S s):∀{cs:List SC} {vs:List C} {as:List SA} {es:List SE},D4 ρ cs vs->IK S cs=some (as,es)->
  ∃ws rs,gU ρ es=some ws/\vI s vs=some rs/\fZ as ws=some rs/\cH s vs=qv S cs/\hH vs=x_ cs/\cd vs=oU cs/\La cs vs
 |[],_,_,_,hv,ha=>by
  simp only[D4]at hv;subst hv;cases ha;exact⟨[],[],rfl,rfl,rfl,rfl,rfl,rfl,rfl⟩
 |c::cs,_,as,es,⟨v,vs,hv,h1,h2⟩,ha=>by
  subst hv;simp only[IK]at ha
  split at ha
  ·rename_i a Hm h3;obtain⟨p,h4,h5⟩:=ad.1 ha;obtain⟨Lc,es2⟩:=p;simp only[ao]at h5;obtain⟨rfl,rfl⟩:=h5;obtain⟨ws,r,q1,q2,q3,q4,q5,q6,q7⟩:=Vz h h1 h3;obtain⟨ws',rs,w1,w2,w3,w4,w5,w6,w7⟩:=IL h h2 h4;refine⟨ws++ws',r::rs,oB q1 w1,by simp only[vI,q2,w2,aB],?_,by simp only[cH,qv,q5,w4],by simp only[hH,x_,q6,w5],?_,v,vs,rfl,q7,w7⟩
   ·simp only[fZ,take_left' q4,drop_left' q4,q3,w3,aB]
   ·rcases q7 with ⟨b,rfl,rfl⟩|⟨n1,n2⟩
    ·simp only[cd,oU,w6]
    ·have e1:oU (c::cs)=oU cs:=by
      cases c<;>first|rfl|exact absurd rfl (n1 _ _)
     have e2:cd (v::vs)=cd vs:=by
      cases v<;>first|rfl|exact absurd rfl (n2 _ _)
     rw[e1,e2,w6]
  ·cases ha
def Loc(ρ:List D)(c:Nat)(us:List D):Prop:=∀i x,nth us i=some x->nth ρ (c+i)=some x
theorem Loc.tail{c:Nat}{x:D}{us:List D}(h:Loc ρ c (x::us)):Loc ρ (c+1) us:=λi y hy=>by
 have:=h (i+1) y hy;rw[dv,Nat.add_comm 1 i];exact this
theorem Loc.drop:∀{us:List D} {c:Nat} (n:Nat),Loc ρ c us->Loc ρ (c+n) (us.drop n)
 |us,c,0,h=>h
 |[],c,n+1,h=>λi y hy=>by cases hy
 |x::us,c,n+1,h=>by
  have:=Loc.drop n h.tail;rw[dv,Nat.add_comm 1 n]at this;exact this
theorem Is{α:Type}:∀{us:List α} {n i:Nat} {x:α},nth (us.take n) i=some x->nth us i=some x
 |[],n,i,x,h=>by simp[nth]at h
 |y::us,0,i,x,h=>by simp[nth]at h
 |y::us,n+1,0,x,h=>h
 |y::us,n+1,i+1,x,h=>Is (us:=us) h
theorem Loc.take{us:List D}{c:Nat}(n:Nat)(h:Loc ρ c us):Loc ρ c (us.take n):=λi x hx=>h i x (Is hx)
theorem Loc.new(us:List D):Loc (ρ++us) ρ.length us:=by
 intro i x hx
 induction ρ with
 |nil=>simpa using hx
 |cons y ρ ih=>rw[aE,Nat.add_right_comm];exact ih
def J5(d:Nat):Nat->List D5->Nat->SS->List SB×SS
 |_,[],_,S=>([],S)
 |j,.d::l,c,S=>match J5 d (j+1) l (c+1) S with
  |(xs,S')=>(.d (.v c)::xs,S')
 |j,.row k fl deep app fz::l,c,S=>match J5 d (j+1) l (c+1) (S.newRow (tw d j) ⟨.v c,k,fl,deep,app,fz⟩) with
  |(xs,S')=>(.ref (tw d j)::xs,S')
theorem wL{d:Nat}:∀{l:List D5} {j c:Nat} {S S':SS} {s:St} {us:List D} {vs:List RV} {xs:List SB},Rel ρ S s->lM l us=some vs->Loc ρ c us->J5 d j l c S=(xs,S')->
  ∃cs s',dV d j vs s=(cs,s')/\Rel ρ S' s'/\dw ρ xs cs
 |[],j,c,S,S',s,[],vs,xs,h,he,hl,hi=>by
  cases he;cases hi;exact⟨[],s,rfl,h,rfl⟩
 |[],_,_,_,_,_,_::_,_,_,_,he,_,_=>by cases he
 |_::_,_,_,_,_,_,[],_,_,_,he,_,_=>by cases he
 |v::l,j,c,S,S',s,u::us,vs,xs,h,he,hl,hi=>by
  simp only[lM]at he
  split at he
  ·rename_i r hr;obtain⟨eb,h1,rfl⟩:=ad.1 he;have hc:=hl 0 u rfl;cases v with
   |d=>
    cases hr;simp only[J5]at hi;generalize hq:J5 d (j+1) l (c+1) S=q at hi;obtain⟨ys,S1⟩:=q;cases hi;obtain⟨cs,s',w1,w2,w3⟩:=wL h h1 hl.tail hq;exact⟨.d u::cs,s',by simp only[dV,w1],w2,_,_,rfl,⟨u,hc,rfl⟩,w3⟩
   |row k fl deep app fz=>
    cases u with
    |list k' sO es=>
     simp only[zY]at hr
     split at hr
     ·rename_i hk;obtain⟨rfl,rfl⟩:=hk;cases hr;simp only[J5]at hi;generalize hq:J5 d (j+1) l (c+1) _=q at hi;obtain⟨ys,S1⟩:=q;cases hi;obtain⟨cs,s',w1,w2,w3⟩:=wL (h.newRow (tw d j) (x:=⟨.v c,k',sO,deep,app,fz⟩) (y:=⟨es,k',sO,deep,app,fz⟩) ⟨es,hc,rfl⟩) h1 hl.tail hq;exact⟨.ref (tw d j)::cs,s',by simp only[dV,w1],w2,_,_,rfl,rfl,w3⟩
     ·cases hr
    |_=>cases hr
  ·cases he
def uF:SS->List SC->List SA->Nat->Option SS
 |S,[],_,_=>some S
 |S,.ptr b 0::cs,.box l::outs,c=>match J5 (b+500) 0 l c S with
  |(xs,S')=>uF (S'.eN b xs) cs outs (c+l.length)
 |S,.ptr _ _::_,_,_=>none
 |S,_::cs,outs,c=>uF S cs outs c
def Vm(d:Nat):Nat->List SA->Nat->SS->Option (List (SB ⊕ List SB)×SS)
 |_,[],_,S=>some ([],S)
 |q,.val ag l::rs,c,S=>match J5 d (30 * q) l c S with
  |(xs,S1)=>match Vm d (q+1) rs (c+l.length) S1 with
   |some (ms,S2)=>if ag=true then some (.inr xs::ms,S2) else match xs with
    |[x]=>some (.inl x::ms,S2)
    |_=>none
   |none=>none
 |_,.box _::_,_,_=>none
theorem gD{a:SA}{as:List SA}{us:List D}{rs:List A}(h:fZ (a::as) us=some rs):∃r Cx,kZ a (us.take a.n)=some r/\fZ as (us.drop a.n)=some Cx/\rs=r::Cx:=by
 simp only[fZ]at h
 split at h
 ·rename_i r hr;obtain⟨Cx,h1,rfl⟩:=ad.1 h;exact⟨r,Cx,hr,h1,rfl⟩
 ·cases h
theorem MK{d:Nat}:∀{l:List SA} {q c:Nat} {S S':SS} {s:St} {us:List D} {rs:List A} {ms:List (SB ⊕ List SB)},Rel ρ S s->fZ l us=some rs->Loc ρ c us->Vm d q l c S=some (ms,S')->
  ∃cs s',ft d q rs s=(cs,s')/\Rel ρ S' s'/\rB ρ ms cs
 |[],q,c,S,S',s,us,rs,ms,h,he,hl,hi=>by
  cases us with
  |nil=>
   cases he;cases hi;exact⟨[],s,rfl,h,rfl⟩
  |cons u us=>cases he
 | .box _::_,_,_,_,_,_,_,_,_,_,_,_,hi=>by cases hi
 | .val ag l::as,q,c,S,S',s,us,rs,ms,h,he,hl,hi=>by
  obtain⟨r,Cx,h1,h2,rfl⟩:=gD he;simp only[kZ]at h1;obtain⟨vs,h3,rfl⟩:=ad.1 h1;simp only[Vm]at hi;generalize hq:J5 d (30 * q) l c S=p at hi;obtain⟨xs,S1⟩:=p;simp only at hi
  obtain⟨cs,s1,w1,w2,w3⟩:=wL h h3 (hl.take _) hq
  split at hi
  ·rename_i ms' S2 hr;obtain⟨iA,s2,v1,v2,v3⟩:=MK w2 h2 (hl.drop _) hr;refine⟨_,s2,by simp only[ft,w1,v1];rfl,?_⟩
   split at hi
   ·rename_i sQ;cases hi;subst sQ;exact⟨v2,cs,iA,rfl,w3,v3⟩
   ·rename_i sQ
    split at hi
    ·cases hi;obtain⟨c0,cs0,rfl,u1,u2⟩:=w3;have:ag=false:=by simpa using sQ
     subst this;exact⟨v2,c0,iA,rfl,u1,v3⟩
    ·cases hi
  ·cases hi
theorem xE:∀{cs:List SC} {vs:List C} {l:List SA} {c:Nat} {S S':SS} {s:St} {us:List D} {outs:List A},Rel ρ S s->La cs vs->fZ l us=some outs->Loc ρ c us->uF S cs l c=some S'->Rel ρ S' (jM s vs outs)
 |[],vs,l,c,S,S',s,us,outs,h,ha,he,hl,hw=>by
  simp only[La]at ha;subst ha;cases hw;exact h
 |x::cs,_,l,c,S,S',s,us,outs,h,⟨v,vs,hv,h1,h2⟩,he,hl,hw=>by
  subst hv;rcases h1 with ⟨b,rfl,rfl⟩|⟨n1,n2⟩
  ·cases l with
   |nil=>cases hw
   |cons a l=>
    cases a with
    |val ag l=>cases hw
    |box l0=>
     obtain⟨r,Cx,h3,h4,rfl⟩:=gD he;simp only[kZ]at h3;obtain⟨ws,h5,rfl⟩:=ad.1 h3;simp only[uF]at hw;generalize hq:J5 (b+500) 0 l0 c S=p at hw;obtain⟨xs,S1⟩:=p;simp only at hw
     obtain⟨iA,s1,w1,w2,w3⟩:=wL h h5 (hl.take _) hq;simp only[jM,w1];exact xE (w2.eN b w3) h2 h4 (hl.drop _) hw
  ·have e1:uF S (x::cs) l c=uF S cs l c:=by
    cases x<;>first|rfl|exact absurd rfl (n1 _ _)
   have e2:jM s (v::vs) outs=jM s vs outs:=by
    cases v<;>first|rfl|exact absurd rfl (n2 _ _)
   rw[e1]at hw;rw[e2];exact xE h h2 he hl hw
def SR.share(r:SR):SR:={r with fz:=true,deep:=r.fl }
def mV(S:SS):List Nat->Option SS
 |[]=>some S
 |r::rs=>match look S.rw r with
  |some x=>mV (S.setRow r x.share) rs
  |none=>none
theorem nE:∀{rs:List Nat} {S S':SS} {s:St},Rel ρ S s->mV S rs=some S'->Rel ρ S' (dJ s rs)
 |[],S,S',s,h,hs=>by cases hs;exact h
 |r::rs,S,S',s,h,hs=>by
  simp only[mV]at hs
  split at hs
  ·rename_i x hx;obtain⟨y,h1,es,h2,rfl⟩:=h.rw r x hx;simp only[dJ,h1];exact nE (h.setRow r (x:=x.share) (y:=Row.share _) ⟨es,h2,rfl⟩) hs
  ·cases hs
def wh(S:SS):List Nat->SS
 |[]=>S
 |r::rs=>wh (S.cM r) rs
def tP(S:SS):List Nat->SS
 |[]=>S
 |b::bs=>tP {S with bx:=po S.bx b } bs
theorem uY:∀{rs:List Nat} {S:SS} {s:St},Rel ρ S s->Rel ρ (wh S rs) (eu s rs)
 |[],_,_,h=>h
 |r::rs,_,_,h=>uY (rs:=rs) (h.cM r)
theorem tC:∀{bs:List Nat} {S:SS} {s:St},Rel ρ S s->Rel ρ (tP S bs) (ek s bs)
 |[],_,_,h=>h
 |b::bs,S,s,h=>by
  refine tC (bs:=bs) (S:={S with bx:=po S.bx b }) (s:={s with bx:=po s.bx b }) ⟨h.sl,λe xs hl=>?_,h.rw⟩;simp only[dM]at hl ⊢
  split at hl
  ·cases hl
  ·rename_i he;rw[if_neg he];exact h.bx e xs hl
end
end
section
def Ee:Nat->List D5->Bool×List SE
 |_,[]=>(true,[])
 |c,.d::l=>match Ee (c+1) l with
  |(b,pl)=>(b,.v c::pl)
 |c,.row _ _ deep _ _::l=>match Ee (c+1) l with
  |(b,pl)=>(deep && b,pl)
def GX:Nat->List SA->Bool×List SE
 |_,[]=>(true,[])
 |c,a::as=>match Ee c a.l with
  |(b,pl)=>match GX (c+a.n) as with
   |(b',pl')=>(b && b',pl++pl')
def FW:List SA->Bool
 |[]=>true
 | .val _ l::as=>ny l.length 30 && FW as
 | .box _::_=>false
def Vs(hint:List Nat)(d:Nat)(Rs:List Nat)(b:Bool)(pl:List SE):Bs×Bool:=
 if Rs=[] then ([],false) else if b=false then ([],true) else match pl with
  |[]=>([],false)
  |pl=>if hint.contains (1000 * d+pl.length) then ([(.yb,pl)],true) else ([(.pl,pl)],false)
def YO:List (SB ⊕ List SB)->SC
 |[.inl x]=>.b x
 |[.inr xs]=>.agg xs
 |ms=>.oK ms
def MF(l:List C):C:=match l with|[c]=>c|l=>.oK l
def BR(hint:List Nat)(S:SS)(cs:List SC)(d:Option Nat)(n:Nat)(v:List SA×List SA):Option (Bs×SS):=
 if FW v.1=true then
  match GX n v.1,GX (n+uV v.1) v.2 with
  |(b1,DL),(b2,GA)=>match Vs hint (d.getD 0) (x_ cs) (b1 && b2) (DL++GA) with
   |(bs,shr)=>match (if shr=true then mV S (x_ cs) else some S) with
    |some S0=>match uF (tP (wh S0 (qv S cs)) (oU cs)) cs v.2 (n+uV v.1) with
     |some S2=>match Vm (d.getD 0) 0 v.1 n S2 with
      |some (ms,S3)=>some (bs,S3.put d ⟨[],YO ms⟩)
      |none=>none
     |none=>none
    |none=>none
 else none
section
variable {ρ gy:List D} {S S':SS} {s:St}
theorem yN:∀{l:List D5} {c:Nat} {us:List D} {vs:List RV} {b:Bool} {pl:List SE},lM l us=some vs->Loc ρ c us->Ee c l=(b,pl)->∃ps,gU ρ pl=some ps/\vs.all RV.closed=(b && cQ ps)
 |[],_,[],_,_,_,he,_,hc=>by cases he;cases hc;exact⟨[],rfl,rfl⟩
 |[],_,_::_,_,_,_,he,_,_=>by cases he
 |_::_,_,[],_,_,_,he,_,_=>by cases he
 |v::l,c,u::us,vs,b,pl,he,hl,hc=>by
  simp only[lM]at he
  split at he
  ·rename_i r hr;obtain⟨eb,h1,rfl⟩:=ad.1 he;have hu:nth ρ c=some u:=hl 0 u rfl;cases v with
   |d=>
    cases hr;simp only[Ee]at hc;generalize hq:Ee (c+1) l=q at hc;obtain⟨b',pl'⟩:=q;cases hc;obtain⟨ps,g1,g2⟩:=yN h1 hl.tail hq;refine⟨u::ps,by simp only[gU,SE.d,hu,g1,aB],?_⟩;rw[bW,g2,mC];simp only[RV.closed];cases D.plain u<;>cases b'<;>simp
   |row k fl deep app fz=>
    simp only[Ee]at hc;generalize hq:Ee (c+1) l=q at hc;obtain⟨b',pl'⟩:=q;cases hc;obtain⟨ps,g1,g2⟩:=yN h1 hl.tail hq;refine⟨ps,g1,?_⟩;cases u with
    |list k' sO es=>
     simp only[zY]at hr
     split at hr
     ·cases hr;rw[bW,g2];simp only[RV.closed,fW]
     ·cases hr
    |_=>cases hr
  ·cases he
theorem Ed:∀{l:List SA} {c:Nat} {us:List D} {rs:List A} {b:Bool} {pl:List SE},fZ l us=some rs->Loc ρ c us->GX c l=(b,pl)->∃ps,gU ρ pl=some ps/\rs.all A.closed=(b && cQ ps)
 |[],_,[],_,_,_,he,_,hc=>by cases he;cases hc;exact⟨[],rfl,rfl⟩
 |[],_,_::_,_,_,_,he,_,_=>by cases he
 |a::as,c,us,rs,b,pl,he,hl,hc=>by
  obtain⟨r,Cx,h1,h2,rfl⟩:=gD he;simp only[GX]at hc;generalize hq:Ee c a.l=q at hc;obtain⟨b1,DL⟩:=q;simp only at hc
  generalize XZ:GX (c+a.n) as=q at hc;obtain⟨b2,GA⟩:=q;cases hc;obtain⟨ps2,g3,g4⟩:=Ed h2 (hl.drop _) XZ;have:∃ps,gU ρ DL=some ps/\A.closed r=(b1 && cQ ps):=by
   cases a with
   |val ag l=>
    simp only[kZ]at h1;obtain⟨vs,h3,rfl⟩:=ad.1 h1;obtain⟨ps,q1,q2⟩:=yN h3 (hl.take _) hq;exact⟨ps,q1,q2⟩
   |box l=>
    simp only[kZ]at h1;obtain⟨vs,h3,rfl⟩:=ad.1 h1;obtain⟨ps,q1,q2⟩:=yN h3 (hl.take _) hq;exact⟨ps,q1,q2⟩
  obtain⟨ps,g1,g2⟩:=this;refine⟨ps++ps2,oB g1 g3,?_⟩;rw[bW,g2,g4,uz];cases b1<;>cases b2<;>simp
theorem DT:∀{l:List SA} {us:List D} {rs:List A},fZ l us=some rs->FW l=true->rs.all A.short=true
 |[],[],_,he,_=>by cases he;rfl
 |[],_::_,_,he,_=>by cases he
 | .box _::_,_,_,_,h=>by cases h
 | .val ag l::as,us,rs,he,h=>by
  obtain⟨r,Cx,h1,h2,rfl⟩:=gD he;simp only[FW,ab]at h;simp only[kZ]at h1;obtain⟨vs,h3,rfl⟩:=ad.1 h1;have hl:vs.length=l.length:=by
   clear h h1 he h2;generalize us.take (SA.val ag l).n=xs at h3
   induction l generalizing xs vs with
   |nil=>cases xs<;>cases h3;rfl
   |cons v l ih=>
    cases xs with
    |nil=>cases h3
    |cons x xs=>
     simp only[lM]at h3
     split at h3
     ·obtain⟨ys,q1,rfl⟩:=ad.1 h3;simp[ih _ _ q1]
     ·cases h3
  rw[bW,DT h2 h.2,fj];simp only[A.short,hl,h.1]
theorem Vt{hint:List Nat}{d:Nat}{Rs:List Nat}{b shr:Bool}{pl:List SE}{bs:Bs}{ps τ:List D}(hs:Vs hint d Rs b pl=(bs,shr))(hb:jm ρ bs=some (ρ++τ))(hp:gU ρ pl=some ps)(h:Rel ρ S s){S0:SS}(h0:(if shr=true then mV S Rs else some S)=some S0) :
  Rel ρ S0 (if (b && cQ ps)=true then s else dJ s Rs):=by
 unfold Vs at hs
 split at hs
 ·rename_i hl;subst hl;cases hs;cases h0;split
  ·exact h
  ·exact h
 ·split at hs
  ·rename_i hb0;cases hs;subst hb0;simp only[df,au,if_false];exact nE h h0
  ·rename_i kU;have kU:b=true:=by simpa using kU
   subst kU
   split at hs
   ·cases hs;cases hp;cases h0;exact h
   ·split at hs
    ·cases hs;obtain⟨xs,x,h1,h2,h3⟩:=dH hb;rw[hp]at h1;cases h1;simp only[aK]at h2
     split at h2
     ·cases h2
     ·rename_i hn;have hn:cQ ps=false:=by simpa using hn
      rw[hn];simp only[iU,au,if_false];exact nE h h0
    ·cases hs;obtain⟨xs,x,h1,h2,h3⟩:=dH hb;rw[hp]at h1;cases h1;simp only[aK]at h2
     split at h2
     ·rename_i hn;rw[hn];cases h0;exact h
     ·cases h2
theorem Vf{ms:List (SB ⊕ List SB)}{cs:List C}(h:rB ρ ms cs):jQ ρ (YO ms) (MF cs):=by
 unfold YO;split
 ·obtain⟨c,iA,rfl,h1,h2⟩:=h;simp only[rB]at h2;subst h2;exact h1
 ·obtain⟨ds,iA,rfl,h1,h2⟩:=h;simp only[rB]at h2;subst h2;exact⟨ds,rfl,h1⟩
 ·rename_i n1 n2;have:MF cs=.oK cs:=by
   unfold MF;split
   ·rename_i c;cases ms with
    |nil=>simp only[rB]at h;cases h
    |cons m ms=>
     cases m with
     |inl x=>
      obtain⟨c,iA,e,h1,h2⟩:=h;cases e;cases ms with
      |nil=>exact absurd rfl (n1 x)
      |cons m ms=>cases m<;>(obtain⟨_,_,e,_⟩:=h2;cases e)
     |inr x=>
      obtain⟨c,iA,e,h1,h2⟩:=h;cases e;cases ms with
      |nil=>exact absurd rfl (n2 x)
      |cons m ms=>cases m<;>(obtain⟨_,_,e,_⟩:=h2;cases e)
   ·rfl
  rw[this];exact⟨cs,rfl,h⟩
theorem Kx{cf:Cf}{mf:Mf}{jA:List (Nat×lI)}{G:Gf}(hG:TC cf jA G)(h:Rel ρ S s){kn:Gs}(hk:gQ ρ kn=some true){hint:List Nat}{n:Nat}(hn:n=ρ.length){d:Option Nat}{f:Nat}{xs:List KX}{cs:List SC}{es:List SE}{i:Nat}{sg:lI}
  (hx:DX S kn xs=some cs) (ha:IK S cs=some (sg.args,es)) (hi:look jA i=some sg) (hf:sg.f=f) (hd:(iR (qv S cs) && iR (oU cs) && (qv S cs).all (λr=>!(x_ cs).contains r))=true)
  {ws us:List D} {j:Nat} (hw:gU ρ es=some ws) (hg:G i ws=some (j,us)) {v:List SA×List SA} (hv:nth sg.res j=some v) {bs:Bs} (hr:BR hint S cs d n v=some (bs,S')) (hb:jm (ρ++us) bs=some gy) :
  ∃s',kc cf mf s d (.call f xs)=some s'/\Rel gy S' s':=by
 obtain⟨ws',as,q1,q2,q3,q4,q5,q6,q7⟩:=IL h (xA h hk hx) ha;rw[hw]at q1;cases q1;obtain⟨Lc,r,v',w1,w2,w3,w4⟩:=hG i sg hi ws j us hg;rw[q3]at w1;cases w1;rw[hv]at w2;cases w2;rw[hf]at w4;obtain⟨rs,outs⟩:=r;unfold u5 at w3
 split at w3
 ·rename_i Cx outs' e1 e2;cases w3;unfold BR at hr
  split at hr
  ·rename_i hsh;generalize kl:GX n v.1=p1 at hr;generalize nR:GX (n+uV v.1) v.2=p2 at hr;obtain⟨b1,DL⟩:=p1;obtain⟨b2,GA⟩:=p2;simp only at hr
   generalize X3:Vs hint (d.getD 0) (x_ cs) (b1 && b2) (DL++GA)=p3 at hr;obtain⟨bs',shr⟩:=p3;simp only at hr
   split at hr
   ·rename_i S0 hS0
    split at hr
    ·rename_i S2 hS2
     split at hr
     ·rename_i ms S3 hS3;cases hr;have Ug:Loc (ρ++us) n us:=by rw[hn];exact Loc.new us
      obtain⟨ps1,t1,t2⟩:=Ed e1 (Ug.take _) kl;obtain⟨ps2,t3,t4⟩:=Ed e2 (Ug.drop _) nR;obtain⟨τ,Q0⟩:=nV hb;subst Q0;have hR0:=Vt X3 hb (oB t1 t3) (h.mono us) hS0;have rk:(b1 && b2 && cQ (ps1++ps2))=(rs.all A.closed && outs.all A.closed):=by
       rw[t2,t4,uz];cases b1<;>cases b2<;>simp
      rw[rk]at hR0;have hR1:=tC (bs:=oU cs) (uY (rs:=qv S cs) hR0);have hR2:=xE hR1 q7 e2 (Ug.drop _) hS2;obtain⟨l,s4,u1,u2,u3⟩:=MK hR2 e1 (Ug.take _) hS3;refine⟨s4.put d (MF l),?_,(u2.put d (pU.nil (Vf u3))).mono τ⟩;simp only[kc,tR,q2,q4,q5,q6,hd,w4,if_true,DT e1 hsh,u1];rfl
     ·cases hr
    ·cases hr
   ·cases hr
  ·cases hr
 ·cases w3
end
end
section
abbrev SX:=Option (Option Nat)
def Nq:SX->Ex
 |none=>.norm
 |some none=>.ret
 |some (some i)=>.exit i
structure SO where
 x:SX
 S:SS
 m:Nat
 deriving DecidableEq
def Ch(o:SO):List SO->Nat×List SO
 |[]=>(0,[o])
 |p::ps=>if o=p then (0,p::ps) else match Ch o ps with
  |(j,qs)=>(j+1,p::qs)
def m_:List SO->List SO->List Nat×List SO
 |[],acc=>([],acc)
 |o::os,acc=>match Ch o acc with
  |(j,jR)=>match m_ os jR with
   |(js,aap)=>(j::js,aap)
def Ig(f:List Nat)(t:ST):ST:=if f=bE f.length then t else .map f t
def A9(x:SX)(kn:Gs)(S:SS):ST×List SO:=match Na kn S with
 |(S',es)=>(.leaf 0 es,[⟨x,S',es.length⟩])
def TW(k:(List SA×List SA)->Option (ST×List SO)):List (List SA×List SA)->List SO->Option (ST×List SO)
 |[],acc=>some (.nil,acc)
 |v::vs,acc=>match k v with
  |some (t,os)=>match m_ os acc with
   |(f,Jn)=>match TW k vs Jn with
    |some (ts,M5)=>some (.cons (Ig f t) ts,M5)
    |none=>none
  |none=>none
def Bv(gs:Gs):Bs->ST->ST
 |[],t=>t
 |(o,es)::bs,t=>.op gs o es (Bv gs bs t)
def IX:SG:=⟨[(.k (.bool false),true)],.any⟩
def Fits(G:Gf)(t:ST)(outs:List SO)(ρ:List D)(run:Option (Ex×St)):Prop:=
 ∀j σ,dL G t 0 ρ=some (j,σ)->∃o s',nth outs j=some o/\run=some (Nq o.x,s')/\σ.length=o.m/\Rel σ o.S s'
theorem yK(o:SO):∀{l l':List SO} {j:Nat},Ch o l=(j,l')->nth l' j=some o/\∀i x,nth l i=some x->nth l' i=some x
 |[],l',j,h=>by cases h;exact⟨rfl,λi x hx=>by cases hx⟩
 |p::ps,l',j,h=>by
  simp only[Ch]at h
  split at h
  ·rename_i he;cases h;subst he;exact⟨rfl,λ_ _ hx=>hx⟩
  ·generalize hq:Ch o ps=q at h;obtain⟨j',qs⟩:=q;cases h;obtain⟨h1,h2⟩:=yK o hq;refine⟨h1,λi x hx=>?_⟩;cases i with
   |zero=>exact hx
   |succ i=>exact h2 i x hx
theorem nG:∀{os acc jR:List SO} {js:List Nat},m_ os acc=(js,jR)->(∀i o,nth os i=some o->∃j,nth js i=some j/\nth jR j=some o)/\∀i x,nth acc i=some x->nth jR i=some x
 |[],acc,jR,js,h=>by cases h;exact⟨λi o ho=>(by cases ho),λ_ _ hx=>hx⟩
 |o::os,acc,jR,js,h=>by
  simp only[m_]at h;generalize hq:Ch o acc=q at h;obtain⟨j,Jn⟩:=q;simp only at h
  generalize XZ:m_ os Jn=q at h;obtain⟨js',M5⟩:=q;cases h;obtain⟨h1,h2⟩:=yK o hq;obtain⟨h3,h4⟩:=nG XZ;refine⟨λi p hp=>?_,λi x hx=>h4 i x (h2 i x hx)⟩;cases i with
  |zero=>
   cases hp;exact⟨j,rfl,h4 j _ h1⟩
  |succ i=>exact h3 i p hp
theorem Oi:∀{n i:Nat},i < n->nth (bE n) i=some i:=by
 intro n i h;rw[cV];simp[h]
theorem xi{α:Type}:∀{l:List α} {i:Nat} {x:α},nth l i=some x->i < l.length
 |_::_,0,_,_=>by simp
 |_::l,i+1,x,h=>by simpa using xi (l:=l) h
 |[],_,_,h=>by simp[nth]at h
section
variable {G:Gf} {ρ:List D} {run:Option (Ex×St)}
theorem Fits.map{t:ST}{outs outs':List SO}{f:List Nat}(h:Fits G t outs ρ run)(hf:∀i o,nth outs i=some o->∃j,nth f i=some j/\nth outs' j=some o):Fits G (Ig f t) outs' ρ run:=by
 intro j σ hd;unfold Ig at hd
 split at hd
 ·rename_i hr;obtain⟨o,s',h1,h2,h3,h4⟩:=h j σ hd;obtain⟨j',q1,q2⟩:=hf j o h1;have hb:=xi q1;rw[hr,Oi hb]at q1;cases q1;exact⟨o,s',q2,h2,h3,h4⟩
 ·simp only[dL]at hd
  split at hd
  ·rename_i j0 σ0 h0;obtain⟨j1,h1,h2⟩:=ad.1 hd;simp only[ao]at h2;obtain⟨rfl,rfl⟩:=h2;obtain⟨o,s',g1,g2,g3,g4⟩:=h j0 σ0 h0;obtain⟨j',q1,q2⟩:=hf j0 o g1;rw[h1]at q1;cases q1;exact⟨o,s',q2,g2,g3,g4⟩
  ·cases hd
theorem Fits.more{t:ST}{outs outs':List SO}(h:Fits G t outs ρ run)(hf:∀i o,nth outs i=some o->nth outs' i=some o):Fits G t outs' ρ run:=λj σ hd=>by
 obtain⟨o,s',h1,h2⟩:=h j σ hd;exact⟨o,s',hf j o h1,h2⟩
theorem sb{x:SX}{kn:Gs}{S:SS}{s:St}{t:ST}{outs:List SO}(h:Rel ρ S s)(hk:gQ ρ kn=some true)(hl:A9 x kn S=(t,outs)):Fits G t outs ρ (some (Nq x,s)):=by
 intro j σ hd;unfold A9 at hl;generalize hq:Na kn S=q at hl;obtain⟨S',es⟩:=q;cases hl;simp only[dL]at hd
 split at hd
 ·rename_i xs hx;cases hd;exact⟨_,s,rfl,rfl,jr hx,Li h hk hq hx⟩
 ·cases hd
theorem zj{gs:Gs}:∀{bs:Bs} {t:ST} {ρ:List D} {r:Nat×List D} {b:Bool},gQ ρ gs=some b->dL G (Bv gs bs t) 0 ρ=some r->∃τ,τ.length=bs.length/\dL G t 0 (ρ++τ)=some r/\(b=true->jm ρ bs=some (ρ++τ))
 |[],t,ρ,r,b,hg,h=>⟨[],rfl,by rw[aD];exact h,λ_=>by simp[jm]⟩
 |(o,es)::bs,t,ρ,r,b,hg,h=>by
  simp only[Bv,dL,hg]at h;cases b with
  |true=>
   simp only at h
   split at h
   ·rename_i xs hx
    split at h
    ·rename_i x ho;obtain⟨τ,h1,h2,h3⟩:=zj (jI [x] hg) h;refine⟨x::τ,by simp[h1],by simpa using h2,λ_=>?_⟩;simp only[jm,hx,ho]
     simpa using h3 rfl
    ·cases h
   ·cases h
  |false=>
   simp only at h
   obtain⟨τ,h1,h2,h3⟩:=zj (jI [.bool false] hg) h;exact⟨.bool false::τ,by simp[h1],by simpa using h2,λh=>by cases h⟩
theorem Er{cf:Cf}{mf:Mf}{S:SS}{s:St}(h:Rel ρ S s){d:Option Nat}{op:KO}{g:Nat}{w:Bool}{vP:Gs}{e:SE}(hl:look S.sl g=some ⟨vP,.b (.d e)⟩){b:Bool}(hb:gQ ρ (vP++[(e,w)])=some b) :
  rj cf mf s ⟨d,op,some (g,w)⟩=if b=true then yu cf mf s d op else some (s.put d .rf):=by
 obtain⟨b0,h1,h2,h3⟩:=h.sl g _ hl;have app:∀{gs:Gs} {c:Bool},gQ ρ gs=some c->gQ ρ (gs++[(e,w)])=if c=true then gQ ρ [(e,w)] else some false:=by
  intro gs
  induction gs with
  |nil=>intro c hc;cases hc;rfl
  |cons p gs ih=>
   intro c hc;obtain⟨a,v⟩:=p;simp only[gQ,ai]at hc ⊢
   split at hc
   ·split at hc
    ·rename_i hv;rw[if_pos hv];exact ih hc
    ·rename_i hv;rw[if_neg hv];cases hc;rfl
   ·cases hc
 rw[app h1]at hb;cases b0 with
 |false=>
  simp only[au,if_false]at hb;cases hb;simp only[rj,h3 rfl,au,if_false]
 |true=>
  simp only[if_true]at hb;obtain⟨x,q1,q2⟩:=h2 rfl;simp only[gQ,q1]at hb
  split at hb
  ·rename_i t ht;cases ht;simp only[rj,q2]
   split at hb
   ·rename_i hw;cases hb;rw[if_pos hw,if_pos rfl]
   ·rename_i hw;cases hb;rw[if_neg hw,if_neg (by simp)]
  ·cases hb
theorem K4{c:C}(h:c=.rf):pU ρ IX c:=⟨false,rfl,λh=>(by cases h),λ_=>h⟩
theorem tV{gs hs:Gs}(h:gQ ρ gs=some true)(h':gQ ρ hs=some true):gQ ρ (gs++hs)=some true:=Dc λp hp=>by
 rcases aL.1 hp with hp|hp
 ·exact lP h p hp
 ·exact lP h' p hp
theorem Ao:∀{gs:Gs},gQ ρ gs=some false->∃p∈gs,p.1.d ρ=some (.bool (!p.2))
 |[],h=>by cases h
 |(g,w)::gs,h=>by
  simp only[gQ]at h
  split at h
  ·rename_i b hb
   split at h
   ·obtain⟨p,h1,h2⟩:=Ao h;exact⟨p,cp _ h1,h2⟩
   ·rename_i hw;refine⟨(g,w),dQ,?_⟩;rw[hb];cases b<;>cases w<;>simp_all
  ·cases h
end
end
section
def LB(f:Nat)(as:List SA):List (Nat×lI)->Option Nat
 |[]=>none
 |(i,sg)::l=>if sg.f=f/\sg.args=as then some i else LB f as l
def BS(hint:List Nat)(jA:List (Nat×lI))(S:SS)(kn:Gs)(n:Nat)(d:Option Nat)(op:KO)(k:SS->Nat->Option (ST×List SO)):Option (ST×List SO):=
 match op with
 | .call f xs=>match DX S kn xs with
  |some cs=>match IK S cs with
   |some (as,es)=>match LB f as jA with
    |some i=>match look jA i with
     |some sg=>if sg.f=f/\sg.args=as/\(iR (qv S cs) && iR (oU cs) && (qv S cs).all (λr=>!(x_ cs).contains r))=true then
       (match TW (λv=>match BR hint S cs d n v with
        |some (bs,S')=>match k S' (n+(uV v.1+uV v.2)+bs.length) with
         |some (t,outs)=>some (Bv [] bs t,outs)
         |none=>none
        |none=>none) sg.res []with
       |some (ts,outs)=>some (.call i es ts,outs)
       |none=>none) else none
     |none=>none
    |none=>none
   |none=>none
  |none=>none
 |op=>match oh hint S kn n d op with
  |some (bs,S')=>match k S' (n+bs.length) with
   |some (t,outs)=>some (Bv [] bs t,outs)
   |none=>none
  |none=>none
def II(hint:List Nat)(jA:List (Nat×lI))(S:SS)(kn:Gs)(n:Nat)(d:Option Nat)(op:KO)(k:SS->Nat->Option (ST×List SO)):Option (ST×List SO):=
 if op.jg=true then (match VD S kn n op with
  |some (bs,c)=>match k (S.put d ⟨[],c⟩) (n+bs.length) with
   |some (t,outs)=>some (Bv [] bs t,outs)
   |none=>none
  |none=>none) else BS hint jA S kn n d op k
def WT(S:SS)(gs:Gs):Bool:=(S.sl.take 3).any λp=>match look S.sl p.1 with
 |some g=>decide (g.gs=gs)
 |none=>false
def full(S:SS)(gs:Gs)(bs:Bs):Bs:=match bs with
 |[]=>if WT S gs=true then [] else [(.pl,[])]
 |bs=>bs
def BM(k1 k0:Gs->Option (ST×List SO)):Gs->Gs->Option (ST×List SO)
 |[],kn=>k1 kn
 |p::ps,kn=>if p∈kn then BM k1 k0 ps kn else match BM k1 k0 ps (p::kn),k0 ((p.1,!p.2)::kn) with
  |some (ta,oa),some (tb,ob)=>match m_ ob oa with
   |(f,outs)=>some (.gd [p] ta (Ig f tb),outs)
  |_,_=>none
def Ky(hint:List Nat)(jA:List (Nat×lI))(S:SS)(kn:Gs)(n:Nat)(i:KI)(k:SS->Gs->Nat->Option (ST×List SO)):Option (ST×List SO):=
 match i with
 |⟨d,op,none⟩=>II hint jA S kn n d op (λS' n'=>k S' kn n')
 |⟨d,op,some (g,w)⟩=>match look S.sl g with
  |some ⟨vP,.b (.d e)⟩=>
   if (vP++[(e,w)]).all (λp=>decide (p∈kn))=true then II hint jA S kn n d op (λS' n'=>k S' kn n')
   else if (vP++[(e,w)]).any (λp=>decide ((p.1,!p.2)∈kn))=true then k (S.put d IX) kn n
   else if op.jg=true then (match VD S ((vP++[(e,w)])++kn) n op with
    |some (bs,c)=>match k (S.put d ⟨vP++[(e,w)],c⟩) kn (n+(full S (vP++[(e,w)]) bs).length) with
     |some (t,outs)=>some (Bv (vP++[(e,w)]) (full S (vP++[(e,w)]) bs) t,outs)
     |none=>none
    |none=>none)
   else BM (λAH=>II hint jA S AH n d op (λS' n'=>k S' AH n')) (λAH=>k (S.put d IX) AH n) (vP++[(e,w)]) kn
  |some ⟨vP,.any⟩=>if vP=IX.gs then k (S.put d IX) kn n else none
  |_=>none
def BT(hint:List Nat)(jA:List (Nat×lI))(kp:j7):List KI->SS->Gs->Nat->Option (ST×List SO)
 |[],S,kn,n=>some (A9 none kn (S.cG kp))
 |i::is,S,kn,n=>Ky hint jA S kn n i (λS' AH n'=>BT hint jA kp is S' AH n')
section
variable {ρ:List D} {S:SS} {s:St} {G:Gf} {cf:Cf} {mf:Mf} {jA:List (Nat×lI)} {hint:List Nat} {n:Nat} {d:Option Nat} {kn:Gs}
theorem nz:∀{l:List SA} {us:List D} {rs:List A},fZ l us=some rs->us.length=uV l
 |[],[],_,_=>rfl
 |[],_::_,_,h=>by cases h
 |a::as,us,rs,h=>by
  obtain⟨r,Cx,h1,h2,rfl⟩:=gD h;have h3:=nz h2;have h4:(us.take a.n).length=a.n:=by
   cases a with
   |val ag l=>simp only[kZ]at h1;obtain⟨vs,h5,_⟩:=ad.1 h1;exact lO h5
   |box l=>simp only[kZ]at h1;obtain⟨vs,h5,_⟩:=ad.1 h1;exact lO h5
  rw[gN]at h3;rw[aY]at h4;simp only[uV];omega
theorem PY{v:List SA×List SA}{us:List D}{r:List A×List A}(h:u5 v us=some r):us.length=uV v.1+uV v.2:=by
 unfold u5 at h
 split at h
 ·rename_i rs outs h1 h2;have h3:=nz h1;have h4:=nz h2;rw[aY]at h3;rw[gN]at h4;omega
 ·cases h
def O8(G:Gf)(t:ST)(j:Nat)(outs:List SO)(ρ:List D)(run:Option (Ex×St)):Prop:=
 ∀i σ,dL G t j ρ=some (i,σ)->∃o s',nth outs i=some o/\run=some (Nq o.x,s')/\σ.length=o.m/\Rel σ o.S s'
theorem Lw{k:(List SA×List SA)->Option (ST×List SO)}:∀{vs:List (List SA×List SA)} {acc jR:List SO} {ts:ST},TW k vs acc=some (ts,jR)->
  (∀i x,nth acc i=some x->nth jR i=some x)/\∀j v,nth vs j=some v->∃t os,k v=some (t,os)/\∀run ρ,Fits G t os ρ run->O8 G ts j jR ρ run
 |[],acc,jR,ts,h=>by cases h;exact⟨λ_ _ hx=>hx,λj v hv=>(by cases hv)⟩
 |v::vs,acc,jR,ts,h=>by
  simp only[TW]at h
  split at h
  ·rename_i t os hk;generalize hq:m_ os acc=q at h;obtain⟨f,Jn⟩:=q;simp only at h
   split at h
   ·rename_i ts' M5 hf;cases h;obtain⟨h1,h2⟩:=nG hq;obtain⟨h3,h4⟩:=Lw hf;refine⟨λi x hx=>h3 i x (h2 i x hx),λj w hw=>?_⟩;cases j with
    |zero=>
     cases hw;refine⟨t,os,hk,λrun ρ wH i σ hd=>?_⟩;have:=wH.map (f:=f) (outs':=jR) (λi o ho=>by obtain⟨j,q1,q2⟩:=h1 i o ho;exact⟨j,q1,h3 j o q2⟩);exact this i σ hd
    |succ j=>
     obtain⟨t',RM,g1,g2⟩:=h4 j w hw;exact⟨t',RM,g1,λrun ρ wH i σ hd=>g2 run ρ wH i σ hd⟩
   ·cases h
  ·cases h
theorem xl{bs:Bs}{t:ST}{outs:List SO}{run:Option (Ex×St)}(h:∀gy,jm ρ bs=some gy->Fits G t outs gy run):Fits G (Bv [] bs t) outs ρ run:=by
 intro j σ hd;obtain⟨τ,h1,h2,h3⟩:=zj (gs:=[]) rfl hd;exact h _ (h3 rfl) j σ h2
theorem IM(hG:TC cf jA G)(h:Rel ρ S s)(hk:gQ ρ kn=some true)(hn:n=ρ.length){op:KO}{k:SS->Nat->Option (ST×List SO)}{t:ST}{outs:List SO}{run:St->Option (Ex×St)}
  (hc:∀S' gy s' t outs,Rel gy S' s'->gQ gy kn=some true->k S' gy.length=some (t,outs)->Fits G t outs gy (run s')) (hs:BS hint jA S kn n d op k=some (t,outs)) :
  op.jg=false/\Fits G t outs ρ ((kc cf mf s d op).bind run):=by
 unfold BS at hs
 split at hs
 ·rename_i f xs;refine⟨rfl,?_⟩
  split at hs
  ·rename_i cs hx
   split at hs
   ·rename_i as es ha
    split at hs
    ·rename_i i hi
     split at hs
     ·rename_i sg hl
      split at hs
      ·rename_i hq;obtain⟨rfl,rfl,hd⟩:=hq
       split at hs
       ·rename_i ts outs' hf;cases hs;obtain⟨_,h2⟩:=Lw (G:=G) hf;intro j σ Nu;simp only[dL]at Nu
        split at Nu
        ·rename_i ws hw
         split at Nu
         ·rename_i j0 us hg;obtain⟨as,r,v,w1,w2,w3,w4⟩:=hG i sg hl ws j0 us hg;obtain⟨t,os,g1,g2⟩:=h2 j0 v w2
          split at g1
          ·rename_i bs S' hr
           split at g1
           ·rename_i t' RM Cs;cases g1;refine g2 _ (ρ++us) ?_ j σ Nu;refine xl λgy hb=>?_;obtain⟨s',e1,e2⟩:=Kx (cf:=cf) (mf:=mf) hG h hk hn hx ha hl rfl hd hw hg w2 hr hb;rw[e1];obtain⟨τ,Q0⟩:=nV hb;refine hc S' gy s' _ _ e2 (by rw[Q0,bh];exact jI _ hk) ?_;rw[sy hb,aO,<- hn,PY w3];exact Cs
           ·cases g1
          ·cases g1
         ·cases Nu
        ·cases Nu
       ·cases hs
      ·cases hs
     ·cases hs
    ·cases hs
   ·cases hs
  ·cases hs
 ·split at hs
  ·rename_i bs S' hN
   split at hs
   ·rename_i t' outs' Cs;cases hs;have hp:∀gy,jm ρ bs=some gy->op.jg=false/\∃s',kc cf mf s d op=some s'/\Rel gy S' s':=λgy hb=>KB h hk hn hN hb;refine⟨(by cases op<;>first|rfl|cases hN),xl λgy hb=>?_⟩;obtain⟨_,s',e1,e2⟩:=hp gy hb;rw[e1];obtain⟨τ,Q0⟩:=nV hb;refine hc S' gy s' _ _ e2 (by rw[Q0];exact jI _ hk) ?_;rw[sy hb,<- hn];exact Cs
   ·cases hs
  ·cases hs
theorem BP(hG:TC cf jA G)(h:Rel ρ S s)(hk:gQ ρ kn=some true)(hn:n=ρ.length){op:KO}{k:SS->Nat->Option (ST×List SO)}{t:ST}{outs:List SO}{run:St->Option (Ex×St)}
  (hc:∀S' gy s' t outs,Rel gy S' s'->gQ gy kn=some true->k S' gy.length=some (t,outs)->Fits G t outs gy (run s')) (hs:II hint jA S kn n d op k=some (t,outs)) :
  Fits G t outs ρ ((yu cf mf s d op).bind run):=by
 unfold II at hs
 split at hs
 ·rename_i hp
  split at hs
  ·rename_i bs c hP
   split at hs
   ·rename_i t' outs' Cs;cases hs;refine xl λgy hb=>?_;obtain⟨v,e1,e2⟩:=BU h hk hn hP hb;obtain⟨τ,Q0⟩:=nV hb;simp only[yu,hp,if_true,e1,aB,cO];refine hc _ gy _ _ _ ((Q0▸h.mono τ:Rel gy S s).put d (pU.nil e2)) (by rw[Q0];exact jI _ hk) ?_;rw[sy hb,<- hn];exact Cs
   ·cases hs
  ·cases hs
 ·rename_i hp;obtain⟨h1,h2⟩:=IM (mf:=mf) hG h hk hn hc hs;simp only[yu,h1,au,if_false];exact h2
theorem Qw{gs:Gs}{bs:Bs}{gy:List D}(h:jm ρ (full S gs bs)=some gy):∃τ,gy=ρ++τ/\∃O0 OL,jm ρ bs=some O0/\gy=O0++OL:=by
 obtain⟨τ,Q0⟩:=nV h;refine⟨τ,Q0,?_⟩;cases bs with
 |nil=>exact⟨ρ,τ,rfl,Q0⟩
 |cons b bs=>exact⟨gy,[],h,by simp⟩
theorem Sb(h:Rel ρ S s){gs:Gs}(hs:WT S gs=true):∃b,gQ ρ gs=some b:=by
 obtain⟨p,_,hp⟩:=ku.1 hs
 split at hp
 ·rename_i g hl;obtain⟨b,hb,_⟩:=h.sl _ g hl;exact⟨b,(of_decide_eq_true hp)▸hb⟩
 ·cases hp
theorem LG{gs:Gs}{ta tb:ST}{outs:List SO}{run:Option (Ex×St)}(ha:gQ ρ gs=some true->Fits G ta outs ρ run)(hb:gQ ρ gs=some false->Fits G tb outs ρ run):Fits G (.gd gs ta tb) outs ρ run:=by
 intro j σ hd;simp only[dL]at hd
 split at hd
 ·rename_i h;exact ha h j σ hd
 ·rename_i h;exact hb h j σ hd
 ·cases hd
theorem QC:∀{pre:Gs} {p:SE×Bool} {ps:Gs},gQ ρ pre=some true->p.1.d ρ=some (.bool (!p.2))->gQ ρ (pre++p::ps)=some false
 |[],p,ps,_,hp=>by
  obtain⟨e,w⟩:=p;simp only[ak,gQ]at hp ⊢;rw[hp];cases w<;>rfl
 |(g,v)::pre,p,ps,h,hp=>by
  have hg:=lP h (g,v) (by simp);simp only[ai,gQ]at hg h ⊢;rw[hg]at h ⊢;simp only[if_true]at h ⊢;exact QC h hp
theorem xz{k1 k0:Gs->Option (ST×List SO)}{run:Option (Ex×St)}{full_:Gs}(h1:∀AH {t:ST} {o:List SO},gQ ρ AH=some true->gQ ρ full_=some true->k1 AH=some (t,o)->Fits G t o ρ run)
  (h0:∀AH {t:ST} {o:List SO},gQ ρ AH=some true->gQ ρ full_=some false->k0 AH=some (t,o)->Fits G t o ρ run):∀{gs pre kn:Gs} {t:ST} {outs:List SO},full_=pre++gs->gQ ρ pre=some true->gQ ρ kn=some true->BM k1 k0 gs kn=some (t,outs)->Fits G t outs ρ run
 |[],pre,kn,t,outs,hf,hp,hk,hs=>h1 kn hk (by rw[hf,aD];exact hp) hs
 |p::ps,pre,kn,t,outs,hf,hp,hk,hs=>by
  have hf':full_=(pre++[p])++ps:=by rw[hf];simp
  simp only[BM]at hs
  split at hs
  ·rename_i hm;exact xz h1 h0 hf' (tV hp (Dc λq hq=>by simp only[ct]at hq;subst hq;exact lP hk _ hm)) hk hs
  ·split at hs
   ·rename_i ta oa tb ob hA hB;generalize hq:m_ ob oa=q at hs;obtain⟨f,outs'⟩:=q;cases hs;obtain⟨q1,q2⟩:=nG hq;refine LG (λhg=>?_) λhg=>?_
    ·exact (xz h1 h0 hf' (tV hp hg) (tV (gs:=[p]) hg hk) hA).more q2
    ·obtain⟨r,hr,he⟩:=Ao hg;simp only[ct]at hr;subst hr;exact Fits.map (h0 _ (tV (gs:=[(r.1,!r.2)]) (Dc λq hq=>by simp only[ct]at hq;subst hq;exact he) hk) (by rw[hf];exact QC hp he) hB) q1
   ·cases hs
theorem Bw{gs:Gs}{o:PO}{es:List SE}{bs:Bs}{t:ST}{r:Nat×List D}(h:dL G (Bv gs ((o,es)::bs) t) 0 ρ=some r):∃b,gQ ρ gs=some b:=by
 simp only[Bv,dL]at h
 split at h
 ·exact⟨_,‹_›⟩
 ·exact⟨_,‹_›⟩
 ·cases h
theorem Xv(hr:Rel ρ S s){gs:Gs}{bs:Bs}{t:ST}{r:Nat×List D}(h:dL G (Bv gs (full S gs bs) t) 0 ρ=some r):∃b,gQ ρ gs=some b:=by
 cases bs with
 |nil=>
  simp only[full]at h
  split at h
  ·exact Sb hr ‹_›
  ·exact Bw h
 |cons b bs=>exact Bw h
theorem Xq{g:Nat}{w:Bool}{op:KO}(h:Rel ρ S s)(hk:gQ ρ kn=some true){vP:Gs}{e:SE}(hl:look S.sl g=some ⟨vP,.b (.d e)⟩)(ha:(vP++[(e,w)]).any (λp=>decide ((p.1,!p.2)∈kn))=true) :
  rj cf mf s ⟨d,op,some (g,w)⟩=some (s.put d .rf):=by
 obtain⟨b0,h1,h2,h3⟩:=h.sl g _ hl;cases b0 with
 |false=>simp only[rj,h3 rfl]
 |true=>
  obtain⟨p,hp,hq⟩:=ku.1 ha;have hn:=lP hk _ (of_decide_eq_true hq);rcases aL.1 hp with hp|hp
  ·have:=lP h1 p hp;simp only at hn
   rw[hn]at this;exact absurd this (by cases p.2<;>simp)
  ·simp only[ct]at hp;subst hp;obtain⟨x,q1,q2⟩:=h2 rfl;simp only at hn
   rw[hn]at q1;cases q1;simp only[rj,q2];rw[if_neg (by cases w<;>simp)]
theorem zr(hG:TC cf jA G)(h:Rel ρ S s)(hk:gQ ρ kn=some true){i:KI}{k:SS->Gs->Nat->Option (ST×List SO)}{t:ST}{outs:List SO}{run:St->Option (Ex×St)}
  (cont:∀{AH:Gs} (S':SS) (gy:List D) (s':St) (t:ST) (outs:List SO),Rel gy S' s'->gQ gy AH=some true->k S' AH gy.length=some (t,outs)->Fits G t outs gy (run s'))
  (hs:Ky hint jA S kn ρ.length i k=some (t,outs)):Fits G t outs ρ ((rj cf mf s i).bind run):=by
 obtain⟨d,op,gd⟩:=i;cases gd with
 |none=>
  simp only[Ky]at hs;exact BP hG h hk rfl (run:=run) cont hs
 |some gw=>
  obtain⟨g,w⟩:=gw;simp only[Ky]at hs
  split at hs
  ·rename_i vP e hl
   split at hs
   ·rename_i jU;have hg:gQ ρ (vP++[(e,w)])=some true:=JQ hk jU;rw[Er h hl hg,if_pos rfl];exact BP hG h hk rfl (run:=run) cont hs
   ·split at hs
    ·rename_i ha;rw[Xq h hk hl ha,cO];exact cont _ _ _ _ _ (h.put d (K4 rfl)) hk hs
    ·split at hs
     ·rename_i hp
      split at hs
      ·rename_i bs c hP
       split at hs
       ·rename_i t' outs' hr;cases hs;intro j σ hd;obtain⟨b,hg⟩:=Xv h hd;obtain⟨τ,h1,h2,h3⟩:=zj hg hd;rw[Er h hl hg];have hlen:ρ.length+(full S (vP++[(e,w)]) bs).length=(ρ++τ).length:=by rw[aO,h1]
        rw[hlen]at hr;cases b with
        |true=>
         obtain⟨_,_,O0,OL,g1,g2⟩:=Qw (h3 rfl);obtain⟨v,e1,e2⟩:=BU h (tV hg hk) rfl hP g1;simp only[yu,hp,if_true,e1,aB,cO];refine cont _ _ _ _ _ ((h.mono τ).put d ?_) (jI τ hk) hr j σ h2;exact⟨true,jI τ hg,λ_=>g2▸e2.mono OL,λh=>(by cases h)⟩
        |false=>
         rw[if_neg (by simp),cO];refine cont _ _ _ _ _ ((h.mono τ).put d ?_) (jI τ hk) hr j σ h2;exact⟨false,jI τ hg,λh=>(by cases h),λ_=>rfl⟩
       ·cases hs
      ·cases hs
     ·refine xz (full_:=vP++[(e,w)]) (λAH _ _ gf hg hA=>?_) (λAH _ _ gf hg hB=>?_) (pre:=[]) rfl rfl hk hs
      ·rw[Er h hl hg,if_pos rfl];exact BP hG h gf rfl (run:=run) cont hA
      ·rw[Er h hl hg,if_neg (by simp),cO];exact cont _ _ _ _ _ (h.put d (K4 rfl)) gf hB
  ·rename_i vP hl
   split at hs
   ·rename_i hg;obtain⟨b,h1,_,h3⟩:=h.sl g _ hl;rw[hg]at h1;cases h1;have he:rj cf mf s ⟨d,op,some (g,w)⟩=some (s.put d .rf):=by simp only[rj,h3 rfl]
    rw[he,cO];exact cont _ _ _ _ _ (h.put d (K4 rfl)) hk hs
   ·cases hs
  ·cases hs
theorem DW(hG:TC cf jA G){kp:j7}:∀{is:List KI} {S:SS} {kn:Gs} {ρ:List D} {s:St} {t:ST} {outs:List SO},Rel ρ S s->gQ ρ kn=some true->BT hint jA kp is S kn ρ.length=some (t,outs)->
  Fits G t outs ρ (Yx kp (k9 cf mf is s))
 |[],S,kn,ρ,s,t,outs,h,hk,hs=>by
  simp only[BT,aa]at hs;exact sb (h.cG kp) hk hs
 |i::is,S,kn,ρ,s,t,outs,h,hk,hs=>by
  have Xa:Yx kp (k9 cf mf (i::is) s)=(rj cf mf s i).bind λs'=>Yx kp (k9 cf mf is s'):=by
   simp only[k9];cases rj cf mf s i<;>rfl
  rw[Xa];simp only[BT]at hs;exact zr hG h hk (run:=λs'=>Yx kp (k9 cf mf is s')) (λS' gy s' t outs h' gf pq=>DW hG h' gf pq) hs
end
end
section
def KO.RL:KO->List KX
 | .st _ x y=>[x,y]
 | .nf _ _ xs=>xs
 | .app _ _ _ x y=>[x,y]
 | .call _ xs=>xs
 | .Mp _ x _=>[x]
 | .cut _ x _ _=>[x]
 | .xP _ x _=>[x]
 | .jn x _=>[x]
 |_=>[]
def pH(s:St):C->List Nat
 | .ptr b _=>b::rowsOf ((look s.bx b).getD [])
 | .na r _ _ _=>[r]
 |c=>rowsOf c.cells
theorem sT(s:St)(c:C):∀q∈rowsOf c.cells,q∈pH s c:=by
 intro q h;cases c<;>first|exact h|(simp[C.cells,rowsOf]at h)
theorem vi(s:St)(c:C):∀q∈rowsOf [c],q∈pH s c:=by
 intro q h;cases c<;>first|exact h|(simp[rowsOf]at h)
theorem vh(s:St)(f:C->List Nat)(hf:∀c,∀q∈f c,q∈pH s c)(g:List C->List Nat)(h0:g []=[])(h1:∀c cs,g (c::cs)=f c++g cs):∀(xs:List KX),∀q∈g (xs.map (eU s)),∃x∈xs,q∈pH s (eU s x)
 |[],q,h=>by simp[h0]at h
 |x::xs,q,h=>by
  rw[aN,h1]at h;rcases aL.1 h with h|h
  ·exact⟨x,by simp,hf _ q h⟩
  ·obtain⟨y,hy,hq⟩:=vh s f hf g h0 h1 xs q h;exact⟨y,by simp[hy],hq⟩
theorem OI(s:St)(d:Option Nat)(op:KO):∀q∈dW s d op,q∈d.toList\/∃x∈op.RL,q∈pH s (eU s x):=by
 intro q h;cases op with
 |st n x y=>
  simp only[dW]at h
  split at h
  ·rename_i b o hx;simp only[ct]at h;exact .inr ⟨x,by simp[KO.RL],by rw[hx];simp[pH,h]⟩
  ·rename_i r k i o hx;rcases ay.1 h with h|h
   ·exact .inr ⟨x,by simp[KO.RL],by rw[hx];simp[pH,h]⟩
   ·exact .inr ⟨y,by simp[KO.RL],sT s _ q h⟩
  ·cases h
 |nf k fl xs=>
  simp only[dW]at h;rcases aL.1 h with h|h
  ·exact .inl h
  ·exact .inr (vh s (λc=>rowsOf c.cells) (sT s) vD rfl (λ_ _=>rfl) xs q h)
 |app k by_ fl x y=>
  simp only[dW]at h;rcases aL.1 h with h|h
  ·rcases aL.1 h with h|h
   ·exact .inl h
   ·exact .inr ⟨x,by simp[KO.RL],vi s _ q h⟩
  ·exact .inr ⟨y,by simp[KO.RL],vi s _ q h⟩
 |call f xs=>
  simp only[dW,yL]at h;rcases aL.1 h with h|h
  ·rcases aL.1 h with h|h
   ·refine .inr (vh s (λc=>match c with | .ptr b _=>[b]|_=>[]) (λc q h=>?_) cd rfl (λc cs=>by cases c<;>rfl) xs q h)
    split at h
    ·simp only[ct]at h;simp[pH,h]
    ·cases h
   ·refine .inr (vh s (pM s) (λc q h=>?_) (cH s) rfl (λc cs=>rfl) xs q h);unfold pM at h
    split at h
    ·simp only[pH,ay];exact .inr h
    ·cases h
  ·exact .inr (vh s (λc=>rowsOf c.cells) (sT s) hH rfl (λ_ _=>rfl) xs q h)
 |Mp f x y=>simp only[dW]at h;exact .inr ⟨x,by simp[KO.RL],sT s _ q h⟩
 |cut k x lo hi=>
  simp only[dW]at h;rcases aL.1 h with h|h
  ·exact .inl h
  ·exact .inr ⟨x,by simp[KO.RL],vi s _ q h⟩
 |xP k x y=>
  simp only[dW]at h;rcases aL.1 h with h|h
  ·exact .inl h
  ·exact .inr ⟨x,by simp[KO.RL],vi s _ q h⟩
 |jn x y=>
  simp only[dW]at h;rcases aL.1 h with h|h
  ·exact .inl h
  ·exact .inr ⟨x,by simp[KO.RL],vi s _ q h⟩
 |_=>exact .inl h
def NI(S:SS):SC->Option (List Nat)
 | .b x=>if x.cell=true then some (fo [x]) else none
 | .agg xs=>if xs.all SB.cell=true then some (fo xs) else none
 | .ptr b _=>match look S.bx b with
  |some xs=>if xs.all SB.cell=true then some (b::fo xs) else none
  |none=>none
 | .na r _ _ _=>some [r]
 | .qN _ _=>some []
 | .oK _=>some []
 | .any=>none
def Ur(S:SS):KX->Option (List Nat)
 | .s d=>match look S.sl d with
  |some g=>if g.gs=IX.gs then some [] else NI S g.c
  |none=>none
 |x=>match eQ S [] x with
  |some c=>NI S c
  |none=>none
def A8(S:SS)(gs:Gs):KO->Option (Option Nat)
 | .ld _ x=>match eQ S gs x with
  |some (.ptr b _)=>some (some b)
  |some (.qN _ _)=>some none
  |_=>none
 | .yq _=>none
 |_=>some none
def J8(S:SS)(kn:Gs)(i:KI):Option (Option Nat):=
 match i.gd with
 |none=>A8 S kn i.op
 |some (g,w)=>match look S.sl g with
  |some ⟨vP,.b (.d e)⟩=>if (vP++[(e,w)]).any (λp=>decide ((p.1,!p.2)∈kn))=true then some none else A8 S ((vP++[(e,w)])++kn) i.op
  |some ⟨vP,.any⟩=>if vP=IX.gs then some none else none
  |_=>none
def U1(S:SS)(tk:List (List Nat×Nat))(i:KI):Bool:=
 tk.all (λp=>!(i.dst ==some p.2)) && i.op.RL.all λx=>match Ur S x with
  |some l=>tk.all λp=>!l.contains p.2
  |none=>tk.isEmpty
def SB.uI:SB->Bool
 | .any=>false
 |_=>true
def Ni:List (SB ⊕ List SB)->Bool
 |[]=>true
 | .inl x::xs=>x.uI && Ni xs
 | .inr l::xs=>l.all SB.uI && Ni xs
def SC.uI:SC->Bool
 | .b x=>x.uI
 | .agg xs=>xs.all SB.uI
 | .oK xs=>Ni xs
 | .any=>false
 |_=>true
def Xh(kp:j7)(S:SS):Bool:=
 kp.s.all (λd=>match look S.sl d with
  |some g=>g.c.uI ||decide (g.gs=IX.gs)
  |none=>false) && kp.b.all (λb=>match look S.bx b with
  |some xs=>xs.all SB.uI
  |none=>false) && kp.r.all λr=>(look S.rw r).isSome
def vG(hint:List Nat)(jA:List (Nat×lI))(kp:j7):KT->List (List Nat×Nat)->SS->Gs->Nat->Option (ST×List SO)
 | .nil,_,S,kn,n=>some (A9 none kn (S.cG kp))
 | .alt ⟨j,_,_,_,i⟩ is r,tk,S,kn,n=>
  if U1 S (il j tk) i=true then (match Ky hint jA S kn n i (λS' AH n'=>
    if (il j tk).all (λp=>(look S'.bx p.2).isSome)=true then vG hint jA kp is (il j tk) S' AH n' else none),vG hint jA kp r tk S kn n with
   |some (ta,oa),some (tb,ob)=>match m_ ob oa with
    |(f,outs)=>if outs.all (λo=>Xh kp o.S)=true then some (.both ta (Ig f tb),outs) else none
   |_,_=>none) else none
 | .op ⟨j,q,al,dn,i⟩ is,tk,S,kn,n=>
  if q=true then (if i.op.jg=true then (match J8 S kn i with
   |some b=>Ky hint jA S kn n i (λS' AH n'=>vG hint jA kp is (mF dn tk b) S' AH n')
   |none=>none) else none)
  else if U1 S (il j tk) i=true then Ky hint jA S kn n i (λS' AH n'=>
   if (il j tk).all (λp=>(look S'.bx p.2).isSome)=true then vG hint jA kp is (il j tk) S' AH n' else none) else none
section
variable {ρ:List D} {S:SS} {s:St} {G:Gf} {cf:Cf} {mf:Mf} {jA:List (Nat×lI)} {hint:List Nat} {n:Nat} {d:Option Nat} {kn:Gs}
theorem LQ(h:Rel ρ S s){c:SC}{v:C}{l:List Nat}(hc:jQ ρ c v)(hl:NI S c=some l):∀q∈pH s v,q∈l:=by
 intro q hq;cases c with
 |b x=>
  simp only[NI]at hl
  split at hl
  ·rename_i hx;cases hl;cases x with
   |d e=>obtain⟨y,_,rfl⟩:=hc;simp[pH,C.cells,rowsOf]at hq
   |nil k fl=>simp only[jQ,iV]at hc;subst hc;simp[pH,C.cells,rowsOf]at hq
   |ref r=>simp only[jQ,iV]at hc;subst hc;simpa [pH,C.cells,rowsOf,fo] using hq
   |any=>cases hx
  ·cases hl
 |agg xs=>
  simp only[NI]at hl
  split at hl
  ·rename_i hx;cases hl;obtain⟨cs,rfl,h1⟩:=hc;simp only[pH,C.cells]at hq
   rwa [mc h1 hx]at hq
  ·cases hl
 |oK xs=>obtain⟨cs,rfl,h1⟩:=hc;simp[pH,C.cells,rowsOf]at hq
 |ptr b o=>
  simp only[jQ]at hc;subst hc;simp only[NI]at hl
  split at hl
  ·rename_i xs hb
   split at hl
   ·rename_i hx;cases hl;obtain⟨cs,h1,h2⟩:=h.bx b xs hb;simp only[pH,h1,mK]at hq
    rwa [mc h2 hx]at hq
   ·cases hl
  ·cases hl
 |na r k i o=>
  obtain⟨m,_,rfl⟩:=hc;cases hl;exact hq
 |qN i o=>
  obtain⟨x,cs,_,_,rfl⟩:=hc;simp[pH,C.cells,rowsOf]at hq
 |any=>cases hl
theorem Us(h:Rel ρ S s){x:KX}{l:List Nat}(hl:Ur S x=some l):∀q∈pH s (eU s x),q∈l:=by
 cases x with
 |s d=>
  simp only[Ur]at hl
  split at hl
  ·rename_i g hg;obtain⟨b,h1,h2,h3⟩:=h.sl d g hg
   split at hl
   ·rename_i hu;rw[hu]at h1;cases h1;intro q hq;simp only[eU,h3 rfl,pH,C.cells,rowsOf]at hq;cases hq
   ·cases b with
    |true=>exact LQ h (h2 rfl) hl
    |false=>
     intro q hq;simp only[eU,h3 rfl,pH,C.cells,rowsOf]at hq;cases hq
  ·cases hl
 |k c=>
  simp only[Ur]at hl
  split at hl
  ·rename_i c' hc;exact LQ h (ch h (gs:=[]) rfl hc) hl
  ·cases hl
theorem Mz(h:Rel ρ S s){KS:List (List Nat×Nat)}{i:KI}(ho:U1 S KS i=true):∀p∈KS,(!(dW s i.dst i.op).contains p.2)=true/\(!(i.dst ==some p.2))=true:=by
 intro p hp;simp only[U1,ab,aS]at ho;obtain⟨h1,h2⟩:=ho;refine⟨?_,h1 p hp⟩;rw[ck,cT];intro hc;rcases OI s i.dst i.op p.2 (by simpa using hc) with hd|⟨x,hx,hq⟩
 ·have:=h1 p hp;cases hi:i.dst with
  |none=>rw[hi]at hd;simp at hd
  |some a=>rw[hi]at hd this;simp at hd;simp[hd]at this
 ·have:=h2 x hx
  split at this
  ·rename_i l hl;have h3:=aS.1 this p hp;have h4:=Us h hl _ hq;simp[h4]at h3
  ·cases KS with
   |nil=>cases hp
   |cons a b=>cases this
theorem Oa(h:Rel ρ S s){gs:Gs}(hg:gQ ρ gs=some true){op:KO}{b:Option Nat}(hl:A8 S gs op=some b):nc s op=some b:=by
 cases op with
 |ld n x=>
  simp only[A8]at hl
  split at hl
  ·rename_i b' o hx;cases hl;have:=ch h hg hx;simp only[jQ]at this;simp only[nc,this]
  ·rename_i i o hx;cases hl;obtain⟨x,cs,_,_,e⟩:=ch h hg hx;simp only[nc,e]
  ·cases hl
 |yq x=>cases hl
 |_=>exact hl
theorem RY(h:Rel ρ S s)(hk:gQ ρ kn=some true){kp:j7}{j:Nat}{al dn:List Nat}{i:KI}{is:KT}{tk:List (List Nat×Nat)}{b:Option Nat}(hp:i.op.jg=true)(hb:J8 S kn i=some b) :
  ∃tk',(∀p∈tk',p∈mF dn tk b)/\eH cf mf kp (.op ⟨j,true,al,dn,i⟩ is) tk s=(rj cf mf s i).bind (eH cf mf kp is tk'):=by
 have tW:∀p∈tk,p∈mF dn tk b:=by
  intro p hp;unfold mF;split
  ·exact cp _ hp
  ·exact hp
 have now:∀{gs:Gs},gQ ρ gs=some true->A8 S gs i.op=some b->(match gH s i.op,nc s i.op with
   |some c,some b=>eH cf mf kp is (mF dn tk b) (s.put i.dst c)
   |_,_=>none)=(yu cf mf s i.dst i.op).bind (eH cf mf kp is (mF dn tk b)):=by
  intro gs hg hl;rw[Oa h hg hl];simp only[yu,hp,if_true];cases gH s i.op<;>rfl
 obtain⟨d,op,gd⟩:=i;cases gd with
 |none=>
  refine⟨_,λp hp=>hp,?_⟩;simp only[eH,if_true,rj];exact now hk hb
 |some gw=>
  obtain⟨g,w⟩:=gw;simp only[J8]at hb;simp only[eH,if_true,rj];cases hc:s.get g with
  |d x=>
   cases x with
   |bool t=>
    simp only
    by_cases ht:t=w
    ·subst ht;simp only[if_true];refine⟨_,λp hp=>hp,?_⟩
     split at hb
     ·rename_i vP e hl;obtain⟨b0,h1,h2,h3⟩:=h.sl g _ hl;cases b0 with
      |false=>rw[h3 rfl]at hc;cases hc
      |true=>
       obtain⟨x,q1,q2⟩:=h2 rfl;rw[hc]at q2;cases q2;have hg:=tV h1 (Dc (gs:=[(e,t)]) λq hq=>by simp only[ct]at hq;subst hq;exact q1)
       split at hb
       ·rename_i ha;obtain⟨p,hp,hq⟩:=ku.1 ha;have x1:=lP hg p hp;have x2:=lP hk _ (of_decide_eq_true hq);simp only[x1]at x2;exact absurd x2 (by cases p.2<;>simp)
       ·exact now (tV hg hk) hb
     ·rename_i vP hl
      split at hb
      ·rename_i hu;obtain⟨b0,h1,_,h3⟩:=h.sl g _ hl;rw[hu]at h1;cases h1;rw[h3 rfl]at hc;cases hc
      ·cases hb
     ·cases hb
    ·simp only[if_neg ht,cO];exact⟨tk,tW,rfl⟩
   |_=>exact⟨tk,tW,rfl⟩
  |rf=>simp only[cO];exact⟨tk,tW,rfl⟩
  |_=>exact⟨tk,tW,rfl⟩
theorem ti{j:Nat}{tk KS:List (List Nat×Nat)}(h:∀p∈tk,p∈KS):∀p∈il j tk,p∈il j KS:=λp hp=>by
 obtain⟨h1,h2⟩:=List.mem_filter.1 hp;exact List.mem_filter.2 ⟨h p h1,h2⟩
theorem OE{dn:List Nat}{b:Option Nat}{tk KS:List (List Nat×Nat)}(h:∀p∈tk,p∈KS):∀p∈mF dn tk b,p∈mF dn KS b:=λp hp=>by
 cases b with
 |none=>exact h p hp
 |some b=>
  rcases ay.1 hp with hp|hp
  ·exact hp▸dQ
  ·exact cp _ (h p hp)
theorem Mx{α:Type}:∀{l:List α} {i:Nat} {x:α},nth l i=some x->x∈l
 |y::l,0,x,h=>by cases h;exact dQ
 |y::l,i+1,x,h=>cp _ (Mx (l:=l) h)
theorem iV.uI{x:SB}{c c':C}(hd:x.uI=true)(h:iV ρ x c)(h':iV ρ x c'):c=c':=by
 cases x with
 |d e=>
  obtain⟨y,h1,rfl⟩:=h;obtain⟨z,h2,rfl⟩:=h';rw[h1]at h2;cases h2;rfl
 |any=>cases hd
 |_=>simp only[iV]at h h';rw[h,h']
theorem iV.ne{x:SB}{c:C}(hd:x.uI=true)(h:iV ρ x c):c≠.any:=by
 cases x with
 |d e=>obtain⟨y,h1,rfl⟩:=h;intro h;cases h
 |any=>cases hd
 |_=>simp only[iV]at h;subst h;intro h;cases h
theorem dw.uI:∀{xs:List SB} {cs iA:List C},xs.all SB.uI=true->dw ρ xs cs->dw ρ xs iA->cs=iA
 |[],_,_,_,h,h'=>by simp only[dw]at h h';rw[h,h']
 |x::xs,_,_,hd,⟨c,cs,h0,h1,h2⟩,⟨c',iA,g0,g1,g2⟩=>by
  simp only[bW,ab]at hd;rw[h0,g0,h1.uI hd.1 g1,dw.uI hd.2 h2 g2]
theorem rB.uI:∀{xs:List (SB ⊕ List SB)} {cs iA:List C},Ni xs=true->rB ρ xs cs->rB ρ xs iA->cs=iA
 |[],_,_,_,h,h'=>by simp only[rB]at h h';rw[h,h']
 | .inl x::xs,_,_,hd,⟨c,cs,h0,h1,h2⟩,⟨c',iA,g0,g1,g2⟩=>by
  simp only[Ni,ab]at hd;rw[h0,g0,h1.uI hd.1 g1,rB.uI hd.2 h2 g2]
 | .inr l::xs,_,_,hd,⟨c,cs,h0,h1,h2⟩,⟨c',iA,g0,g1,g2⟩=>by
  simp only[Ni,ab]at hd;rw[h0,g0,h1.uI hd.1 g1,rB.uI hd.2 h2 g2]
theorem jQ.uI{x:SC}{c c':C}(hd:x.uI=true)(h:jQ ρ x c)(h':jQ ρ x c'):c=c':=by
 cases x with
 |b x=>exact iV.uI hd h h'
 |agg xs=>
  obtain⟨cs,rfl,h1⟩:=h;obtain⟨iA,rfl,h2⟩:=h';rw[h1.uI hd h2]
 |oK xs=>
  obtain⟨cs,rfl,h1⟩:=h;obtain⟨iA,rfl,h2⟩:=h';rw[h1.uI hd h2]
 |ptr b o=>simp only[jQ]at h h';rw[h,h']
 |na r k i o=>
  obtain⟨m,h1,rfl⟩:=h;obtain⟨m',h2,rfl⟩:=h';rw[h1]at h2;cases h2;rfl
 |qN i o=>
  obtain⟨x,cs,h1,h2,rfl⟩:=h;obtain⟨x',iA,h3,h4,rfl⟩:=h';rw[h1]at h3;cases h3;rw[h2]at h4;cases h4;rfl
 |any=>cases hd
theorem jQ.ne{x:SC}{c:C}(hd:x.uI=true)(h:jQ ρ x c):c≠.any:=by
 cases x with
 |b x=>exact iV.ne hd h
 |agg xs=>obtain⟨cs,rfl,h1⟩:=h;intro h;cases h
 |oK xs=>obtain⟨cs,rfl,h1⟩:=h;intro h;cases h
 |ptr b o=>simp only[jQ]at h;subst h;intro h;cases h
 |na r k i o=>obtain⟨m,h1,rfl⟩:=h;intro h;cases h
 |qN i o=>obtain⟨x,cs,h1,h2,rfl⟩:=h;intro h;cases h
 |any=>cases hd
theorem vl{α:Type}(l l':List (Nat×α)):∀(ds:List Nat),(∀d∈ds,∃x,look l d=some x/\look l' d=some x)->gl l ds=gl l' ds
 |[],_=>rfl
 |d::ds,h=>by
  obtain⟨x,h1,h2⟩:=h d (by simp);simp only[gl,h1,h2,vl l l' ds λe he=>h e (by simp[he])]
theorem Ra{kp:j7}{s s':St}(h:Rel ρ S (s.cG kp))(h':Rel ρ S (s'.cG kp))(hd:Xh kp S=true):s.cG kp=s'.cG kp:=by
 simp only[Xh,ab,aS]at hd;obtain⟨⟨h1,h2⟩,h3⟩:=hd;have e1:gl s.sl kp.s=gl s'.sl kp.s:=by
  refine vl _ _ _ λd hm=>?_;have hq:=h1 d hm
  split at hq
  ·rename_i g hg;obtain⟨b,q1,q2,q3⟩:=h.sl d g hg;obtain⟨b',r1,r2,r3⟩:=h'.sl d g hg;rw[q1]at r1;cases r1;have hv:(s.cG kp).get d=(s'.cG kp).get d/\(s.cG kp).get d≠.any:=by
    cases b with
    |false=>rw[q3 rfl,r3 rfl];exact⟨rfl,by intro h;cases h⟩
    |true=>
     have hc:g.c.uI=true:=by
      simp only[dE,decide_eq_true_eq]at hq;rcases hq with hq|hq
      ·exact hq
      ·rw[hq]at q1;cases q1
     exact⟨(q2 rfl).uI hc (r2 rfl),(q2 rfl).ne hc⟩
   rw[Ay s kp hm,Ay s' kp hm]at hv;unfold St.get at hv;cases h4:look s.sl d with
   |none=>rw[h4]at hv;exact absurd rfl hv.2
   |some x=>
    cases h5:look s'.sl d with
    |none=>rw[h4,h5]at hv;exact absurd hv.1 (by intro h;rw[h]at hv;exact hv.2 rfl)
    |some y=>rw[h4,h5]at hv;exact⟨x,rfl,by rw[show y=x from hv.1.symm]⟩
  ·cases hq
 have e2:gl s.bx kp.b=gl s'.bx kp.b:=by
  refine vl _ _ _ λd hm=>?_;have hq:=h2 d hm
  split at hq
  ·rename_i xs hx;obtain⟨cs,q1,q2⟩:=h.bx d xs hx;obtain⟨iA,r1,r2⟩:=h'.bx d xs hx;have:=q2.uI hq r2;subst this;exact⟨cs,(gr _ _ q1).1,(gr _ _ r1).1⟩
  ·cases hq
 have e3:gl s.rw kp.r=gl s'.rw kp.r:=by
  refine vl _ _ _ λd hm=>?_;obtain⟨x,hx⟩:=bF.1 (h3 d hm);obtain⟨y,q1,es,q2,rfl⟩:=h.rw d x hx;obtain⟨y',r1,iY,r2,rfl⟩:=h'.rw d x hx;rw[q2]at r2;cases r2;exact⟨_,(gr _ _ q1).1,(gr _ _ r1).1⟩
 simp only[St.cG,e1,e2,e3]
theorem Pw{α:Type}{a b:Option α}{r:α}(h:both a b=some r):a=some r:=by
 unfold both at h
 split at h
 ·split at h
  ·cases h;rfl
  ·cases h
 ·cases h
theorem kK{kp:j7}:∀{is:KT} {tk:List (List Nat×Nat)} {s s':St},eH cf mf kp is tk s=some s'->∃s0:St,s'=s0.cG kp
 | .nil,tk,s,s',h=>by simp only[eH,aa]at h;exact⟨s,h.symm⟩
 | .op ⟨j,q,al,dn,i⟩ is,tk,s,s',h=>by
  simp only[eH]at h
  split at h
  ·split at h
   ·split at h
    ·exact kK h
    ·cases h
   ·split at h
    ·split at h
     ·split at h
      ·exact kK h
      ·cases h
     ·exact kK h
    ·exact kK h
    ·cases h
  ·simp only[j6]at h
   split at h
   ·split at h
    ·exact kK h
    ·cases h
   ·cases h
 | .alt x is r,tk,s,s',h=>by
  simp only[eH]at h;have h1:=Pw h;simp only[j6]at h1
  split at h1
  ·split at h1
   ·exact kK h1
   ·cases h1
  ·cases h1
theorem sC(hG:TC cf jA G){kp:j7}:∀{is:KT} {tk KS:List (List Nat×Nat)} {S:SS} {kn:Gs} {ρ:List D} {s:St} {t:ST} {outs:List SO},(∀p∈tk,p∈KS)->Rel ρ S s->gQ ρ kn=some true->vG hint jA kp is KS S kn ρ.length=some (t,outs)->
  Fits G t outs ρ (Io (eH cf mf kp is tk s))
 | .nil,tk,KS,S,kn,ρ,s,t,outs,ht,h,hk,hs=>by
  simp only[vG,aa]at hs;exact sb (h.cG kp) hk hs
 | .alt ⟨j,q,al,dn,i⟩ is r,tk,KS,S,kn,ρ,s,t,outs,ht,h,hk,hs=>by
  simp only[vG]at hs
  split at hs
  ·rename_i ho
   split at hs
   ·rename_i ta oa tb ob hA hB;generalize hq:m_ ob oa=q at hs;obtain⟨f,outs'⟩:=q;simp only at hs
    split at hs
    ·rename_i ags;cases hs;obtain⟨q1,q2⟩:=nG hq;have fA:Fits G ta oa ρ (Io (j6 cf mf ⟨j,q,al,dn,i⟩ tk s (eH cf mf kp is))):=by
      have lj:=Mz h ho;have Xa:Io (j6 cf mf ⟨j,q,al,dn,i⟩ tk s (eH cf mf kp is))=(rj cf mf s i).bind λs'=>if (il j tk).all (λp=>!(dW s i.dst i.op).contains p.2 && (look s'.bx p.2).isSome && !(i.dst ==some p.2))=true then Io (eH cf mf kp is (il j tk) s') else none:=by
       simp only[j6];cases rj cf mf s i with
       |none=>rfl
       |some s'=>simp only[cO];split<;>rfl
      rw[Xa];refine zr hG h hk (run:=λs'=>if (il j tk).all (λp=>!(dW s i.dst i.op).contains p.2 && (look s'.bx p.2).isSome && !(i.dst ==some p.2))=true then Io (eH cf mf kp is (il j tk) s') else none) (λS' gy s' t outs h' gf pq=>?_) hA
      split at pq
      ·rename_i ha;have hc:(il j tk).all (λp=>!(dW s i.dst i.op).contains p.2 && (look s'.bx p.2).isSome && !(i.dst ==some p.2))=true:=by
        rw[aS];intro p hp;have Gx:=ti (j:=j) ht p hp;obtain⟨h1,h2⟩:=lj p Gx;have h3:=aS.1 ha p Gx;have h4:(look s'.bx p.2).isSome=true:=by
         obtain⟨xs,hx⟩:=bF.1 h3;obtain⟨cs,Dd,_⟩:=h'.bx p.2 xs hx;rw[Dd];rfl
        rw[h1,h2,h4];rfl
       show Fits G t outs gy (if _ then _ else _);rw[if_pos hc];exact sC hG (ti ht) h' gf pq
      ·cases pq
     have fB:=sC hG ht h hk hB;intro j' σ hd;simp only[dL]at hd;obtain⟨d1,d2⟩:=Pv hd;obtain⟨o,sA,g1,g2,g3,g4⟩:=fA.more q2 j' σ d1;obtain⟨o',sB,w1,w2,w3,w4⟩:=fB.map q1 j' σ d2;rw[g1]at w1;cases w1;have XB:∃a,j6 cf mf ⟨j,q,al,dn,i⟩ tk s (eH cf mf kp is)=some a:=by
      cases hx:j6 cf mf ⟨j,q,al,dn,i⟩ tk s (eH cf mf kp is) with
      |none=>rw[hx]at g2;cases g2
      |some a=>exact⟨a,rfl⟩
     have V9:∃b,eH cf mf kp r tk s=some b:=by
      cases hx:eH cf mf kp r tk s with
      |none=>rw[hx]at w2;cases w2
      |some a=>exact⟨a,rfl⟩
     obtain⟨a,ha⟩:=XB;obtain⟨b,hb⟩:=V9;have ka:∃s0:St,a=s0.cG kp:=by
      have LL:=ha;simp only[j6]at LL
      split at LL
      ·split at LL
       ·exact kK LL
       ·cases LL
      ·cases LL
     obtain⟨a0,rfl⟩:=ka;obtain⟨b0,rfl⟩:=kK hb;rw[ha]at g2;rw[hb]at w2;simp only[Io,aa,ao]at g2 w2;obtain⟨ex,rfl⟩:=g2;obtain⟨_,rfl⟩:=w2;have he:=Ra g4 w4 (aS.1 ags o (Mx g1));refine⟨o,_,g1,?_,g3,g4⟩;simp only[eH,ha,hb,both,he,if_true,Io,ex]
    ·cases hs
   ·cases hs
  ·cases hs
 | .op ⟨j,q,al,dn,i⟩ is,tk,KS,S,kn,ρ,s,t,outs,ht,h,hk,hs=>by
  simp only[vG]at hs
  split at hs
  ·rename_i hq;subst hq
   split at hs
   ·rename_i hp
    split at hs
    ·rename_i b hb;obtain⟨tk',h1,h2⟩:=RY (cf:=cf) (mf:=mf) (kp:=kp) (j:=j) (al:=al) (dn:=dn) (is:=is) (tk:=tk) h hk hp hb;rw[h2];have Xa:Io ((rj cf mf s i).bind (eH cf mf kp is tk'))=(rj cf mf s i).bind λs'=>Io (eH cf mf kp is tk' s'):=by cases rj cf mf s i<;>rfl
     rw[Xa];exact zr hG h hk (run:=λs'=>Io (eH cf mf kp is tk' s')) (λS' gy s' t outs h' gf pq=>sC hG (λp hp=>OE ht p (h1 p hp)) h' gf pq) hs
    ·cases hs
   ·cases hs
  ·rename_i hq;have hq:q=false:=by
    cases q with
    |false=>rfl
    |true=>exact absurd rfl hq
   subst hq
   split at hs
   ·rename_i ho;have lj:=Mz h ho;have Xa:Io (eH cf mf kp (.op ⟨j,false,al,dn,i⟩ is) tk s)=(rj cf mf s i).bind λs'=>if (il j tk).all (λp=>!(dW s i.dst i.op).contains p.2 && (look s'.bx p.2).isSome && !(i.dst ==some p.2))=true then Io (eH cf mf kp is (il j tk) s') else none:=by
     simp only[eH,j6,au,if_false];cases rj cf mf s i with
     |none=>rfl
     |some s'=>simp only[cO];split<;>rfl
    rw[Xa];refine zr hG h hk (run:=λs'=>if (il j tk).all (λp=>!(dW s i.dst i.op).contains p.2 && (look s'.bx p.2).isSome && !(i.dst ==some p.2))=true then Io (eH cf mf kp is (il j tk) s') else none) (λS' gy s' t outs h' gf pq=>?_) hs
    split at pq
    ·rename_i ha;have hc:(il j tk).all (λp=>!(dW s i.dst i.op).contains p.2 && (look s'.bx p.2).isSome && !(i.dst ==some p.2))=true:=by
      rw[aS];intro p hp;have Gx:=ti (j:=j) ht p hp;obtain⟨h1,h2⟩:=lj p Gx;have h3:=aS.1 ha p Gx;have h4:(look s'.bx p.2).isSome=true:=by
       obtain⟨xs,hx⟩:=bF.1 h3;obtain⟨cs,Dd,_⟩:=h'.bx p.2 xs hx;rw[Dd];rfl
      rw[h1,h2,h4];rfl
     show Fits G t outs gy (if _ then _ else _);rw[if_pos hc];exact sC hG (ti ht) h' gf pq
    ·cases pq
   ·cases hs
end
end
section
def TX{α:Type}(k:α->Option (ST×List SO)):List α->List SO->Option (ST×List SO)
 |[],acc=>some (.nil,acc)
 |v::vs,acc=>match k v with
  |some (t,os)=>match m_ os acc with
   |(f,Jn)=>match TX k vs Jn with
    |some (ts,M5)=>some (.cons (Ig f t) ts,M5)
    |none=>none
  |none=>none
def BY:Nat->Nat->List SE
 |_,0=>[]
 |c,m+1=>.v c::BY (c+1) m
def idO(o:SO):ST×List SO:=(.leaf 0 (BY 0 o.m),[o])
def GU(id:Nat)(o:SO):SO:=if o.x=some (some id) then {o with x:=none } else o
def Hb:List SO->List SO->List SO->List Nat×List SO×List SO
 |[],hs,outs=>([],hs,outs)
 |o::os,hs,outs=>if o.x=none then (match Ch o hs with
   |(j,pq)=>match Hb os pq outs with
    |(f,r)=>(2 * j::f,r))
  else match Ch o outs with
   |(j,outs')=>match Hb os hs outs' with
    |(f,r)=>((2 * j+1)::f,r)
def Mk(k:SS->Nat->Option (ST×List SO)):Nat->Nat->List SO->List SO->Option (ST×List SO×List SO)
 |0,_,_,_=>none
 |fuel+1,i,hs,outs=>match nth hs i with
  |none=>some (.nil,hs,outs)
  |some o=>match k o.S o.m with
   |some (t,os)=>match Hb os hs outs with
    |(f,pq,outs')=>match Mk k fuel (i+1) pq outs' with
     |some (ts,r)=>some (.cons (.map f t) ts,r)
     |none=>none
   |none=>none
def Xf(S:SS):SB->SB
 | .ref r=>match look S.rw r with
  |some x=>.d x.e
  |none=>.any
 |x=>x
def kn0:Gs:=[(.k (.bool true),true),(.k (.bool false),false)]
def nu(hint:List Nat)(jA:List (Nat×lI)):K->SS->Nat->Option (ST×List SO)
 | .skip,S,_=>some (A9 none [] S)
 | .exit id,S,_=>some (A9 (some (some id)) [] S)
 | .ret,S,_=>some (A9 (some none) [] S)
 | .cz ops kp,S,m=>BT hint jA kp ops S kn0 m
 | .Lp ops kp,S,m=>vG hint jA kp ops [] S kn0 m
 | .seq a b,S,m=>match nu hint jA a S m with
  |some (ta,oa)=>match TX (λo=>if o.x=none then nu hint jA b o.S o.m else some (idO o)) oa []with
   |some (ts,outs)=>some (.seq ta ts,outs)
   |none=>none
  |none=>none
 | .cond c a b,S,m=>match sD (eQ S [] c),nu hint jA a S m,nu hint jA b S m with
  |some e,some (ta,oa),some (tb,ob)=>match m_ ob oa with
   |(f,outs)=>some (.gd [(e,true)] ta (Ig f tb),outs)
  |_,_,_=>none
 | .block id a,S,m=>match nu hint jA a S m with
  |some (t,outs)=>match m_ (outs.map (GU id)) []with
   |(f,outs')=>some (Ig f t,outs')
  |none=>none
 | .share r a,S,m=>match mV S [r]with
  |some S'=>nu hint jA a S' m
  |none=>none
 | .I9 d a,S,m=>match look S.sl d with
  |some ⟨[],.b (.ref r)⟩=>match look S.rw r with
   |some x=>nu hint jA a ((S.setRow r x.share).put (some d) ⟨[],.b (.d x.e)⟩) m
   |none=>none
  |some ⟨[],.b (.d _)⟩=>nu hint jA a S m
  |some ⟨[],.b (.nil _ _)⟩=>nu hint jA a S m
  |some ⟨[],.ptr b 0⟩=>match look S.bx b with
   |some xs=>match mV S (fo xs) with
    |some S'=>if xs.all SB.cell=true then nu hint jA a (S'.eN b (xs.map (Xf S))) m else none
    |none=>none
   |none=>none
  |_=>none
 | .loop a,S,m=>match Na [] S with
  |(S',es)=>match Mk (nu hint jA a) 40 0 [⟨none,S',es.length⟩] []with
   |some (ts,_,outs)=>some (.loop 0 es ts,outs)
   |none=>none
section
variable {ρ:List D} {S:SS} {s:St} {G:Gf} {T:Nat->Option KF} {mf:Mf} {jA:List (Nat×lI)} {hint:List Nat}
theorem Lx{α:Type}{k:α->Option (ST×List SO)}:∀{vs:List α} {acc jR:List SO} {ts:ST},TX k vs acc=some (ts,jR)->
  (∀i x,nth acc i=some x->nth jR i=some x)/\∀j v,nth vs j=some v->∃t os,k v=some (t,os)/\∀run ρ,Fits G t os ρ run->O8 G ts j jR ρ run
 |[],acc,jR,ts,h=>by cases h;exact⟨λ_ _ hx=>hx,λj v hv=>(by cases hv)⟩
 |v::vs,acc,jR,ts,h=>by
  simp only[TX]at h
  split at h
  ·rename_i t os hk;generalize hq:m_ os acc=q at h;obtain⟨f,Jn⟩:=q;simp only at h
   split at h
   ·rename_i ts' M5 hf;cases h;obtain⟨h1,h2⟩:=nG hq;obtain⟨h3,h4⟩:=Lx hf;refine⟨λi x hx=>h3 i x (h2 i x hx),λj w hw=>?_⟩;cases j with
    |zero=>
     cases hw;refine⟨t,os,hk,λrun ρ wH i σ hd=>?_⟩;have:=wH.map (f:=f) (outs':=jR) (λi o ho=>by obtain⟨j,q1,q2⟩:=h1 i o ho;exact⟨j,q1,h3 j o q2⟩);exact this i σ hd
    |succ j=>
     obtain⟨t',RM,g1,g2⟩:=h4 j w hw;exact⟨t',RM,g1,λrun ρ wH i σ hd=>g2 run ρ wH i σ hd⟩
   ·cases h
  ·cases h
theorem IY:∀{σ σ0:List D},gU (σ0++σ) (BY σ0.length σ.length)=some σ
 |[],_=>rfl
 |x::σ,σ0=>by
  have h1:SE.d (σ0++x::σ) (.v σ0.length)=some x:=iD σ0 x σ;have h2:=IY (σ:=σ) (σ0:=σ0++[x]);rw[aO,bh]at h2;simp only[aE,BY,gU,h1];have h3:gU (σ0++x::σ) (BY (σ0.length+1) σ.length)=some σ:=h2;rw[h3];rfl
theorem Yb{o:SO}(hl:ρ.length=o.m)(h:Rel ρ o.S s):Fits G (idO o).1 (idO o).2 ρ (some (Nq o.x,s)):=by
 intro j σ hd;simp only[idO,dL]at hd;have:=IY (σ:=ρ) (σ0:=[]);simp only[ak,aQ,hl]at this;rw[this]at hd;cases hd;exact⟨o,s,rfl,rfl,hl,h⟩
theorem El:∀{os hs outs:List SO} {f:List Nat} {pq outs':List SO},Hb os hs outs=(f,pq,outs')->
  (∀i x,nth hs i=some x->nth pq i=some x)/\(∀i x,nth outs i=some x->nth outs' i=some x)/\
  ∀i o,nth os i=some o->∃c,nth f i=some c/\if o.x=none then (∃j,c=2 * j/\nth pq j=some o) else ∃j,c=2 * j+1/\nth outs' j=some o
 |[],hs,outs,f,pq,outs',h=>by cases h;exact⟨λ_ _ h=>h,λ_ _ h=>h,λi o ho=>(by cases ho)⟩
 |o::os,hs,outs,f,pq,outs',h=>by
  simp only[Hb]at h
  split at h
  ·rename_i hx;generalize hq:Ch o hs=q at h;obtain⟨j,X3⟩:=q;simp only at h
   generalize XZ:Hb os X3 outs=q at h;obtain⟨f',hs2,acv⟩:=q;cases h;obtain⟨h1,h2⟩:=yK o hq;obtain⟨h3,h4,h5⟩:=El XZ;refine⟨λi x hx=>h3 i x (h2 i x hx),h4,λi p hp=>?_⟩;cases i with
   |zero=>cases hp;exact⟨2 * j,rfl,by rw[if_pos hx];exact⟨j,rfl,h3 j _ h1⟩⟩
   |succ i=>exact h5 i p hp
  ·rename_i hx;generalize hq:Ch o outs=q at h;obtain⟨j,acu⟩:=q;simp only at h
   generalize XZ:Hb os hs acu=q at h;obtain⟨f',hs2,acv⟩:=q;cases h;obtain⟨h1,h2⟩:=yK o hq;obtain⟨h3,h4,h5⟩:=El XZ;refine⟨h3,λi x hx=>h4 i x (h2 i x hx),λi p hp=>?_⟩;cases i with
   |zero=>cases hp;exact⟨2 * j+1,rfl,by rw[if_neg hx];exact⟨j,rfl,h4 j _ h1⟩⟩
   |succ i=>exact h5 i p hp
theorem Ia{k:SS->Nat->Option (ST×List SO)}:∀{fuel i:Nat} {hs outs H O:List SO} {ts:ST},Mk k fuel i hs outs=some (ts,H,O)->
  (∀j x,nth hs j=some x->nth H j=some x)/\(∀j x,nth outs j=some x->nth O j=some x)/\
  ∀j o,nth H (i+j)=some o->∃t os f,k o.S o.m=some (t,os)/\(∀ρ,dL G ts j ρ=dL G (.map f t) 0 ρ)/\∀l o',nth os l=some o'->∃c,nth f l=some c/\if o'.x=none then (∃j,c=2 * j/\nth H j=some o') else ∃j,c=2 * j+1/\nth O j=some o'
 |0,_,_,_,_,_,_,h=>by cases h
 |fuel+1,i,hs,outs,H,O,ts,h=>by
  simp only[Mk]at h
  split at h
  ·rename_i hn;cases h;refine⟨λ_ _ h=>h,λ_ _ h=>h,λj o ho=>?_⟩
   exfalso
   have h1:=xi ho;have h2:∀{l:List SO} {i:Nat},nth l i=none->l.length<=i:=by
    intro l
    induction l with
    |nil=>intro i _;exact qL _
    |cons x l ih=>
     intro i hi;cases i with
     |zero=>cases hi
     |succ i=>have:=ih (i:=i) hi;simp only[aE];omega
   have:=h2 hn;omega
  ·rename_i o ho
   split at h
   ·rename_i t os hk;generalize hq:Hb os hs outs=q at h;obtain⟨f,pq,outs'⟩:=q;simp only at h
    split at h
    ·rename_i ts' r hr;obtain⟨H',O'⟩:=r;cases h;obtain⟨h1,h2,h3⟩:=El hq;obtain⟨h4,h5,h6⟩:=Ia hr;refine⟨λj x hx=>h4 j x (h1 j x hx),λj x hx=>h5 j x (h2 j x hx),λj p hp=>?_⟩;cases j with
     |zero=>
      rw[eA,h4 i o (h1 i o ho)]at hp;cases hp;refine⟨t,os,f,hk,λρ=>rfl,λl o' hl=>?_⟩;obtain⟨c,q1,q2⟩:=h3 l o' hl;refine⟨c,q1,?_⟩
      split at q2
      ·rename_i hx;rw[if_pos hx];obtain⟨j,q3,q4⟩:=q2;exact⟨j,q3,h4 j o' q4⟩
      ·rename_i hx;rw[if_neg hx];obtain⟨j,q3,q4⟩:=q2;exact⟨j,q3,h5 j o' q4⟩
     |succ j=>
      obtain⟨t',RM,f',g1,g2,g3⟩:=h6 j p (by rw[dv,Nat.add_comm 1 j];exact hp);exact⟨t',RM,f',g1,λρ=>g2 ρ,g3⟩
    ·cases h
   ·cases h
theorem Sy{g:St->Option (Ex×St)}{x:SX}{s:St}(h:x≠none):Cz g (some (Nq x,s))=some (Nq x,s):=by
 cases x with
 |none=>exact absurd rfl h
 |some y=>cases y<;>rfl
theorem aaB{id:Nat}{o:SO}{s:St}:Ps id (some (Nq o.x,s))=some (Nq (GU id o).x,s):=by
 unfold GU;split
 ·rename_i h;rw[h];simp[Nq,Ps]
 ·rename_i h;rcases hx:o.x with _|_|i
  ·rfl
  ·rfl
  ·have:i≠id:=by rintro rfl;exact h hx
   simp[Nq,Ps,this]
theorem Iq{α β:Type}(f:α->β):∀{l:List α} {i:Nat} {x:α},nth l i=some x->nth (l.map f) i=some (f x)
 |_::_,0,_,h=>by cases h;rfl
 |_::l,i+1,_,h=>Iq f (l:=l) h
 |[],_,_,h=>by cases h
theorem BL:∀{rs:List Nat} {S S':SS},mV S rs=some S'->∀r∈rs,∃x y,look S.rw r=some x/\look S'.rw r=some y
 |[],_,_,_,r,hr=>by cases hr
 |q::rs,S,S',h,r,hr=>by
  simp only[mV]at h
  split at h
  ·rename_i x hx;have cG:∀{rs:List Nat} {S S':SS} {r:Nat} {y:SR},mV S rs=some S'->look S.rw r=some y->∃z,look S'.rw r=some z:=by
    intro rs
    induction rs with
    |nil=>intro S S' r y h hy;cases h;exact⟨y,hy⟩
    |cons a rs ih=>
     intro S S' r y h hy;simp only[mV]at h
     split at h
     ·rename_i z hz;by_cases ha:a=r
      ·exact ih h (y:=z.share) (by simp[SS.setRow,look,ha])
      ·exact ih h (y:=y) (by simp only[SS.setRow,look,if_neg ha,dM];exact hy)
     ·cases h
   rcases ay.1 hr with rfl|hr
   ·obtain⟨z,hz⟩:=cG h (r:=r) (y:=x.share) (by simp[SS.setRow,look]);exact⟨x,z,hx,hz⟩
   ·obtain⟨x',y,g1,g2⟩:=BL h r hr;by_cases ha:q=r
    ·exact⟨x,y,ha▸hx,g2⟩
    ·simp only[SS.setRow,look,if_neg ha,dM]at g1;exact⟨x',y,g1,g2⟩
  ·cases h
theorem Ll(h:Rel ρ S s):∀{xs:List SB} {cs:List C},(∀r∈fo xs,∃x,look S.rw r=some x)->dw ρ xs cs->dw ρ (xs.map (Xf S)) (cs.map (Nf s))
 |[],_,_,hx=>by simp only[dw]at hx;subst hx;rfl
 |x::xs,_,hr,⟨c,cs,h0,h1,h2⟩=>by
  subst h0;refine⟨_,_,rfl,?_,Ll h (λr hm=>hr r (by cases x<;>simp_all[fo])) h2⟩;cases x with
  |ref r=>
   obtain⟨y,hy⟩:=hr r (by simp[fo]);obtain⟨z,g1,es,g2,rfl⟩:=h.rw r y hy;simp only[iV]at h1;subst h1;simp only[Xf,hy,Nf,g1];exact⟨_,g2,rfl⟩
  |d e=>obtain⟨y,g1,rfl⟩:=h1;exact⟨y,g1,rfl⟩
  |nil k fl=>simp only[iV]at h1;subst h1;rfl
  |any=>trivial
theorem kA(hG:TC (dd T) jA G):∀(k:K) {S:SS} {ρ:List D} {s:St} {t:ST} {outs:List SO},Rel ρ S s->nu hint jA k S ρ.length=some (t,outs)->Fits G t outs ρ (ev T mf k s)
 | .skip,S,ρ,s,t,outs,h,hs=>by
  simp only[nu,aa]at hs;rw[Lv];exact sb h rfl hs
 | .exit id,S,ρ,s,t,outs,h,hs=>by
  simp only[nu,aa]at hs;rw[Lu];exact sb h rfl hs
 | .ret,S,ρ,s,t,outs,h,hs=>by
  simp only[nu,aa]at hs;rw[Qm];exact sb h rfl hs
 | .cz ops kp,S,ρ,s,t,outs,h,hs=>by
  simp only[nu]at hs;rw[Ql];exact DW hG h rfl hs
 | .Lp ops kp,S,ρ,s,t,outs,h,hs=>by
  simp only[nu]at hs;rw[Qk];exact sC hG (λ_ hp=>hp) h rfl hs
 | .seq a b,S,ρ,s,t,outs,h,hs=>by
  simp only[nu]at hs
  split at hs
  ·rename_i ta oa hA
   split at hs
   ·rename_i ts outs' hf;cases hs;have hfa:=kA hG a h hA;obtain⟨_,h2⟩:=Lx (G:=G) hf;intro j σ hd;simp only[dL]at hd
    split at hd
    ·rename_i j0 σ0 h0;obtain⟨o,s',g1,g2,g3,g4⟩:=hfa j0 σ0 h0;obtain⟨t',RM,g5,g6⟩:=h2 j0 o g1;rw[Qn,g2]
     split at g5
     ·rename_i hx;rw[<- g3]at g5;have hfb:=kA hG b g4 g5;rw[hx];exact g6 _ σ0 hfb j σ hd
     ·rename_i hx;simp only[aa]at g5;have hi:=Yb (G:=G) g3 g4;rw[g5]at hi;rw[Sy hx];exact g6 _ σ0 hi j σ hd
    ·cases hd
   ·cases hs
  ·cases hs
 | .cond c a b,S,ρ,s,t,outs,h,hs=>by
  simp only[nu]at hs
  split at hs
  ·rename_i e ta oa tb ob hc hA hB;generalize hq:m_ ob oa=q at hs;obtain⟨f,outs'⟩:=q;cases hs;obtain⟨q1,q2⟩:=nG hq;obtain⟨y,w1,w2⟩:=j9 h (gs:=[]) rfl hc;rw[Ev,w2];refine LG (λhg=>?_) λhg=>?_
   ·have:=lP hg (e,true) (by simp);simp only[w1,aa]at this;subst this;exact (kA hG a h hA).more q2
   ·obtain⟨p,hp,he⟩:=Ao hg;simp only[ct]at hp;subst hp;simp only[w1,aa]at he;subst he;exact (kA hG b h hB).map q1
  ·cases hs
 | .block id a,S,ρ,s,t,outs,h,hs=>by
  simp only[nu]at hs
  split at hs
  ·rename_i t' WN hA;generalize hq:m_ (WN.map (GU id)) []=q at hs;obtain⟨f,outs'⟩:=q;cases hs;obtain⟨q1,_⟩:=nG hq;have hfa:=kA hG a h hA;rw[Ho];refine Fits.map (outs:=WN.map (GU id)) ?_ q1;intro j σ hd;obtain⟨o,s',g1,g2,g3,g4⟩:=hfa j σ hd;refine⟨GU id o,s',Iq _ g1,by rw[g2,aaB],?_,?_⟩
   ·rw[g3];unfold GU;split<;>rfl
   ·unfold GU;split<;>exact g4
  ·cases hs
 | .share r a,S,ρ,s,t,outs,h,hs=>by
  simp only[nu]at hs
  split at hs
  ·rename_i S' hS;rw[Hp];exact kA hG a (nE h hS) hs
  ·cases hs
 | .I9 d a,S,ρ,s,t,outs,h,hs=>by
  simp only[nu]at hs;rw[Qj];have key:∀{c:SC},look S.sl d=some ⟨[],c⟩->jQ ρ c (s.get d):=λhl=>by
   obtain⟨b,h1,h2,_⟩:=h.sl d _ hl;cases h1;exact h2 rfl
  split at hs
  ·rename_i r hl;have hr:=key hl;simp only[jQ,iV]at hr
   split at hs
   ·rename_i x hx;obtain⟨y,h1,es,h2,rfl⟩:=h.rw r x hx;have hd:qe s d=some ((dJ s [r]).put (some d) (.d (.list x.k x.fl es))):=by simp only[qe,hr,h1]
    rw[hd,cO];refine kA hG a (Rel.put ?_ _ (pU.nil (c:=.b (.d x.e)) ⟨_,h2,rfl⟩)) hs;have:=nE (rs:=[r]) (S':=S.setRow r x.share) h (by simp[mV,hx]);exact this
   ·cases hs
  ·rename_i e hl;obtain⟨y,_,hr⟩:=key hl;have hd:qe s d=some s:=by simp only[qe,hr]
   rw[hd,cO];exact kA hG a h hs
  ·rename_i k fl hl;have hr:=key hl;simp only[jQ,iV]at hr;have hd:qe s d=some s:=by simp only[qe,hr]
   rw[hd,cO];exact kA hG a h hs
  ·rename_i b hl;have hr:=key hl;simp only[jQ]at hr
   split at hs
   ·rename_i xs hx
    split at hs
    ·rename_i S' hS
     split at hs
     ·rename_i hc;obtain⟨cs,h1,h2⟩:=h.bx b xs hx;have qX:=mc h2 hc;have hd:qe s d=some ((dJ s (rowsOf cs)).eN b (cs.map (Nf s))):=by simp only[qe,hr,h1]
      rw[hd,cO,qX];refine kA hG a (Rel.eN (nE h hS) b ?_) hs;exact Ll h (λr hm=>by obtain⟨x,_,g,_⟩:=BL hS r hm;exact⟨x,g⟩) h2
     ·cases hs
    ·cases hs
   ·cases hs
  ·cases hs
 | .loop a,S,ρ,s,t,outs,h,hs=>by
  simp only[nu]at hs;generalize hq:Na [] S=q at hs;obtain⟨S',es⟩:=q;simp only at hs
  split at hs
  ·rename_i ts H O hL;cases hs;obtain⟨h1,_,h3⟩:=Ia (G:=G) hL;intro j σ hd;simp only[dL]at hd
   split at hd
   ·rename_i σ0 h0;have lQ:=JP hd;have step:∀{p:Nat×List D} {sg:Sg (Nat×List D) (Nat×List D)} {o:SO} {s:St},An (dL G ts p.1 p.2)=some sg->nth H p.1=some o->p.2.length=o.m->Rel p.2 o.S s->
      ∃o' s' j VT,ev T mf a s=some (Nq o'.x,s')/\VT.length=o'.m/\Rel VT o'.S s'/\((o'.x=none/\sg=.go (j,VT)/\nth H j=some o')\/(o'.x≠none/\sg=.out (j,VT)/\nth outs j=some o')):=by
     intro p sg o s hb ho hl hR;obtain⟨t,os,f,g1,g2,g3⟩:=h3 p.1 o (by rw[bo];exact ho);rw[g2]at hb;simp only[dL]at hb;rw[<- hl]at g1;have hfa:=kA hG a hR g1
     split at hb
     ·rename_i l VT h0;obtain⟨o',s',w1,w2,w3,w4⟩:=hfa l VT h0;obtain⟨c,q1,q2⟩:=g3 l o' w1;rw[q1]at hb;simp only[aB,An,aa]at hb;refine⟨o',s',c / 2,VT,w2,w3,w4,?_⟩
      split at q2
      ·rename_i hx;obtain⟨j,rfl,q3⟩:=q2;rw[if_pos (by omega)]at hb;have e:2 * j / 2=j:=by omega
       exact .inl ⟨hx,hb.symm,by rw[e];exact q3⟩
      ·rename_i hx;obtain⟨j,rfl,q3⟩:=q2;rw[if_neg (by omega)]at hb;have e:(2 * j+1) / 2=j:=by omega
       exact .inr ⟨hx,hb.symm,by rw[e];exact q3⟩
     ·cases hb
    have main:∀{p r:Nat×List D},vU (λp=>An (dL G ts p.1 p.2)) p r->∀{o:SO} {s:St},nth H p.1=some o->p.2.length=o.m->Rel p.2 o.S s->∃o' s',nth outs r.1=some o'/\ev T mf (.loop a) s=some (Nq o'.x,s')/\r.2.length=o'.m/\Rel r.2 o'.S s':=by
     intro p r hr
     induction hr with
     |out hb=>
      intro o s ho hl hR;obtain⟨o',s',j,VT,w1,w2,w3,w4⟩:=step hb ho hl hR;rcases w4 with ⟨_,w5,_⟩|⟨w5,w6,w7⟩
      ·cases w5
      ·cases w6;exact⟨o',s',w7,by rw[fG,w1,Sy w5],w2,w3⟩
     |go hb yW ih=>
      intro o s ho hl hR;obtain⟨o',s',j,VT,w1,w2,w3,w4⟩:=step hb ho hl hR;rcases w4 with ⟨w5,w6,w7⟩|⟨_,w6,_⟩
      ·cases w6;obtain⟨o2,s2,v1,v2,v3⟩:=ih w7 w2 w3;refine⟨o2,s2,v1,?_,v3⟩;rw[fG,w1,w5];exact v2
      ·cases w6
    exact main lQ (h1 0 _ rfl) (jr h0) (Li h rfl hq h0)
   ·cases hd
  ·cases hs
end
end
section
def tQ:Nat->List SA->Nat->SS->Option SS
 |_,[],_,S=>some S
 |p,.val ag l::as,c,S=>match J5 p 0 l c S with
  |(xs,S')=>if ag=true then tQ (p+1) as (c+l.length) (S'.put (some p) ⟨[],.agg xs⟩) else match xs with
   |[x]=>tQ (p+1) as (c+l.length) (S'.put (some p) ⟨[],.b x⟩)
   |_=>none
 |p,.box l::as,c,S=>match J5 (p+500) 0 l c S with
  |(xs,S')=>tQ (p+1) as (c+l.length) ((S'.jK (900+p) xs).put (some p) ⟨[],.ptr (900+p) 0⟩)
def ZT(S:SS)(ag:Bool)(xs:List SB):Option (SA×List SE×List Nat):=
 match fk (ZU S) xs with
 |some l=>some (.val ag (l.map (·.1)),l.map (·.2),fo xs)
 |none=>none
def MJ(S:SS):KR->Option (SA×List SE×List Nat)
 | .t d=>match look S.sl d with
  |some ⟨[],c⟩=>match c.cells with
   |some xs=>ZT S c.isAgg xs
   |none=>none
  |_=>none
 | .c d n=>match look S.sl d with
  |some ⟨[],.ptr b 0⟩=>match look S.bx b with
   |some xs=>if n=0 then (match xs with
     |[x]=>ZT S false [x]
     |_=>none) else if xs.length=n then ZT S true xs else none
   |none=>none
  |_=>none
def FR(S:SS):List KR->Option (List SA×List SE×List Nat)
 |[]=>some ([],[],[])
 |r::rs=>match MJ S r,FR S rs with
  |some (a,es,l),some (as,fs,l')=>some (a::as,es++fs,l++l')
  |_,_=>none
def xo(S:SS):Nat->List SA->Option (List SA×List SE×List Nat)
 |_,[]=>some ([],[],[])
 |p,.val _ _::as=>xo S (p+1) as
 |p,.box _::as=>match look S.bx (900+p) with
  |some xs=>match fk (ZU S) xs,xo S (p+1) as with
   |some l,some (bs,fs,l')=>some (.box (l.map (·.1))::bs,l.map (·.2)++fs,fo xs++l')
   |_,_=>none
  |none=>none
def idxOf{α:Type}[DecidableEq α](x:α):List α->Option Nat
 |[]=>none
 |y::l=>if y=x then some 0 else (idxOf x l).map (·+1)
def Fu(kf:KF)(sg:lI)(o:SO):Option ST:=
 if o.x=none\/o.x=some none then
  match FR o.S kf.res,xo o.S 0 sg.args with
  |some (rs,es,l),some (os,fs,l')=>if iR (l++l')=true then (match idxOf (rs,os) sg.res with
   |some j=>some (.leaf j (es++fs))
   |none=>none) else none
  |_,_=>none
 else none
def y_(kf:KF)(sg:lI):List SO->Option ST
 |[]=>some .nil
 |o::os=>match Fu kf sg o,y_ kf sg os with
  |some t,some ts=>some (.cons t ts)
  |_,_=>none
def Sf(hint:List Nat)(jA:List (Nat×lI))(kf:KF)(sg:lI):Option ST:=
 match tQ 0 sg.args 0 ⟨[],[],[]⟩ with
 |some S=>match nu hint jA kf.body S (uV sg.args) with
  |some (t,outs)=>match y_ kf sg outs with
   |some ts=>some (.seq t ts)
   |none=>none
  |none=>none
 |none=>none
section
variable {ρ:List D} {S:SS} {s:St}
theorem sL:∀{l:List SA} {p c:Nat} {S S':SS} {s:St} {us:List D} {as:List A},Rel ρ S s->fZ l us=some as->Loc ρ c us->tQ p l c S=some S'->Rel ρ S' (iB p as s)
 |[],p,c,S,S',s,us,as,h,he,hl,hs=>by
  cases us with
  |nil=>cases he;cases hs;exact h
  |cons u us=>cases he
 | .val ag l::as,p,c,S,S',s,us,rs,h,he,hl,hs=>by
  obtain⟨r,Cx,h1,h2,rfl⟩:=gD he;simp only[kZ]at h1;obtain⟨vs,h3,rfl⟩:=ad.1 h1;simp only[tQ]at hs;generalize hq:J5 p 0 l c S=q at hs;obtain⟨xs,S1⟩:=q;simp only at hs
  obtain⟨cs,s1,w1,w2,w3⟩:=wL h h3 (hl.take _) hq;simp only[iB,wo,w1]
  split at hs
  ·rename_i sQ;rw[if_pos sQ];exact sL (w2.put (some p) (pU.nil (c:=.agg xs) ⟨cs,rfl,w3⟩)) h2 (hl.drop _) hs
  ·rename_i sQ;rw[if_neg sQ]
   split at hs
   ·obtain⟨c0,cs0,rfl,u1,u2⟩:=w3;exact sL (w2.put (some p) (pU.nil (c:=.b _) u1)) h2 (hl.drop _) hs
   ·cases hs
 | .box l::as,p,c,S,S',s,us,rs,h,he,hl,hs=>by
  obtain⟨r,Cx,h1,h2,rfl⟩:=gD he;simp only[kZ]at h1;obtain⟨vs,h3,rfl⟩:=ad.1 h1;simp only[tQ]at hs;generalize hq:J5 (p+500) 0 l c S=q at hs;obtain⟨xs,S1⟩:=q;simp only at hs
  obtain⟨cs,s1,w1,w2,w3⟩:=wL h h3 (hl.take _) hq;simp only[iB,wo,w1];exact sL ((w2.jK (900+p) w3).put (some p) pU.ptr) h2 (hl.drop _) hs
theorem K5(h:Rel ρ S s){xs:List SB}{vs:List C}{ag:Bool}{a:SA}{es:List SE}{l:List Nat}(hv:dw ρ xs vs)(hw:ZT S ag xs=some (a,es,l)) :
  ∃ws rs,gU ρ es=some ws/\fk (iK s) vs=some rs/\kZ a ws=some (.val ag rs)/\ws.length=a.n/\rowsOf vs=l:=by
 unfold ZT at hw
 split at hw
 ·rename_i ps hp;cases hw;obtain⟨ys,rs,h1,h2,h3⟩:=zu h hv hp;exact⟨ys,rs,h1,h2,by simp only[kZ,h3,aB],lO h3,mc hv (pL (p:=SB.cell) (λ_ _=>vM) hp)⟩
 ·cases hw
theorem SZ{xs:List SB}{ag:Bool}{r:SA×List SE×List Nat}(hw:ZT S ag xs=some r):xs.all SB.cell=true:=by
 unfold ZT at hw
 split at hw
 ·rename_i ps hp;exact pL (p:=SB.cell) (λ_ _=>vM) hp
 ·cases hw
theorem W7{c:SC}{v:C}{xs:List SB}(hv:jQ ρ c v)(hc:c.cells=some xs)(jU:xs.all SB.cell=true):v.isAgg=c.isAgg:=by
 cases c with
 |b x=>
  cases hc;have:=iV.cell hv (by simpa using jU);cases v<;>first|rfl|cases this
 |agg ys=>obtain⟨cs,rfl,_⟩:=hv;rfl
 |_=>cases hc
theorem R6(h:Rel ρ S s){r:KR}{a:SA}{es:List SE}{l:List Nat}(hr:MJ S r=some (a,es,l)):∃ws x,FQ s r=some (x,l)/\gU ρ es=some ws/\kZ a ws=some x/\ws.length=a.n:=by
 cases r with
 |t d=>
  simp only[MJ]at hr
  split at hr
  ·rename_i c hl;obtain⟨b,h1,h2,_⟩:=h.sl d _ hl;cases h1;have hv:=h2 rfl
   split at hr
   ·rename_i xs hc;have jU:=SZ hr;obtain⟨ws,rs,q1,q2,q3,q4,q5⟩:=K5 h (hv.cells hc jU) hr;have sQ:=W7 hv hc jU;simp only at sQ q2 q5
    exact⟨ws,_,by simp only[FQ,q2,aB,sQ,q5],q1,q3,q4⟩
   ·cases hr
  ·cases hr
 |c d n=>
  simp only[MJ]at hr
  split at hr
  ·rename_i b hl;obtain⟨b',h1,h2,_⟩:=h.sl d _ hl;cases h1;have hv:=h2 rfl;simp only[jQ]at hv
   split at hr
   ·rename_i xs hb;obtain⟨cs,g1,g2⟩:=h.bx _ xs hb
    split at hr
    ·rename_i hn
     split at hr
     ·rename_i x;obtain⟨ws,rs,q1,q2,q3,q4,q5⟩:=K5 h g2 hr;obtain⟨c0,cs0,rfl,u1,u2⟩:=g2;simp only[dw]at u2;subst u2;exact⟨ws,_,by simp only[FQ,hv,g1,hn,if_true,q2,aB,q5],q1,q3,q4⟩
     ·cases hr
    ·rename_i hn
     split at hr
     ·rename_i hlen;obtain⟨ws,rs,q1,q2,q3,q4,q5⟩:=K5 h g2 hr;exact⟨ws,_,by simp only[FQ,hv,g1,if_neg hn];rw[if_pos (by rw[g2.len,hlen]),q2];simp only[aB,q5],q1,q3,q4⟩
     ·cases hr
   ·cases hr
  ·cases hr
theorem C1:∀{a:SA} {as:List SA} {ws us:List D} {x:A} {rs:List A},kZ a ws=some x->ws.length=a.n->fZ as us=some rs->fZ (a::as) (ws++us)=some (x::rs):=by
 intro a as ws us x rs h1 h2 h3;simp only[fZ,take_left' h2,drop_left' h2,h1,h3,aB]
theorem DP(h:Rel ρ S s):∀{rs:List KR} {as:List SA} {es:List SE} {l:List Nat},FR S rs=some (as,es,l)->∃ws xs,vB s rs=some (xs,l)/\gU ρ es=some ws/\fZ as ws=some xs
 |[],_,_,_,hr=>by cases hr;exact⟨[],[],rfl,rfl,rfl⟩
 |r::rs,as,es,l,hr=>by
  simp only[FR]at hr
  split at hr
  ·rename_i a Hm l1 Lc fs l2 h1 h2;cases hr;obtain⟨ws,x,q1,q2,q3,q4⟩:=R6 h h1;obtain⟨us,xs,w1,w2,w3⟩:=DP h h2;exact⟨ws++us,x::xs,by simp only[vB,q1,w1,aB],oB q2 w2,C1 q3 q4 w3⟩
  ·cases hr
theorem xp(h:Rel ρ S s):∀{args:List SA} {as:List A} {us:List D} {p:Nat} {bs:List SA} {es:List SE} {l:List Nat},fZ args us=some as->xo S p args=some (bs,es,l)->∃ws xs,sq s p as=some (xs,l)/\gU ρ es=some ws/\fZ bs ws=some xs
 |[],as,us,p,bs,es,l,he,hr=>by
  cases us with
  |nil=>cases he;cases hr;exact⟨[],[],rfl,rfl,rfl⟩
  |cons u us=>cases he
 | .val ag l0::args,as,us,p,bs,es,l,he,hr=>by
  obtain⟨r,Cx,h1,h2,rfl⟩:=gD he;simp only[kZ]at h1;obtain⟨vs,h3,rfl⟩:=ad.1 h1;simp only[xo]at hr;obtain⟨ws,xs,w1,w2,w3⟩:=xp h h2 hr;exact⟨ws,xs,by simp only[sq,On,w1,aB,ak],w2,w3⟩
 | .box l0::args,as,us,p,bs,es,l,he,hr=>by
  obtain⟨r,Cx,h1,h2,rfl⟩:=gD he;simp only[kZ]at h1;obtain⟨vs,h3,rfl⟩:=ad.1 h1;simp only[xo]at hr
  split at hr
  ·rename_i xs hb
   split at hr
   ·rename_i ps bs' fs l' hp ho;cases hr;obtain⟨cs,g1,g2⟩:=h.bx _ xs hb;obtain⟨ys,rs,q1,q2,q3⟩:=zu h g2 hp;obtain⟨ws,zs,w1,w2,w3⟩:=xp h h2 ho;have abw:=mc g2 (pL (p:=SB.cell) (λ_ _=>vM) hp);refine⟨ys++ws,.box rs::zs,?_,oB q1 w2,C1 (by simp only[kZ,q3,aB]) (lO q3) w3⟩;simp only[sq,On,g1,q2,w1,aB,abw,ai,ak]
   ·cases hr
  ·cases hr
theorem HP{α:Type}[DecidableEq α]{x:α}:∀{l:List α} {j:Nat},idxOf x l=some j->nth l j=some x
 |[],_,h=>by cases h
 |y::l,j,h=>by
  simp only[idxOf]at h
  split at h
  ·rename_i he;cases h;rw[he];rfl
  ·obtain⟨j',h1,rfl⟩:=ad.1 h;exact HP (l:=l) h1
theorem PW{v:List SA×List SA}{ws us:List D}{rs os:List A}(h1:fZ v.1 ws=some rs)(h2:fZ v.2 us=some os):u5 v (ws++us)=some (rs,os):=by
 have hl:=nz h1;simp only[u5,take_left' hl,drop_left' hl,h1,h2]
theorem Oc{G:Gf}{kf:KF}{sg:lI}{o:SO}{t:ST}{as:List A}{us:List D}(h:Rel ρ o.S s)(he:fZ sg.args us=some as)(hs:Fu kf sg o=some t){j:Nat}{σ:List D}(hd:dL G t 0 ρ=some (j,σ)) :
  ∃v r,nth sg.res j=some v/\u5 v σ=some r/\fin kf as (some (Nq o.x,s))=some r:=by
 unfold Fu at hs
 split at hs
 ·rename_i hx
  split at hs
  ·rename_i rs es l os fs l' h1 h2
   split at hs
   ·rename_i hn
    split at hs
    ·rename_i j0 hj;cases hs;obtain⟨ws,xs,q1,q2,q3⟩:=DP h h1;obtain⟨vs,ys,w1,w2,w3⟩:=xp h he h2;simp only[dL,oB q2 w2,aa,ao]at hd;obtain⟨rfl,rfl⟩:=hd;refine⟨(rs,os),(xs,ys),HP hj,PW q3 w3,?_⟩;have:leave kf as s=some (xs,ys):=by simp only[leave,q1,w1,hn,if_true]
     rcases hx with hx|hx<;>(rw[hx];exact this)
    ·cases hs
   ·cases hs
  ·cases hs
 ·cases hs
theorem Ba{G:Gf}{kf:KF}{sg:lI}:∀{outs:List SO} {ts:ST},y_ kf sg outs=some ts->∀j o,nth outs j=some o->∃t,Fu kf sg o=some t/\∀ρ,dL G ts j ρ=dL G t 0 ρ
 |[],ts,h,j,o,ho=>by cases ho
 |p::outs,ts,h,j,o,ho=>by
  simp only[y_]at h
  split at h
  ·rename_i t ts' h1 h2;cases h;cases j with
   |zero=>cases ho;exact⟨t,h1,λρ=>rfl⟩
   |succ j=>
    obtain⟨t',g1,g2⟩:=Ba (G:=G) h2 j o ho;exact⟨t',g1,λρ=>g2 ρ⟩
  ·cases h
theorem VA{T:Nat->Option KF}{jA:List (Nat×lI)}{G:Gf}(hG:TC (dd T) jA G){hint:List Nat}{f:Nat}{kf:KF}(hT:T f=some kf)(h9:kf.np≠999){sg:lI}(QS:sg.args.length=kf.np){t:ST}(hs:Sf hint jA kf sg=some t)
  {ws us:List D} {as:List A} {j:Nat} (he:fZ sg.args ws=some as) (hd:dL G t 0 ws=some (j,us)):∃v r,nth sg.res j=some v/\u5 v us=some r/\dd T f as=some r:=by
 have hlen:∀{l:List SA} {us:List D} {rs:List A},fZ l us=some rs->rs.length=l.length:=by
  intro l
  induction l with
  |nil=>intro us rs h;cases us<;>cases h;rfl
  |cons a l ih=>
   intro us rs h;obtain⟨r,Cx,_,h2,rfl⟩:=gD h;simp[ih h2]
 unfold Sf at hs
 split at hs
 ·rename_i S hS
  split at hs
  ·rename_i t0 outs hC
   split at hs
   ·rename_i ts hL;cases hs;have h0:Rel ws ⟨[],[],[]⟩ ⟨[],[],[]⟩:=⟨λ_ _ h=>(by cases h),λ_ _ h=>(by cases h),λ_ _ h=>(by cases h)⟩
    have hR:=sL h0 he (c:=0) (λi x hx=>by rw[bo];exact hx) hS;rw[<- nz he]at hC;have wH:=kA (mf:=tv) hG kf.body hR hC;simp only[dL]at hd
    split at hd
    ·rename_i j0 σ0 OT;obtain⟨o,s',g1,g2,g3,g4⟩:=wH j0 σ0 OT;obtain⟨t',g5,g6⟩:=Ba (G:=G) hL j0 o g1;rw[g6]at hd;obtain⟨v,r,w1,w2,w3⟩:=Oc g4 he g5 hd;refine⟨v,r,w1,w2,?_⟩;rw[Mj T hT h9];unfold run;rw[if_pos (by rw[hlen he,QS]),g2];exact w3
    ·cases hd
   ·cases hs
  ·cases hs
 ·cases hs
end
end
def yr:RV->D5×D
 | .d x=>(.d,x)
 | .row r=>(.row r.k r.fl r.deep r.app r.fz,.list r.k r.fl r.es)
def zR:A->SA×List D
 | .val ag l=>(.val ag (l.map λv=>(yr v).1),l.map λv=>(yr v).2)
 | .box l=>(.box (l.map λv=>(yr v).1),l.map λv=>(yr v).2)
def py:List A->List SA×List D
 |[]=>([],[])
 |a::as=>((zR a).1::(py as).1,(zR a).2++(py as).2)
def JA(r:List A×List A):(List SA×List SA)×List D:=(((py r.1).1,(py r.2).1),(py r.1).2++(py r.2).2)
theorem PZ(v:RV):zY (yr v).1 (yr v).2=some v:=by
 cases v with
 |d x=>rfl
 |row r=>simp[yr,zY]
theorem C2:∀(l:List RV),lM (l.map λv=>(yr v).1) (l.map λv=>(yr v).2)=some l
 |[]=>rfl
 |v::l=>by simp only[aN,lM,PZ,C2 l,aB]
theorem PC(a:A):(zR a).2.length=(zR a).1.n:=by cases a<;>simp[zR,SA.n]
theorem PV(a:A):kZ (zR a).1 (zR a).2=some a:=by cases a<;>simp only[zR,kZ,C2,aB]
theorem wm:∀(as:List A),fZ (py as).1 (py as).2=some as
 |[]=>rfl
 |a::as=>by
  simp only[py];unfold fZ;rw[List.take_left' (PC a),List.drop_left' (PC a),PV,wm as];rfl
theorem PX(r:List A×List A):u5 (JA r).1 (JA r).2=some r:=by
 have h:(py r.1).2.length=uV (py r.1).1:=nz (wm r.1);simp only[JA,u5,List.take_left' h,List.drop_left' h,wm]
theorem PH{v:D5}{x:D}{r:RV}(h:zY v x=some r):yr r=(v,x):=by
 unfold zY at h
 split at h
 ·cases h;rfl
 ·split at h
  ·rename_i hk;obtain⟨rfl,rfl⟩:=hk;cases h;rfl
  ·cases h
 ·cases h
theorem wb:∀{l:List D5} {xs:List D} {vs:List RV},lM l xs=some vs->(vs.map λv=>(yr v).1)=l/\(vs.map λv=>(yr v).2)=xs
 |[],[],_,h=>by cases h;exact⟨rfl,rfl⟩
 |[],_::_,_,h=>by cases h
 |_::_,[],_,h=>by cases h
 |v::l,x::xs,vs,h=>by
  simp only[lM]at h
  split at h
  ·rename_i r hr;obtain⟨eb,h1,rfl⟩:=ad.1 h;obtain⟨h2,h3⟩:=wb h1;simp only[aN,h2,h3,PH hr];exact⟨trivial,trivial⟩
  ·cases h
theorem PF{a:SA}{xs:List D}{r:A}(h:kZ a xs=some r):zR r=(a,xs):=by
 cases a with
 |val ag l=>
  simp only[kZ]at h;obtain⟨vs,h1,rfl⟩:=ad.1 h;obtain⟨h2,h3⟩:=wb h1;simp only[zR,h2,h3]
 |box l=>
  simp only[kZ]at h;obtain⟨vs,h1,rfl⟩:=ad.1 h;obtain⟨h2,h3⟩:=wb h1;simp only[zR,h2,h3]
theorem v8:∀{l:List SA} {xs:List D} {rs:List A},fZ l xs=some rs->py rs=(l,xs)
 |[],[],_,h=>by cases h;rfl
 |[],_::_,_,h=>by cases h
 |a::as,xs,rs,h=>by
  obtain⟨r,Cx,h1,h2,rfl⟩:=gD h;simp only[py,PF h1,v8 h2,a_]
theorem PG{v:List SA×List SA}{us:List D}{r:List A×List A}(h:u5 v us=some r):JA r=(v,us):=by
 unfold u5 at h
 split at h
 ·rename_i rs outs h1 h2;cases h;simp only[JA,v8 h1,v8 h2,a_]
 ·cases h
theorem LR{α:Type}[DecidableEq α]{x:α}:∀{l:List α} {j:Nat},idxOf x l=some j->nth l j=some x
 |y::l,j,h=>by
  simp only[idxOf]at h
  split at h
  ·rename_i hy;cases h;rw[hy];rfl
  ·obtain⟨i,h1,rfl⟩:=ad.1 h;exact (show nth l i=some x from LR h1)
theorem aT{α:Type}:∀{l:List α} {i:Nat} {x:α},nth l i=some x->x∈l
 |y::l,0,x,h=>by cases h;exact dQ
 |y::l,i+1,x,h=>cp _ (aT (l:=l) h)
theorem Mw{α:Type}[DecidableEq α]{x:α}:∀{l:List α} {j:Nat},l.Nodup->nth l j=some x->idxOf x l=some j
 |y::l,0,hn,h=>by cases h;simp[idxOf]
 |y::l,j+1,hn,h=>by
  have hy:y≠x:=λe=>(bZ.1 hn).1 (e▸aT (l:=l) h);simp only[idxOf,if_neg hy,Mw (bZ.1 hn).2 h,aB]
noncomputable def GF(T:Nat->Option KF)(jA:List (Nat×lI)):Gf:=λi ws=>
 match look jA i with
 |some sg=>match fZ sg.args ws with
  |some as=>match dd T sg.f as with
   |some r=>(idxOf (JA r).1 sg.res).map (·,(JA r).2)
   |none=>none
  |none=>none
 |none=>none
theorem CD(T:Nat->Option KF)(jA:List (Nat×lI)):TC (dd T) jA (GF T jA):=by
 intro i sg hl ws j us h;simp only[GF,hl]at h
 split at h
 ·rename_i as ha
  split at h
  ·rename_i r hr;obtain⟨j',h1,h2⟩:=ad.1 h;simp only[ao]at h2;obtain⟨rfl,rfl⟩:=h2;exact⟨as,r,_,ha,LR h1,PX r,hr⟩
  ·cases h
 ·cases h
theorem tJ{T:Nat->Option KF}{jA:List (Nat×lI)}{i:Nat}{sg:lI}(hl:look jA i=some sg){ws us:List D}{as:List A}{r:List A×List A}{v:List SA×List SA}{j:Nat}(he:fZ sg.args ws=some as)
  (hr:dd T sg.f as=some r) (hv:u5 v us=some r) (hj:idxOf v sg.res=some j):GF T jA i ws=some (j,us):=by
 simp only[GF,hl,he,hr,PG hv,hj,aB]
theorem aan{T:Nat->Option KF}{jA:List (Nat×lI)}{i:Nat}{sg:lI}{hint:List Nat}{kf:KF}{t:ST}(hl:look jA i=some sg)(hT:T sg.f=some kf)(hc:(sg.args.length ==kf.np && fh kf.np 999 && decide sg.res.Nodup)=true)
  (hs:Sf hint jA kf sg=some t) {ws us:List D} {as:List A} {j:Nat} (he:fZ sg.args ws=some as) (hd:dL (GF T jA) t 0 ws=some (j,us)):GF T jA i ws=some (j,us):=by
 simp only[ab,beq_iff_eq,decide_eq_true_eq,lH]at hc;obtain⟨⟨h1,h2⟩,h3⟩:=hc;obtain⟨v,r,q1,q2,q3⟩:=VA (CD T jA) hT (by omega) h1 hs he hd;exact tJ hl he q3 q2 (Mw h3 q1)
structure iF where
 lo:Int
 hi:Int
 deriving DecidableEq
structure lL where
 kind:Int
 ranges:List iF
 names:List ByteArray
 pattern:ByteArray
 path:ByteArray
 deriving DecidableEq
structure kg where
 name:ByteArray
 value:ByteArray
 deriving DecidableEq
structure uO where
 name:ByteArray
 fu:List kg
 deriving DecidableEq
structure ml where
 root:Bool
 oL:Int
 steps:List uO
 deriving DecidableEq
structure cN where
 op:Int
 num:Int
 text:ByteArray
 path:ml
 kids:List cN
structure af where
 kind:Int
 name:ByteArray
 type:lL
 keys:List ByteArray
 unique:List ByteArray
 default:ByteArray
 given:Bool
 dZ:Bool
 cP:Bool
 fixed:Bool
 min:Int
 max:Int
 when:List cN
 hO:List cN
 kids:List af
structure aJ where
 name:ByteArray
 value:ByteArray
 kids:List aJ
structure cx where
 op:Int
 text:ByteArray
 kids:List cx
def gC(s:ByteArray):List D:=[.str s]
def xR(b:Bool):List D:=[.bool b]
def jG(x:iF):List D:=[.int .i64 x.lo,.int .i64 x.hi]
abbrev bp(l:List ByteArray):D:=.list 1 true (l.map gC)
abbrev aV(l:List Bool):D:=.list 1 true (l.map xR)
abbrev eR(l:List iF):D:=.list 2 true (l.map jG)
def ew(x:lL):List D:=[.int .i64 x.kind,eR x.ranges,bp x.names,.str x.pattern,.str x.path]
def nM(x:kg):List D:=[.str x.name,.str x.value]
abbrev hZ(l:List kg):D:=.list 2 true (l.map nM)
def jY(x:uO):List D:=[.str x.name,hZ x.fu]
abbrev eE(l:List uO):D:=.list 2 false (l.map jY)
def jF(x:ml):List D:=[.bool x.root,.int .i64 x.oL,eE x.steps]
theorem cN.J7{x y:cN}(h:y∈x.kids):ah y < ah x:=by
 have h1:=aU h;cases x;simp only[cN.mk.sizeOf_spec];dsimp only at h1;omega
def bK(x:cN):List D:=[.int .i64 x.op,.int .i64 x.num,.str x.text,.bool x.path.root,.int .i64 x.path.oL,eE x.path.steps,.list 7 false (x.kids.map λy=>bK y)]
termination_by ah x
decreasing_by exact cN.J7 (by assumption)
abbrev cW(l:List cN):D:=.list 7 false (l.map bK)
theorem bc(x:cN):bK x=[.int .i64 x.op,.int .i64 x.num,.str x.text,.bool x.path.root,.int .i64 x.path.oL,eE x.path.steps,cW x.kids]:=by rw[bK]
theorem af.J7{x y:af}(h:y∈x.kids):ah y < ah x:=by
 have h1:=aU h;cases x;simp only[af.mk.sizeOf_spec];dsimp only at h1;omega
def aw(x:af):List D:=[.int .i64 x.kind,.str x.name,.int .i64 x.type.kind,eR x.type.ranges,bp x.type.names,.str x.type.pattern,.str x.type.path,bp x.keys,bp x.unique,.str x.default,.bool x.given,.bool x.dZ,.bool x.cP,.bool x.fixed,.int .i64 x.min,.int .i64 x.max,cW x.when,cW x.hO,.list 19 false (x.kids.map λy=>aw y)]
termination_by ah x
decreasing_by exact af.J7 (by assumption)
abbrev aA(l:List af):D:=.list 19 false (l.map aw)
theorem ae(x:af):aw x=[.int .i64 x.kind,.str x.name,.int .i64 x.type.kind,eR x.type.ranges,bp x.type.names,.str x.type.pattern,.str x.type.path,bp x.keys,bp x.unique,.str x.default,.bool x.given,.bool x.dZ,.bool x.cP,.bool x.fixed,.int .i64 x.min,.int .i64 x.max,cW x.when,cW x.hO,aA x.kids]:=by rw[aw]
theorem aJ.J7{x y:aJ}(h:y∈x.kids):ah y < ah x:=by
 have h1:=aU h;cases x;simp only[aJ.mk.sizeOf_spec];dsimp only at h1;omega
def bD(x:aJ):List D:=[.str x.name,.str x.value,.list 3 false (x.kids.map λy=>bD y)]
termination_by ah x
decreasing_by exact aJ.J7 (by assumption)
abbrev bl(l:List aJ):D:=.list 3 false (l.map bD)
theorem aP(x:aJ):bD x=[.str x.name,.str x.value,bl x.kids]:=by rw[bD]
theorem cx.J7{x y:cx}(h:y∈x.kids):ah y < ah x:=by
 have h1:=aU h;cases x;simp only[cx.mk.sizeOf_spec];dsimp only at h1;omega
def gB(x:cx):List D:=[.int .i64 x.op,.str x.text,.list 3 false (x.kids.map λy=>gB y)]
termination_by ah x
decreasing_by exact cx.J7 (by assumption)
abbrev bJ(l:List cx):D:=.list 3 false (l.map gB)
theorem aF(x:cx):gB x=[.int .i64 x.op,.str x.text,bJ x.kids]:=by rw[gB]
theorem MP{α:Type}(f:α->List D):∀{xs:List α} {x:α},x∈xs->fc (f x)<=n7 (xs.map f)
 |[],_,h=>by simp at h
 |y::ys,x,h=>by
  simp -implicitDefEqProofs only [aN,n7]
  rcases ay.1 h with rfl|h
  ·omega
  ·have:=MP f h;omega
abbrev cA{α:Type}(f:α->List D)(l:List α):Nat:=l.length+n7 (l.map f)
theorem eS{α:Type}(f:α->List D){l:List α}{x:α}(h:x∈l):fc (f x) < cA f l:=by
 have h1:=MP f h;have h2:0 < l.length:=by cases l with|nil=>cases h|cons a l=>simp
 simp only[cA];omega
theorem lD{α:Type}(f:α->List D)(x:α)(l:List α):cA f (x::l)=fc (f x)+cA f l+1:=by
 simp only[cA,aE,aN,n7];omega
theorem F7{α:Type}(f:α->List D)(l m:List α):cA f (l++m)=cA f l+cA f m:=by
 simp only[cA,aO,dc,BW];omega
theorem Sw{α:Type}(f:α->List D)(l:List α)(i:Nat):cA f (l.take i)<=cA f l:=by
 have:=F7 f (l.take i) (l.drop i);rw[a_]at this;omega
theorem MQ(l:List ByteArray){s:ByteArray}(h:s∈l):s.size < cA gC l:=by
 have:=eS gC h;simp only[gC,fc,D.sz]at this;omega
theorem pQ(x:lL):fc (ew x)=cA jG x.ranges+cA gC x.names+x.pattern.size+x.path.size:=by
 simp only[ew,fc,D.sz,av,cA];omega
theorem IN(x:kg):fc (nM x)=x.name.size+x.value.size:=by simp only[nM,fc,D.sz];omega
theorem vH(x:uO):fc (jY x)=x.name.size+cA nM x.fu:=by simp only[jY,fc,D.sz,av,cA];omega
theorem BV(x:ml):fc (jF x)=cA jY x.steps:=by simp only[jF,fc,D.sz,av,cA];omega
theorem nX(x:cN):fc (bK x)=x.text.size+fc (jF x.path)+cA bK x.kids:=by simp only[bc,jF,fc,D.sz,av,cA];omega
theorem dK(x:af):fc (aw x)=x.name.size+fc (ew x.type)+cA gC x.keys+cA gC x.unique+x.default.size+cA bK x.when+cA bK x.hO+cA aw x.kids:=by
 simp only[ae,ew,fc,D.sz,av,cA];omega
theorem jL(x:aJ):fc (bD x)=x.name.size+x.value.size+cA bD x.kids:=by simp only[aP,fc,D.sz,av,cA];omega
section
def Jw(i:Nat):Nat->Nat->List SE
 |_,0=>[]
 |j,n+1=>.c i j::Jw i (j+1) n
abbrev Y(i:Nat):SE:=.v i
abbrev N(n:Int):SE:=.k (.int .i64 n)
abbrev U(n:Int):SE:=.k (.int .u8 n)
abbrev B(b:Bool):SE:=.k (.bool b)
abbrev Tx(l:List UInt8):SE:=.k (.str ⟨l.toArray⟩)
abbrev L(k:Nat)(fl:Bool):SE:=.k (.nil k fl)
abbrev X(i j:Nat):SE:=.c i j
abbrev o_(o:PO)(es:List SE)(t:ST):ST:=.op [] o es t
abbrev p_(gs:Gs)(t:ST):ST:=.op gs .pl [] t
abbrev c1(t:ST):ST:=.cons t .nil
abbrev r_(i n:Nat):List SE:=BY i n
abbrev t_(i:Nat)(o:PO)(es:List SE)(t:ST):ST:=.op [(.v i,true)] o es t
abbrev f_(i:Nat)(o:PO)(es:List SE)(t:ST):ST:=.op [(.v i,false)] o es t
abbrev d_(i:Nat)(a b:ST):ST:=.gd [(.v i,true)] a b
abbrev e_(i:Nat)(a b:ST):ST:=.gd [(.v i,false)] a b
abbrev L_(es:List SE):ST:=.leaf 0 es
abbrev M1(t:ST):ST:=.map [1] t
abbrev b_(a b:ST):ST:=.seq a (.cons b .nil)
abbrev k_(a b:ST):ST:=.cons a b
abbrev h_(a b:ST):ST:=.seq a b
abbrev dR(i j:Nat)(t:ST):ST:=.op [] .ite [.v i,.v j,.k (.bool false)] t
abbrev fJ(i j:Nat)(t:ST):ST:=.op [] .ite [.v i,.k (.bool true),.v j] t
abbrev cI(i:Nat)(t:ST):ST:=.op [(.v i,true)] .pl [] t
abbrev ei(i:Nat)(t:ST):ST:=.op [(.v i,false)] .pl [] t
abbrev z_(t:ST):ST:=.seq t (.cons (.leaf 0 [.v 0]) .nil)
abbrev c_(i:Nat)(es:List SE)(t:ST):ST:=.call i es (.cons t .nil)
abbrev iT(i j n:Nat):List SE:=Jw i j n
abbrev E2:PO:=.bin .eql
abbrev N2:PO:=.bin .neq
abbrev L2:PO:=.bin .lss
abbrev G2:PO:=.bin .gtr
abbrev K2:PO:=.bin .leq
abbrev H2:PO:=.bin .geq
abbrev A2:PO:=.bin .add
abbrev S2:PO:=.bin .sub
abbrev zI(n:Int):SK:=.int .i64 n
abbrev zB(b:Bool):SK:=.bool b
abbrev zS(l:List UInt8):SK:=.str ⟨l.toArray⟩
abbrev zL(k:Nat)(fl:Bool):SK:=.nil k fl
abbrev R:=Option (Nat×List D)
noncomputable def YB(r:Option D)(G:Gf)(t:ST)(ρ:List D):R:=match r with
 |some x=>dL G t 0 (ρ++[x])
 |none=>none
def YE(o:PO):Option (List D)->Option D
 |some xs=>aK o xs
 |none=>none
noncomputable def RH(g:Option Bool)(G:Gf)(o:PO)(es:List SE)(t:ST)(ρ:List D):R:=match g with
 |some true=>YB (YE o (gU ρ es)) G t ρ
 |some false=>dL G t 0 (ρ++[.bool false])
 |none=>none
noncomputable def OR(g:Option Bool)(G:Gf)(a b:ST)(ρ:List D):R:=match g with
 |some true=>dL G a 0 ρ
 |some false=>dL G b 0 ρ
 |none=>none
noncomputable def clR(r:R)(G:Gf)(ts:ST)(ρ:List D):R:=match r with
 |some (j,ws)=>dL G ts j (ρ++ws)
 |none=>none
noncomputable def clT(r:Option (List D))(G:Gf)(i:Nat)(ts:ST)(ρ:List D):R:=match r with
 |some xs=>clR (G i xs) G ts ρ
 |none=>none
def lfT(j:Nat):Option (List D)->R
 |some xs=>some (j,xs)
 |none=>none
def mpT(f:List Nat):R->R
 |some (j,σ)=>(nth f j).map (·,σ)
 |none=>none
noncomputable def sqT(r:R)(G:Gf)(ts:ST):R:=match r with
 |some (j,σ)=>dL G ts j σ
 |none=>none
noncomputable def lB(G:Gf)(bs:ST)(p:Nat×List D):Option (Sg (Nat×List D) (Nat×List D)):=An (dL G bs p.1 p.2)
noncomputable def lpT(r:Option (List D))(G:Gf)(h:Nat)(bs:ST):R:=match r with
 |some σ=>bR (lB G bs) (h,σ)
 |none=>none
def gsT(w:Bool):Option D->Option Bool->Option Bool
 |some (.bool b),some c=>some (if b=w then c else false)
 |_,_=>none
def elT(j:Nat):Option D->Option D
 |some x=>match Xn x with
  |some cs=>nth cs j
  |none=>none
 |none=>none
def csT:Option D->Option (List D)->Option (List D)
 |some x,some xs=>some (x::xs)
 |_,_=>none
section
variable (G:Gf) (ρ:List D)
theorem aaR(o:PO)(es:List SE)(t:ST)(j:Nat):dL G (.op [] o es t) j ρ=YB (YE o (gU ρ es)) G t ρ:=by
 simp only[dL,gQ,YB,YE];cases gU ρ es<;>rfl
theorem aaQ(p:SE×Bool)(gs:Gs)(o:PO)(es:List SE)(t:ST)(j:Nat):dL G (.op (p::gs) o es t) j ρ=RH (gQ ρ (p::gs)) G o es t ρ:=by
 simp only[dL,RH,YB,YE];generalize gQ ρ (p::gs)=g;rcases g with _|_|_
 ·rfl
 ·rfl
 ·cases gU ρ es<;>rfl
theorem aaM(gs:Gs)(a b:ST)(j:Nat):dL G (.gd gs a b) j ρ=OR (gQ ρ gs) G a b ρ:=(rfl)
theorem aaK(i:Nat)(es:List SE)(ts:ST)(j:Nat):dL G (.call i es ts) j ρ=clT (gU ρ es) G i ts ρ:=(rfl)
theorem aaN(j:Nat)(es:List SE)(k:Nat):dL G (.leaf j es) k ρ=lfT j (gU ρ es):=(rfl)
theorem aaP(f:List Nat)(t:ST)(k:Nat):dL G (.map f t) k ρ=mpT f (dL G t 0 ρ):=(rfl)
theorem aaS(t ts:ST)(k:Nat):dL G (.seq t ts) k ρ=sqT (dL G t 0 ρ) G ts:=(rfl)
theorem aaO(h:Nat)(es:List SE)(bs:ST)(k:Nat):dL G (.loop h es bs) k ρ=lpT (gU ρ es) G h bs:=(rfl)
theorem aaI(a b:ST)(k:Nat):dL G (.both a b) k ρ=CI (dL G a 0 ρ) (dL G b 0 ρ):=(rfl)
theorem aaJ(a b:ST):dL G (.cons a b) 0 ρ=dL G a 0 ρ:=(rfl)
theorem aaL(a b:ST)(j:Nat):dL G (.cons a b) (j+1) ρ=dL G b j ρ:=(rfl)
theorem acs(x:D)(t:ST):YB (some x) G t ρ=dL G t 0 (ρ++[x]):=(rfl)
theorem acI(o:PO)(xs:List D):YE o (some xs)=aK o xs:=(rfl)
theorem acb(o:PO)(es:List SE)(t:ST):RH (some true) G o es t ρ=YB (YE o (gU ρ es)) G t ρ:=(rfl)
theorem aca(o:PO)(es:List SE)(t:ST):RH (some false) G o es t ρ=dL G t 0 (ρ++[.bool false]):=(rfl)
theorem aa7(a b:ST):OR (some true) G a b ρ=dL G a 0 ρ:=(rfl)
theorem aa6(a b:ST):OR (some false) G a b ρ=dL G b 0 ρ:=(rfl)
theorem aaD(xs:List D)(i:Nat)(ts:ST):clT (some xs) G i ts ρ=clR (G i xs) G ts ρ:=(rfl)
theorem aaC(j:Nat)(ws:List D)(ts:ST):clR (some (j,ws)) G ts ρ=dL G ts j (ρ++ws):=(rfl)
theorem abT(j:Nat)(xs:List D):lfT j (some xs)=some (j,xs):=(rfl)
theorem ab2(f:List Nat)(j:Nat)(σ:List D):mpT f (some (j,σ))=(nth f j).map (·,σ):=(rfl)
theorem afd(j:Nat)(σ:List D)(ts:ST):sqT (some (j,σ)) G ts=dL G ts j σ:=(rfl)
theorem abW(σ:List D)(h:Nat)(bs:ST):lpT (some σ) G h bs=bR (lB G bs) (h,σ):=(rfl)
theorem d_v(i:Nat):SE.d ρ (.v i)=nth ρ i:=(rfl)
theorem d_k(x:SK):SE.d ρ (.k x)=some x.d:=(rfl)
theorem d_c(i j:Nat):SE.d ρ (.c i j)=elT j (nth ρ i):=by
 simp only[SE.d,elT];cases nth ρ i<;>rfl
theorem aaV(j k:Nat)(fl:Bool)(cs:List D):elT j (some (.list k fl [cs]))=nth cs j:=(rfl)
theorem aaU:gU ρ []=some []:=(rfl)
theorem Xm(e:SE)(es:List SE):gU ρ (e::es)=csT (e.d ρ) (gU ρ es):=by
 simp only[gU];cases e.d ρ with
 |none=>rfl
 |some x=>cases gU ρ es<;>rfl
theorem aaG(x:D)(xs:List D):csT (some x) (some xs)=some (x::xs):=(rfl)
theorem bm(bs:ST)(h:Nat)(σ:List D):lB G bs (h,σ)=An (dL G bs h σ):=(rfl)
theorem gO(j:Nat)(σ:List D):An (some (j,σ))=some (if j % 2=0 then .go (j / 2,σ) else .out (j / 2,σ)):=(rfl)
end
theorem yf(op:BinOp)(k:IntKind)(a b:Int):aK (.bin op) [.int k a,.int k b]=Po op k a b:=by
 simp only[aK,M9,if_true];cases Po op k a b<;>rfl
theorem RO(op:BinOp)(a b:ByteArray):aK (.bin op) [.str a,.str b]=Pp op a b:=by
 simp only[aK,M9];cases Pp op a b<;>rfl
theorem acJ(op:BinOp)(a b:Bool):aK (.uS op) [.bool a,.bool b]=Pn op a b:=(rfl)
theorem YK(b:Bool):aK .not [.bool b]=some (.bool (!b)):=(rfl)
theorem Va(k k':IntKind)(a:Int):aK (.conv k) [.int k' a]=some (.int k (k.wrap a)):=(rfl)
theorem YJ(k:IntKind)(a:Int):aK .neg [.int k a]=some (.int k (k.wrap (-a))):=(rfl)
theorem YH(k:Nat)(fl:Bool)(es:List (List D)):aK .len [.list k fl es]=some (.int .i64 es.length):=(rfl)
theorem YM(t:ByteArray):aK .kQ [.str t]=some (.int .i64 t.size):=(rfl)
theorem Vd(b y:Bool):aK .ite [.bool b,.bool true,.bool y]=some (.bool (b ||y)):=by cases b<;>rfl
theorem Vc(b y:Bool):aK .ite [.bool b,.bool y,.bool false]=some (.bool (b && y)):=by cases b<;>rfl
theorem YF(o k:Nat)(fl:Bool)(cs:List D):aK (.eK o) [.list k fl [cs]]=nth cs o:=(rfl)
theorem BD(n k:Nat)(fl:Bool)(cs:List D):aK (.has n) [.list k fl [cs]]=if n<=cs.length then some (.bool false) else none:=(rfl)
theorem acK(k:Nat)(fl:Bool)(es:List (List D))(n:Int)(h:0<=n):aK (.el k) [.list k fl es,.int .i64 n]=(nth es n.toNat).map λe=>.list 0 false [e]:=by simp only[aK,h,and_self,if_true]
theorem BC(k:Nat)(fl:Bool)(es:List (List D))(n:Nat):aK (.el k) [.list k fl es,.int .i64 (n:Int)]=(nth es n).map λe=>.list 0 false [e]:=by
 rw[acK k fl es n (by omega),cB]
theorem YG(k:Nat)(fl:Bool)(es:List (List D)):aK (.el k) [.list k fl es,.int .i64 0]=(nth es 0).map λe=>.list 0 false [e]:=BC k fl es 0
theorem lV(k:Nat)(fl:Bool)(es:List (List D))(n:Nat)(h:n < es.length):aK .lF [.list k fl es,.int .i64 (n:Int)]=some (.bool false):=by
 simp only[aK,cB];rw[if_pos ⟨by omega,h⟩]
theorem eo(t:ByteArray)(n:Nat)(h:n < t.size):aK .kW [.str t,.int .i64 (n:Int)]=some (.int .u8 (da t n)):=by
 simp only[aK,cB];rw[if_pos ⟨by omega,h⟩]
theorem YL:aK .pl []=some (.bool false):=(rfl)
theorem Ko(k by_:Nat)(fl:Bool)(es iY:List (List D))(h:(es.length+iY.length) * by_<=room/\es.length+iY.length<=maxLen):aK (.app k by_) [.list k fl es,.list k fl iY]=some (.list k fl (es++iY)):=by
 simp only[aK,h.1,h.2,and_self,if_true]
theorem YI(a b:Int):aK .max [.int .i64 a,.int .i64 b]=some (.int .i64 (if a < b then b else a)):=(rfl)
theorem th(k:Nat)(fl:Bool):aK (.eg k fl) []=some (.list k fl []):=by
 simp only[aK,aQ,Nat.zero_mod,if_true,Nat.zero_div,chunk];simp
theorem ZC(k:IntKind)(n:Int):SK.d (.int k n)=.int k n:=(rfl)
theorem Vu(b:Bool):SK.d (.bool b)=.bool b:=(rfl)
theorem ZE(t:ByteArray):SK.d (.str t)=.str t:=(rfl)
theorem ZD(k:Nat)(fl:Bool):SK.d (.nil k fl)=.list k fl []:=(rfl)
theorem aa9(ρ:List D)(e:SE)(w:Bool)(gs:Gs)(c:Bool)(hg:gQ ρ gs=some c):gQ ρ ((e,w)::gs)=gsT w (e.d ρ) (some c):=by
 simp only[gQ];cases e.d ρ with
 |none=>rfl
 |some x=>cases x<;>simp only[gsT,hg]<;>split<;>rfl
theorem Xx(ρ:List D)(e:SE)(w:Bool):gQ ρ [(e,w)]=gsT w (e.d ρ) (some true):=aa9 ρ e w [] true rfl
theorem aba(b:Bool):gsT true (some (.bool b)) (some true)=some b:=by cases b<;>rfl
theorem aa_(b:Bool):gsT false (some (.bool b)) (some true)=some (!b):=by cases b<;>rfl
attribute [go_sem] yf RO acJ YK Va YJ YH YM Vd Vc YF BD BC YG YL YI th ZC Vu ZE ZD Xx aba aa_
attribute [go_sem] aaR aaQ aaM aaK aaN aaP aaS aaO aaI aaJ aaL acs acI acb aca aa7 aa6 aaD aaC abT ab2 afd abW d_v d_k d_c aaV aaU Xm aaG Ju
attribute [go_sem] Jw
attribute [go_sem] bI Nat.reduceMod Nat.reduceDiv ax reduceIte Int.reduceEq Int.reduceLT Int.reduceLE Int.reduceAdd Int.reduceSub Int.reduceNeg
end
end Go.Proofs.YtcdjbelccndadaaGreatDoor
