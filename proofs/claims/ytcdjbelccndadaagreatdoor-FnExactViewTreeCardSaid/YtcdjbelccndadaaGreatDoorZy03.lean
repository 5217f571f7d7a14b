/- Part of the proof: a machine over plain data, its proof, the functions of the program run on symbols, what they answer. Condition: none. -/
import Derived.Test.YtcdjbelccndadaaGreatDoorZy02
set_option linter.unusedVariables false
set_option linter.unusedSimpArgs false
open Bool renaming and_eq_true->ab,false_eq_true->av,false_ne_true->ck,not_eq_true'->cq,true_and->cB,eq_false_iff->cT,or_eq_true->dD,false_and->er,and_true->fo,and_assoc->fq,and_self->iL,false_or->iM,and_false->iW,or_true->jr
open Int renaming toNat_natCast->cE
open List renaming cons_append->ai,nil_append->ao,length_map->au,mem_cons->ay,length_cons->az,replicate->aE,append_nil->aG,getElem?_eq_some_iff->aI,length_nil->aK,length_append->aL,mem_append->aM,map_cons->aQ,all_eq_true->aS,take_length->aU,drop_zero->aV,sizeOf_lt_of_mem->aW,length_take->a_,take_append_drop->bc,append_assoc->bh,range->bE,all_cons->bT,nodup_cons->cd,mem_singleton->ct,drop_length->cu,take_succ_cons->cx,mem_cons_of_mem->cz,map_append->dd,mem_cons_self->eu,length_drop->gL,getElem?_drop->gV,any_eq_true->kv,take_left->lZ,drop_drop->pe
open List.cons renaming injEq->bw
open Nat renaming le_refl->aj,reduceEqDiff->aw,le_trans->aA,zero_add->bm,reduceAdd->bD,add_assoc->du,add_zero->eD,blt->fk,blt_eq->lE,ble->nz,zero_le->qH
open Option renaming map_eq_some_iff->ad,map_some->aD,isSome_iff_exists->bF,bind_some->cO,getD_some->mH
open Option.some renaming injEq->aa,inj->eM
open Prod.mk renaming injEq->ak
open SizeOf renaming sizeOf->ah
namespace Go.Proofs.YtcdjbelccndadaaGreatDoor
section
def SC.cells:SC->Option (List SB)
 | .b x=>some [x]
 | .agg xs=>some xs
 |_=>none
def SB.cell:SB->Bool
 | .any=>false
 |_=>true
def VK{α:Type}(l:List α)(o:Nat)(n:List α):List α:=l.take o++n++l.drop (o+n.length)
def rI:C->Option SB
 | .d (.int k n)=>some (.d (.k (.int k n)))
 | .d (.bool b)=>some (.d (.k (.bool b)))
 | .d (.str t)=>some (.d (.k (.str t)))
 | .nil k fl=>some (.nil k fl)
 |_=>none
def zi(S:SS)(gs:Gs)(zs:List SB):List (Nat×Nat×KX)->Option (List SB)
 |[]=>some zs
 |(o,n,x)::ps=>match eR S gs x with
  |some c=>match c.cells with
   |some cs=>if cs.length=n/\o+n<=zs.length/\cs.all SB.cell=true then zi S gs (VK zs o cs) ps else none
   |none=>none
  |none=>none
def yH(i o:Nat):Nat->List SB
 |0=>[]
 |n+1=>.d (.c i o)::yH i (o+1) n
def vN(n:Nat):SC:=.b (.d (.v n))
def Iq(n:Nat)(o:PO):List (Option SE)->Option (Bs×SC)
 |[some a]=>some ([(o,[a])],vN n)
 |[some a,some b]=>some ([(o,[a,b])],vN n)
 |[some a,some b,some c]=>some ([(o,[a,b,c])],vN n)
 |_=>none
def p9(S:SS)(gs:Gs):Option KX->Option SE
 |none=>some (.k (.int .i64 0))
 |some x=>sD (eR S gs x)
def VR(S:SS)(gs:Gs)(n:Nat):KO->Option (Bs×SC)
 | .mv x=>(eR S gs x).map λc=>([],c)
 | .pick c x y=>match sD (eR S gs c) with
  |some e=>if (e,true)∈gs then (eR S gs x).map λc=>([],c) else if (e,false)∈gs then (eR S gs y).map λc=>([],c)
   else Iq n .ite [some e,sD (eR S ((e,true)::gs) x),sD (eR S ((e,false)::gs) y)]
  |none=>none
 | .build zs ps=>match fp rI zs with
  |some zs'=>(zi S gs zs' ps).map λl=>([],.agg l)
  |none=>none
 | .ld m x=>match eR S gs x with
  |some (.ptr b o)=>match look S.bx b with
   |some xs=>if m=0 then (nth xs o).map λy=>([],.b y) else if o+m<=xs.length then some ([],.agg ((xs.drop o).take m)) else none
   |none=>none
  |some (.qJ i o)=>if m=0 then some ([(.eP o,[.v i])],vN n) else some ([(.has (o+m),[.v i])],.agg (yH i o m))
  |some (.mY r k i o)=>match look S.rw r with
   |some row=>if row.k=k then (if m=0 then some ([(.nk k o 1 row.deep,[row.e,i]),(.eP o,[.v n])],vN (n+1)) else some ([(.nk k o m row.deep,[row.e,i])],.agg (yH n o m))) else none
   |none=>none
  |_=>none
 | .fa o x=>match eR S gs x with
  |some (.ptr b p)=>some ([],.ptr b (p+o))
  |some (.qJ i p)=>some ([],.qJ i (p+o))
  |some (.mY r k i p)=>some ([],.mY r k i (p+o))
  |_=>none
 | .ia k x i=>match eR S gs x,sD (eR S gs i) with
  |some (.b (.d e)),some j=>some ([(.el k,[e,j])],.qJ n 0)
  |some (.b (.ref r)),some j=>match look S.rw r with
   |some row=>if row.k=k then some ([(.kQ,[row.e,j])],.mY r k j 0) else none
   |none=>none
  |_,_=>none
 | .kV x i=>Iq n .kV [sD (eR S gs x),sD (eR S gs i)]
 | .bin op x y=>Iq n (.bin op) [sD (eR S gs x),sD (eR S gs y)]
 | .uG op x y=>Iq n (.uG op) [sD (eR S gs x),sD (eR S gs y)]
 | .not x=>Iq n .not [sD (eR S gs x)]
 | .neg x=>Iq n .neg [sD (eR S gs x)]
 | .conv k x=>Iq n (.conv k) [sD (eR S gs x)]
 | .len x=>match eR S gs x with
  |some (.b (.d e))=>some ([(.len,[e])],vN n)
  |some (.b (.nil _ _))=>some ([],.b (.d (.k (.int .i64 0))))
  |some (.b (.ref r))=>match look S.rw r with
   |some row=>some ([(.len,[row.e])],vN n)
   |none=>none
  |_=>none
 | .kJ x=>Iq n .kJ [sD (eR S gs x)]
 | .min x y=>Iq n .min [sD (eR S gs x),sD (eR S gs y)]
 | .max x y=>Iq n .max [sD (eR S gs x),sD (eR S gs y)]
 | .ext x i=>match eR S gs x with
  |some (.oH xs)=>match nth xs i with
   |some (.inl y)=>some ([],.b y)
   |some (.inr l)=>some ([],.agg l)
   |none=>none
  |_=>none
 | .slc x hi=>Iq n (.cut true) [sD (eR S gs x),some (.k (.int .i64 0)),sD (eR S gs hi)]
 | .I_ x lo hi=>match hi with
  |none=>Iq n (.I_ false) [sD (eR S gs x),p9 S gs lo]
  |some h=>Iq n (.I_ true) [sD (eR S gs x),p9 S gs lo,sD (eR S gs h)]
 | .yc k x lo hi=>match hi with
  |none=>Iq n (.yc k false) [sD (eR S gs x),p9 S gs lo]
  |some h=>Iq n (.yc k true) [sD (eR S gs x),p9 S gs lo,sD (eR S gs h)]
 | .WW x=>match eR S gs x with
  |some (.ptr b o)=>some ([],.ptr b o)
  |some (.qJ i o)=>some ([],.qJ i o)
  |some (.mY r k i o)=>some ([],.mY r k i o)
  |_=>none
 | .yk x=>match eR S gs x with
  |some (.b (.ref r))=>match look S.rw r with
   |some row=>if row.k=1 then some ([(.yk,[row.e])],vN n) else none
   |none=>none
  |_=>none
 |_=>none
section
variable {ρ gx:List D} {S:SS} {s:St} {gs:Gs} {bs:Bs} {c:SC}
theorem dv.nth:∀{xs:List SB} {cs:List C} {i:Nat} {x:SB},dv ρ xs cs->nth xs i=some x->∃c,nth cs i=some c/\iY ρ x c
 |_::_,_,0,_,⟨c,_,h1,h2,_⟩,h=>by cases h;subst h1;exact⟨c,rfl,h2⟩
 |_::xs,_,i+1,_,⟨_,cs,h1,_,h3⟩,h=>by subst h1;exact dv.nth (xs:=xs) (i:=i) h3 h
 |[],_,_,_,_,h=>by cases h
theorem dv.len:∀{xs:List SB} {cs:List C},dv ρ xs cs->cs.length=xs.length
 |[],_,h=>by simp only[dv]at h;subst h;rfl
 |_::_,_,⟨_,_,h1,_,h3⟩=>by subst h1;simp[dv.len h3]
theorem dv.drop:∀(n:Nat) {xs:List SB} {cs:List C},dv ρ xs cs->dv ρ (xs.drop n) (cs.drop n)
 |0,_,_,h=>h
 |_+1,[],_,h=>by simp only[dv]at h;subst h;rfl
 |n+1,_::_,_,⟨_,_,h1,_,h3⟩=>by subst h1;exact dv.drop n h3
theorem dv.take:∀(n:Nat) {xs:List SB} {cs:List C},dv ρ xs cs->dv ρ (xs.take n) (cs.take n)
 |0,_,_,_=>rfl
 |_+1,[],_,h=>by simp only[dv]at h;subst h;rfl
 |n+1,_::_,_,⟨c,_,h1,h2,h3⟩=>by subst h1;exact⟨c,_,rfl,h2,dv.take n h3⟩
theorem dv.app:∀{xs ys:List SB} {cs ds:List C},dv ρ xs cs->dv ρ ys ds->dv ρ (xs++ys) (cs++ds)
 |[],_,_,_,h,h'=>by simp only[dv]at h;subst h;exact h'
 |_::_,_,_,_,⟨c,_,h1,h2,h3⟩,h'=>by subst h1;exact⟨c,_,rfl,h2,dv.app h3 h'⟩
theorem dv.ZX(o:Nat){xs ys:List SB}{cs ds:List C}(h:dv ρ xs cs)(h':dv ρ ys ds):dv ρ (VK xs o ys) (fR cs o ds):=by
 unfold VK fR;rw[h'.len];exact ((h.take o).app h').app (h.drop _)
theorem iY.cell{x:SB}{c:C}(h:iY ρ x c)(hc:x.cell=true):c.cell=true:=by
 cases x with
 |d e=>obtain⟨y,_,rfl⟩:=h;rfl
 |nil k fl=>simp only[iY]at h;subst h;rfl
 |ref r=>simp only[iY]at h;subst h;rfl
 |any=>cases hc
theorem dv.cell:∀{xs:List SB} {cs:List C},dv ρ xs cs->xs.all SB.cell=true->cs.all C.cell=true
 |[],_,h,_=>by simp only[dv]at h;subst h;rfl
 |_::_,_,⟨_,_,h1,h2,h3⟩,h=>by
  subst h1;simp only[bT,ab]at h ⊢;exact⟨h2.cell h.1,dv.cell h3 h.2⟩
theorem jQ.cells{x:SC}{c:C}{xs:List SB}(h:jQ ρ x c)(hx:x.cells=some xs)(hc:xs.all SB.cell=true):dv ρ xs c.cells:=by
 cases x with
 |b y=>
  cases hx;simp only[bT,List.all_nil,fo]at hc;refine⟨c,[],?_,h,rfl⟩;have:=iY.cell h hc;cases c<;>simp_all[C.cell,C.cells]
 |agg ys=>
  cases hx;obtain⟨cs,rfl,h1⟩:=h;exact h1
 |_=>cases hx
theorem Jq{z:C}{x:SB}(h:rI z=some x):iY ρ x z:=by
 unfold rI at h
 split at h<;>first|(cases h;exact⟨_,rfl,rfl⟩)|(cases h;rfl)|cases h
theorem tQ:∀{zs:List C} {xs:List SB},fp rI zs=some xs->dv ρ xs zs
 |[],_,h=>by simp only[fp,aa]at h;subst h;rfl
 |z::zs,xs,h=>by
  simp only[fp]at h
  split at h
  ·rename_i y hy;simp only[ad]at h;obtain⟨ys,h1,rfl⟩:=h;exact⟨z,zs,rfl,Jq hy,tQ h1⟩
  ·cases h
theorem yh(h:Rel ρ S s)(hg:gN ρ gs=some true):∀(ps:List (Nat×Nat×KX)) {zs l:List SB} {cs:List C},zi S gs zs ps=some l->dv ρ zs cs->∃iC,xP cs (ps.map λp=>(p.1,p.2.1,(eW s p.2.2).cells))=some iC/\dv ρ l iC
 |[],zs,l,cs,he,hz=>by cases he;exact⟨cs,rfl,hz⟩
 |(o,n,x)::ps,zs,l,cs,he,hz=>by
  simp only[zi]at he
  split at he
  ·rename_i c hc
   split at he
   ·rename_i ys hy
    split at he
    ·rename_i h1;obtain⟨h1,h2,h3⟩:=h1;have hr:=(cj h hg hc).cells hy h3;obtain⟨iC,h4,h5⟩:=yh h hg ps he (hz.ZX o hr);refine⟨iC,?_,h5⟩;simp only[aQ,xP];rw[if_pos ⟨by rw[hr.len,h1],by rw[hz.len];exact h2,hr.cell h3⟩];exact h4
    ·cases he
   ·cases he
  ·cases he
theorem rF{i:Nat}{x:D}{cs:List D}(hx:nth ρ i=some x)(hc:XA x=some cs):∀(n o:Nat),o+n<=cs.length->dv ρ (yH i o n) (((cs.drop o).take n).map .d)
 |0,o,_=>rfl
 |n+1,o,h=>by
  have hl:o < cs.length:=by omega
  rw[List.drop_eq_getElem_cons hl,cx,aQ];exact⟨_,_,rfl,⟨cs[o],by simp only[SE.d,hx,hc,cU];simp[hl],rfl⟩,rF hx hc n (o+1) (by omega)⟩
theorem fF{n:Nat}{o:PO}{l:List (Option SE)}(h:Iq n o l=some (bs,c))(hn:n=ρ.length)(hb:jq ρ bs=some gx):∃es xs x,l=es.map some/\gR ρ es=some xs/\aJ o xs=some x/\gx=ρ++[x]/\jQ gx c (.d x):=by
 have fin:∀{es:List SE},bs=[(o,es)]->c=vN n->l=es.map some->∃es xs x,l=es.map some/\gR ρ es=some xs/\aJ o xs=some x/\gx=ρ++[x]/\jQ gx c (.d x):=by
  intro es e1 e2 e3;subst e1 e2;obtain⟨xs,x,h1,h2,h3⟩:=dG hb;refine⟨es,xs,x,e3,h1,h2,h3,?_⟩;subst h3 hn;exact⟨x,iF ρ x [],rfl⟩
 unfold Iq at h
 split at h
 ·simp only[aa,ak]at h;exact fin h.1.symm h.2.symm rfl
 ·simp only[aa,ak]at h;exact fin h.1.symm h.2.symm rfl
 ·simp only[aa,ak]at h;exact fin h.1.symm h.2.symm rfl
 ·cases h
theorem opD(h:Rel ρ S s)(hg:gN ρ gs=some true):∀(xs:List KX) {es:List SE} {ys:List D},xs.map (λx=>sD (eR S gs x))=es.map some->gR ρ es=some ys->xs.map (eW s)=ys.map .d
 |[],es,ys,h1,h2=>by
  have:es=[]:=by simpa using h1.symm
  subst this;cases h2;rfl
 |x::xs,[],ys,h1,h2=>by simp at h1
 |x::xs,e::es,ys,h1,h2=>by
  simp only[aQ,bw]at h1;obtain⟨y,zs,h3,h4,rfl⟩:=cS h2;obtain⟨y',h5,h6⟩:=j8 h hg h1.1;rw[h3]at h5;cases h5;simp only[aQ,h6,opD h hg xs h1.2 h4]
theorem Vj(h:Rel ρ S s)(hg:gN ρ gs=some true){x:KX}{es:List SE}{xs:List D}(hl:[sD (eR S gs x)]=es.map some)(he:gR ρ es=some xs):∃a,xs=[a]/\eW s x=.d a:=by
 have:=opD h hg [x] hl he;rcases xs with _|⟨a,_|⟨b,l⟩⟩
 ·simp at this
 ·simp at this;exact⟨a,rfl,this⟩
 ·simp at this
theorem Te(h:Rel ρ S s)(hg:gN ρ gs=some true){x y:KX}{es:List SE}{xs:List D}(hl:[sD (eR S gs x),sD (eR S gs y)]=es.map some)(he:gR ρ es=some xs):∃a b,xs=[a,b]/\eW s x=.d a/\eW s y=.d b:=by
 have:=opD h hg [x,y] hl he;rcases xs with _|⟨a,_|⟨b,_|⟨c,l⟩⟩⟩
 ·simp at this
 ·simp at this
 ·simp at this;exact⟨a,b,rfl,this⟩
 ·simp at this
theorem FV(h:Rel ρ S s)(hg:gN ρ gs=some true){lo:Option KX}{e:SE}{x:D}{a:Nat}(hl:p9 S gs lo=some e)(he:e.d ρ=some x)(hd:dI x=some a):∀z,(lo=none->z=0)->pM s lo z=some a:=by
 intro z hz;cases lo with
 |none=>
  simp only[p9,aa]at hl;subst hl;cases he;simp only[SK.d,dI]at hd;simp only[pM,hz rfl]
  simpa using hd
 |some y=>
  simp only[p9]at hl;obtain⟨v,h1,h2⟩:=j8 h hg hl;rw[he]at h1;cases h1;simp only[pM,h2];cases x with
  |int k m=>cases k<;>simp_all[dI]
  |_=>simp[dI]at hd
theorem ju{es:List SE}{xs:List D}(h:gR ρ es=some xs):xs.length=es.length:=by
 induction es generalizing xs with
 |nil=>cases h;rfl
 |cons e es ih=>
  obtain⟨x,ys,_,h2,rfl⟩:=cS h;simp[ih h2]
theorem BM(h:Rel ρ S s)(hg:gN ρ gs=some true){n:Nat}(hn:n=ρ.length){o:KO}(hs:VR S gs n o=some (bs,c))(hb:jq ρ bs=some gx):∃v,gG s o=some v/\jQ gx c v:=by
 unfold VR at hs
 split at hs
 ·
  simp only[ad,ak]at hs;obtain⟨c',h1,rfl,rfl⟩:=hs;cases hb;exact⟨_,rfl,cj h hg h1⟩
 ·
  split at hs
  ·rename_i e he;obtain⟨cv,h6,h7⟩:=j8 h hg he
   split at hs
   ·rename_i hm;have:=lP hg _ hm;rw[h6]at this;cases this;simp only[ad,ak]at hs;obtain⟨c',h1,rfl,rfl⟩:=hs;cases hb;exact⟨_,by simp only[gG,h7,if_true],cj h hg h1⟩
   ·split at hs
    ·rename_i hm;have:=lP hg _ hm;rw[h6]at this;cases this;simp only[ad,ak]at hs;obtain⟨c',h1,rfl,rfl⟩:=hs;cases hb;exact⟨_,by simp only[gG,h7,av,if_false],cj h hg h1⟩
    ·obtain⟨es,xs,x,h1,h2,h3,h4,h5⟩:=fF hs hn hb;rcases es with _|⟨e0,_|⟨e1,_|⟨e2,_|⟨e3,l⟩⟩⟩⟩<;>simp at h1
     obtain⟨rfl,hx,hy⟩:=h1;obtain⟨c0,ys,g1,g2,rfl⟩:=cS h2;obtain⟨a,zs,g3,g4,rfl⟩:=cS g2;obtain⟨b,g5,rfl⟩:=ee g4;rw[g1]at h6;cases h6;cases cv with
     |bool t=>
      simp only[aJ,aa]at h3;cases t with
      |true=>
       have hg':gN ρ ((e,true)::gs)=some true:=by simp only[gN,g1,if_true];exact hg
       obtain⟨a',q1,q2⟩:=j8 h hg' hx;rw[g3]at q1;cases q1;refine⟨_,by simp only[gG,h7,if_true];rfl,?_⟩;rw[q2];simp only[if_true]at h3;rw[h3];exact h5
      |false=>
       have hg':gN ρ ((e,false)::gs)=some true:=by simp only[gN,g1,if_true];exact hg
       obtain⟨b',q1,q2⟩:=j8 h hg' hy;rw[g5]at q1;cases q1;refine⟨_,by simp only[gG,h7];rfl,?_⟩;simp only[av,if_false]at h3 ⊢;rw[q2,h3];exact h5
     |int k m=>simp[aJ]at h3
     |str t=>simp[aJ]at h3
     |list k fl es=>simp[aJ]at h3
  ·cases hs
 ·
  split at hs
  ·rename_i zs' hz;simp only[ad,ak]at hs;obtain⟨l,h1,rfl,rfl⟩:=hs;cases hb;obtain⟨iC,h2,h3⟩:=yh h hg _ h1 (tQ hz);exact⟨_,by simp only[gG,h2,aD],⟨iC,rfl,h3⟩⟩
  ·cases hs
 ·
  rename_i m x
  split at hs
  ·rename_i b o hx;have hr:=cj h hg hx;simp only[jQ]at hr
   split at hs
   ·rename_i ys hl;obtain⟨cs,h1,h2⟩:=h.bx b ys hl
    split at hs
    ·rename_i hm;simp only[ad,ak]at hs;obtain⟨y,h3,rfl,rfl⟩:=hs;cases hb;obtain⟨cv,h4,h5⟩:=h2.nth h3;exact⟨cv,by simp only[gG,hr,h1,if_pos hm,h4],h5⟩
    ·rename_i hm
     split at hs
     ·rename_i hle;simp only[aa,ak]at hs;obtain⟨rfl,rfl⟩:=hs;cases hb;exact⟨_,by simp only[gG,hr,h1,if_neg hm];rw[if_pos (by rw[h2.len];exact hle)],⟨_,rfl,(h2.drop o).take m⟩⟩
     ·cases hs
   ·cases hs
  ·rename_i i o hx;obtain⟨el,cs,h1,h2,h3⟩:=cj h hg hx
   split at hs
   ·rename_i hm;simp only[aa,ak]at hs;obtain⟨rfl,rfl⟩:=hs;obtain⟨xs,y,h4,h5,rfl⟩:=dG hb;obtain⟨a,h6,rfl⟩:=ee h4;simp only[SE.d,h1,aa]at h6;subst h6;simp only[aJ,h2]at h5;refine⟨.d y,?_,⟨y,by subst hn;exact iF ρ y [],rfl⟩⟩;simp only[gG,h3,if_pos hm];rw[cU,gV,eD,<- cU,h5];rfl
   ·rename_i hm;simp only[aa,ak]at hs;obtain⟨rfl,rfl⟩:=hs;obtain⟨xs,y,h4,h5,rfl⟩:=dG hb;obtain⟨a,h6,rfl⟩:=ee h4;simp only[SE.d,h1,aa]at h6;subst h6;simp only[aJ,h2]at h5
    split at h5
    ·rename_i hle;refine⟨_,?_,⟨_,rfl,(rF h1 h2 m o hle).mono _⟩⟩;simp only[gG,h3,if_neg hm];rw[if_pos (by rw[gL];omega)]
    ·cases h5
  ·rename_i r k i o hx;obtain⟨iv,h1,h2⟩:=cj h hg hx
   split at hs
   ·rename_i row hl;obtain⟨y,h3,es,h4,rfl⟩:=h.rw r row hl
    split at hs
    ·rename_i hk;subst hk;have key:∀{q:Nat} {el:D},aJ (.nk row.k o q row.deep) [.list row.k row.fl es,.int .i64 iv]=some el->∃e,nth es iv.toNat=some e/\o+q<=row.k/\o+q<=e.length/\(cQ ((e.drop o).take q) ||!row.deep)=true/\el=.list 0 false [e]:=by
      intro q el he;simp only[aJ]at he
      split at he
      ·rename_i e iQ
       split at he
       ·rename_i hc;cases he;exact⟨e,iQ,hc.2.1,hc.2.2.1,hc.2.2.2,rfl⟩
       ·cases he
      ·cases he
     split at hs
     ·rename_i hm;simp only[aa,ak]at hs;obtain⟨rfl,rfl⟩:=hs;simp only[jq]at hb
      split at hb
      ·rename_i xs HG
       split at hb
       ·rename_i el yp;obtain⟨z,zs,q1,q2,rfl⟩:=cS HG;obtain⟨z2,q3,rfl⟩:=ee q2;rw[h4]at q1;cases q1;rw[h1]at q3;cases q3;obtain⟨e,e1,e2,e3,e4,rfl⟩:=key yp
        split at hb
        ·rename_i IT ag0
         split at hb
         ·rename_i v hv;cases hb;obtain⟨w0,w1,rfl⟩:=ee ag0;simp only[SE.d,hn,iF,aa]at w1;subst w1;simp only[aJ,XA]at hv;refine⟨.d v,?_,⟨v,by subst hn;have:=iF (ρ++[.list 0 false [e]]) v [];simpa [SE.d] using this,rfl⟩⟩;subst hm;simp only[gG,h2,h3,e1];rw[if_pos ⟨trivial,by simpa using e2,by simpa using e4⟩,if_pos trivial,hv];rfl
         ·cases hb
        ·cases hb
       ·cases hb
      ·cases hb
     ·rename_i hm;simp only[aa,ak]at hs;obtain⟨rfl,rfl⟩:=hs;obtain⟨xs,el,HG,yp,rfl⟩:=dG hb;obtain⟨z,zs,q1,q2,rfl⟩:=cS HG;obtain⟨z2,q3,rfl⟩:=ee q2;rw[h4]at q1;cases q1;rw[h1]at q3;cases q3;obtain⟨e,e1,e2,e3,e4,rfl⟩:=key yp;have X9:Max.max m 1=m:=by omega
      refine⟨_,?_,⟨_,rfl,rF (x:=.list 0 false [e]) (by rw[hn];exact iF ρ _ []) rfl m o e3⟩⟩;simp only[gG,h2,h3,e1,X9];rw[if_pos ⟨trivial,e2,e4⟩,if_neg hm]
    ·cases hs
   ·cases hs
  ·cases hs
 ·
  split at hs
  ·rename_i b p hx;simp only[aa,ak]at hs;obtain⟨rfl,rfl⟩:=hs;cases hb;have hr:=cj h hg hx;simp only[jQ]at hr;exact⟨_,by simp only[gG,hr],rfl⟩
  ·rename_i i p hx;simp only[aa,ak]at hs;obtain⟨rfl,rfl⟩:=hs;cases hb;obtain⟨x,cs,h1,h2,h3⟩:=cj h hg hx;exact⟨_,by simp only[gG,h3];rfl,x,cs,h1,h2,by rw[pe]⟩
  ·rename_i r k i p hx;simp only[aa,ak]at hs;obtain⟨rfl,rfl⟩:=hs;cases hb;obtain⟨iv,h1,h2⟩:=cj h hg hx;exact⟨_,by simp only[gG,h2],iv,h1,rfl⟩
  ·cases hs
 ·
  split at hs
  ·rename_i e j hx hj;simp only[aa,ak]at hs;obtain⟨rfl,rfl⟩:=hs;obtain⟨xs,y,h4,h5,rfl⟩:=dG hb;obtain⟨a,zs,h6,h7,rfl⟩:=cS h4;obtain⟨b,h8,rfl⟩:=ee h7;obtain⟨a',h9,Gl⟩:=cj h hg hx;obtain⟨b',Nu,JJ⟩:=j8 h hg hj;rw[h6]at h9;cases h9;rw[h8]at Nu;cases Nu;cases a with
   |list k' fl es=>
    cases b with
    |int kk m=>
     cases kk<;>first|(simp[aJ]at h5;done)|skip
     simp only[aJ]at h5
     split at h5
     ·rename_i hc;simp only[ad]at h5;obtain⟨el,q1,rfl⟩:=h5;exact⟨_,by simp only[gG,Gl,JJ];rw[if_pos hc,q1];rfl,_,_,by rw[hn];exact iF ρ _ [],rfl,rfl⟩
     ·cases h5
    |_=>simp[aJ]at h5
   |_=>cases b<;>simp[aJ]at h5
  ·rename_i r j hx hj
   split at hs
   ·rename_i row hl;obtain⟨y,h1,es,h2,rfl⟩:=h.rw r row hl
    split at hs
    ·rename_i hk;simp only[aa,ak]at hs;obtain⟨rfl,rfl⟩:=hs;obtain⟨xs,y,h4,h5,rfl⟩:=dG hb;obtain⟨a,zs,h6,h7,rfl⟩:=cS h4;obtain⟨b,h8,rfl⟩:=ee h7;obtain⟨b',Nu,JJ⟩:=j8 h hg hj;rw[h2]at h6;cases h6;rw[h8]at Nu;cases Nu;have hr:=cj h hg hx;simp only[jQ,iY]at hr;cases b with
     |int kk m=>
      cases kk<;>first|(simp[aJ]at h5;done)|skip
      simp only[aJ]at h5
      split at h5
      ·rename_i hc;exact⟨_,by simp only[gG,hr,JJ,h1];rw[if_pos ⟨hc.1,hc.2,hk⟩],m,SE.mono _ h8,rfl⟩
      ·cases h5
     |_=>simp[aJ]at h5
    ·cases hs
   ·cases hs
  ·cases hs
 ·
  obtain⟨es,xs,y,h1,h2,h3,rfl,h5⟩:=fF hs hn hb;obtain⟨a,b,rfl,h6,h7⟩:=Te h hg h1 h2;refine⟨_,?_,h5⟩;simp only[gG,h6,h7];cases a<;>cases b<;>first|(simp[aJ]at h3;done)|skip
  rename_i t k m;cases k<;>first|(simp[aJ]at h3;done)|skip
  simp only[aJ]at h3
  split at h3
  ·rename_i hc;cases h3;simp only;rw[if_pos hc]
  ·cases h3
 ·
  obtain⟨es,xs,y,h1,h2,h3,rfl,h5⟩:=fF hs hn hb;obtain⟨a,b,rfl,h6,h7⟩:=Te h hg h1 h2;refine⟨_,?_,h5⟩;simp only[gG,h6,h7];simp only[aJ]at h3;unfold asD at h3
  split at h3
  ·rename_i z hz;cases h3;exact hz
  ·cases h3
 ·
  obtain⟨es,xs,y,h1,h2,h3,rfl,h5⟩:=fF hs hn hb;obtain⟨a,b,rfl,h6,h7⟩:=Te h hg h1 h2;refine⟨_,?_,h5⟩;simp only[gG,h6,h7];cases a<;>cases b<;>first|(simp[aJ]at h3;done)|skip
  simp only[aJ]at h3;simp only[h3,aD]
 ·
  obtain⟨es,xs,y,h1,h2,h3,rfl,h5⟩:=fF hs hn hb;obtain⟨a,rfl,h6⟩:=Vj h hg h1 h2;refine⟨_,?_,h5⟩;simp only[gG,h6];cases a<;>first|(simp[aJ]at h3;done)|skip
  simp only[aJ,aa]at h3;simp only[h3]
 ·
  obtain⟨es,xs,y,h1,h2,h3,rfl,h5⟩:=fF hs hn hb;obtain⟨a,rfl,h6⟩:=Vj h hg h1 h2;refine⟨_,?_,h5⟩;simp only[gG,h6];cases a<;>first|(simp[aJ]at h3;done)|skip
  simp only[aJ,aa]at h3;simp only[h3]
 ·
  obtain⟨es,xs,y,h1,h2,h3,rfl,h5⟩:=fF hs hn hb;obtain⟨a,rfl,h6⟩:=Vj h hg h1 h2;refine⟨_,?_,h5⟩;simp only[gG,h6];cases a<;>first|(simp[aJ]at h3;done)|skip
  simp only[aJ,aa]at h3;simp only[h3]
 ·
  split at hs
  ·rename_i e hx;simp only[aa,ak]at hs;obtain⟨rfl,rfl⟩:=hs;obtain⟨xs,y,h4,h5,rfl⟩:=dG hb;obtain⟨a,h6,rfl⟩:=ee h4;obtain⟨a',h9,Gl⟩:=cj h hg hx;rw[h6]at h9;cases h9;refine⟨.d y,?_,y,by subst hn;exact iF ρ y [],rfl⟩;simp only[gG,Gl];cases a<;>first|(simp[aJ]at h5;done)|skip
   simp only[aJ,aa]at h5;simp only[h5]
  ·rename_i k fl hx;simp only[aa,ak]at hs;obtain⟨rfl,rfl⟩:=hs;cases hb;have hr:=cj h hg hx;simp only[jQ,iY]at hr;exact⟨_,by simp only[gG,hr];rfl,_,rfl,rfl⟩
  ·rename_i r hx
   split at hs
   ·rename_i row hl;obtain⟨y,h1,es,h2,rfl⟩:=h.rw r row hl;simp only[aa,ak]at hs;obtain⟨rfl,rfl⟩:=hs;obtain⟨xs,y,h4,h5,rfl⟩:=dG hb;obtain⟨a,h6,rfl⟩:=ee h4;rw[h2]at h6;cases h6;have hr:=cj h hg hx;simp only[jQ,iY]at hr;simp only[aJ,aa]at h5;exact⟨.d y,by simp only[gG,hr,h1,<- h5],y,by subst hn;exact iF ρ y [],rfl⟩
   ·cases hs
  ·cases hs
 ·
  obtain⟨es,xs,y,h1,h2,h3,rfl,h5⟩:=fF hs hn hb;obtain⟨a,rfl,h6⟩:=Vj h hg h1 h2;refine⟨_,?_,h5⟩;simp only[gG,h6];cases a<;>first|(simp[aJ]at h3;done)|skip
  simp only[aJ,aa]at h3;simp only[h3]
 ·
  obtain⟨es,xs,y,h1,h2,h3,rfl,h5⟩:=fF hs hn hb;obtain⟨a,b,rfl,h6,h7⟩:=Te h hg h1 h2;refine⟨_,?_,h5⟩;simp only[gG,h6,h7];cases a<;>cases b<;>first|(simp[aJ]at h3;done)|skip
  rename_i k1 a k2 b;cases k1<;>cases k2<;>first|(simp[aJ]at h3;done)|skip
  simp only[aJ,aa]at h3;simp only[h3]
 ·
  obtain⟨es,xs,y,h1,h2,h3,rfl,h5⟩:=fF hs hn hb;obtain⟨a,b,rfl,h6,h7⟩:=Te h hg h1 h2;refine⟨_,?_,h5⟩;simp only[gG,h6,h7];cases a<;>cases b<;>first|(simp[aJ]at h3;done)|skip
  rename_i k1 a k2 b;cases k1<;>cases k2<;>first|(simp[aJ]at h3;done)|skip
  simp only[aJ,aa]at h3;simp only[h3]
 ·
  split at hs
  ·rename_i ys hx;obtain⟨cs,h1,h2⟩:=cj h hg hx;have key:∀{ys:List (SB ⊕ List SB)} {cs:List C} (i:Nat),ru ρ ys cs->(∀y,nth ys i=some (.inl y)->∃c,nth cs i=some c/\iY ρ y c)/\(∀l,nth ys i=some (.inr l)->∃ds,nth cs i=some (.agg ds)/\dv ρ l ds):=by
    intro ys
    induction ys with
    |nil=>intro cs i _;exact⟨λ_ h=>by simp[nth]at h,λ_ h=>by simp[nth]at h⟩
    |cons y ys ih=>
     intro cs i hr;cases y with
     |inl y=>
      obtain⟨c,iC,rfl,g1,g2⟩:=hr;cases i with
      |zero=>exact⟨λz hz=>by cases hz;exact⟨c,rfl,g1⟩,λl hl=>by cases hl⟩
      |succ i=>exact ih i g2
     |inr l=>
      obtain⟨ds,iC,rfl,g1,g2⟩:=hr;cases i with
      |zero=>exact⟨λz hz=>(by cases hz),λl hl=>by cases hl;exact⟨ds,rfl,g1⟩⟩
      |succ i=>exact ih i g2
   split at hs
   ·rename_i y hy;simp only[aa,ak]at hs;obtain⟨rfl,rfl⟩:=hs;cases hb;obtain⟨cv,h3,h4⟩:=(key _ h2).1 y hy;exact⟨cv,by simp only[gG,h1,h3],h4⟩
   ·rename_i l hy;simp only[aa,ak]at hs;obtain⟨rfl,rfl⟩:=hs;cases hb;obtain⟨ds,h3,h4⟩:=(key _ h2).2 l hy;exact⟨_,by simp only[gG,h1,h3],⟨ds,rfl,h4⟩⟩
   ·cases hs
  ·cases hs
 ·
  obtain⟨es,xs,y,h1,h2,h3,rfl,h5⟩:=fF hs hn hb;rcases es with _|⟨e0,_|⟨e1,_|⟨e2,_|⟨e3,l⟩⟩⟩⟩<;>simp at h1
  obtain⟨hx,rfl,hy⟩:=h1;obtain⟨a,ys,g1,g2,rfl⟩:=cS h2;obtain⟨z,zs,g3,g4,rfl⟩:=cS g2;obtain⟨b,g5,rfl⟩:=ee g4;cases g3;obtain⟨a',q1,q2⟩:=j8 h hg hx;obtain⟨b',q3,q4⟩:=j8 h hg hy;rw[g1]at q1;cases q1;rw[g5]at q3;cases q3;refine⟨_,?_,h5⟩;cases a<;>first|(simp[aJ]at h3;done)|skip
  cases b<;>first|(simp[aJ,dI,SK.d]at h3;done)|skip
  rename_i k m;cases k<;>first|(simp[aJ,dI,SK.d]at h3;done)|skip
  simp only[aJ,dI,SK.d,Int.le_refl,if_true,Int.toNat_zero]at h3
  split at h3
  ·rename_i a b ha kT;cases ha
   split at kT
   ·rename_i hm;cases kT
    split at h3
    ·rename_i hc;cases h3;simp only[gG,q2,q4];rw[if_pos ⟨hm,hc.2⟩,aV]
    ·cases h3
   ·cases kT
  ·cases h3
 ·
  split at hs
  ·obtain⟨es,xs,y,h1,h2,h3,rfl,h5⟩:=fF hs hn hb;rcases es with _|⟨e0,_|⟨e1,_|⟨e2,l⟩⟩⟩<;>simp at h1
   obtain⟨hx,hy⟩:=h1;obtain⟨a,ys,g1,g2,rfl⟩:=cS h2;obtain⟨z,g3,rfl⟩:=ee g2;obtain⟨a',q1,q2⟩:=j8 h hg hx;rw[g1]at q1;cases q1;refine⟨_,?_,h5⟩;cases a<;>first|(simp[aJ]at h3;done)|skip
   simp only[aJ]at h3
   split at h3
   ·rename_i a ha;have I3:=FV h hg hy g3 ha 0 (λ_=>rfl)
    split at h3
    ·rename_i hc;cases h3;simp only[gG,q2,I3];simp only[pM];rw[if_pos ⟨hc,aj _⟩]
    ·cases h3
   ·cases h3
  ·obtain⟨es,xs,y,h1,h2,h3,rfl,h5⟩:=fF hs hn hb;rcases es with _|⟨e0,_|⟨e1,_|⟨e2,_|⟨e3,l⟩⟩⟩⟩<;>simp at h1
   obtain⟨hx,hy,hz⟩:=h1;obtain⟨a,ys,g1,g2,rfl⟩:=cS h2;obtain⟨z,zs,g3,g4,rfl⟩:=cS g2;obtain⟨b,g5,rfl⟩:=ee g4;obtain⟨a',q1,q2⟩:=j8 h hg hx;rw[g1]at q1;cases q1;refine⟨_,?_,h5⟩;cases a<;>first|(simp[aJ]at h3;done)|skip
   simp only[aJ]at h3
   split at h3
   ·rename_i a b ha kT;have I3:=FV h hg hy g3 ha 0 (λ_=>rfl)
    split at h3
    ·rename_i hc;cases h3;have Wv:=λz=>FV (lo:=some _) h hg hz g5 kT z (λh=>by cases h);simp only[gG,q2,I3,Wv];rw[if_pos hc]
    ·cases h3
   ·cases h3
 ·
  split at hs
  ·obtain⟨es,xs,y,h1,h2,h3,rfl,h5⟩:=fF hs hn hb;rcases es with _|⟨e0,_|⟨e1,_|⟨e2,l⟩⟩⟩<;>simp at h1
   obtain⟨hx,hy⟩:=h1;obtain⟨a,ys,g1,g2,rfl⟩:=cS h2;obtain⟨z,g3,rfl⟩:=ee g2;obtain⟨a',q1,q2⟩:=j8 h hg hx;rw[g1]at q1;cases q1;refine⟨_,?_,h5⟩;cases a<;>first|(simp[aJ]at h3;done)|skip
   simp only[aJ]at h3
   split at h3
   ·rename_i a ha;have I3:=FV h hg hy g3 ha 0 (λ_=>rfl)
    split at h3
    ·rename_i hc;cases h3;simp only[gG,q2,I3];simp only[pM];rw[if_pos ⟨hc.1,hc.2,aj _⟩,aU]
    ·cases h3
   ·cases h3
  ·obtain⟨es,xs,y,h1,h2,h3,rfl,h5⟩:=fF hs hn hb;rcases es with _|⟨e0,_|⟨e1,_|⟨e2,_|⟨e3,l⟩⟩⟩⟩<;>simp at h1
   obtain⟨hx,hy,hz⟩:=h1;obtain⟨a,ys,g1,g2,rfl⟩:=cS h2;obtain⟨z,zs,g3,g4,rfl⟩:=cS g2;obtain⟨b,g5,rfl⟩:=ee g4;obtain⟨a',q1,q2⟩:=j8 h hg hx;rw[g1]at q1;cases q1;refine⟨_,?_,h5⟩;cases a<;>first|(simp[aJ]at h3;done)|skip
   simp only[aJ]at h3
   split at h3
   ·rename_i a b ha kT;have I3:=FV h hg hy g3 ha 0 (λ_=>rfl)
    split at h3
    ·rename_i hc;cases h3;have Wv:=λz=>FV (lo:=some _) h hg hz g5 kT z (λh=>by cases h);simp only[gG,q2,I3,Wv];rw[if_pos hc]
    ·cases h3
   ·cases h3
 ·
  split at hs
  ·rename_i b p hx;simp only[aa,ak]at hs;obtain⟨rfl,rfl⟩:=hs;cases hb;have hr:=cj h hg hx;simp only[jQ]at hr;exact⟨_,by simp only[gG,hr],rfl⟩
  ·rename_i i p hx;simp only[aa,ak]at hs;obtain⟨rfl,rfl⟩:=hs;cases hb;obtain⟨x,cs,h1,h2,h3⟩:=cj h hg hx;exact⟨_,by simp only[gG,h3],x,cs,h1,h2,rfl⟩
  ·rename_i r k i p hx;simp only[aa,ak]at hs;obtain⟨rfl,rfl⟩:=hs;cases hb;obtain⟨iv,h1,h2⟩:=cj h hg hx;exact⟨_,by simp only[gG,h2],iv,h1,rfl⟩
  ·cases hs
 ·
  split at hs
  ·rename_i r hx
   split at hs
   ·rename_i row hl;obtain⟨y,h1,es,h2,rfl⟩:=h.rw r row hl
    split at hs
    ·rename_i hk;simp only[aa,ak]at hs;obtain⟨rfl,rfl⟩:=hs;obtain⟨xs,y,h4,h5,rfl⟩:=dG hb;obtain⟨a,h6,rfl⟩:=ee h4;rw[h2]at h6;cases h6;have hr:=cj h hg hx;simp only[jQ,iY]at hr;rw[hk]at h5;simp only[aJ]at h5;refine⟨.d y,?_,y,by subst hn;exact iF ρ y [],rfl⟩;simp only[gG,hr,h1];rw[if_pos hk];rw[ad]at h5 ⊢;obtain⟨zs,z1,z2⟩:=h5;exact⟨zs,z1,by rw[z2]⟩
    ·cases hs
   ·cases hs
  ·cases hs
 ·cases hs
end
end
section
def nU(S:SS):List SB->Option (List SE×List SE×Bool×SS)
 |[]=>some ([],[],true,S)
 | .d e::xs=>match e with
  | .k (.nil _ _)=>none
  | .k x=>(nU S xs).map λp=>(.k x::p.1,p.2.1,p.2.2.1,p.2.2.2)
  |e=>(nU S xs).map λp=>(e::p.1,e::p.2.1,p.2.2.1,p.2.2.2)
 | .nil k fl::xs=>(nU S xs).map λp=>(.k (.nil k fl)::p.1,p.2.1,p.2.2.1,p.2.2.2)
 | .ref r::xs=>match look S.rw r with
  |some x=>(nU (S.cM r) xs).map λp=>(x.e::p.1,p.2.1,x.deep && !x.fz && p.2.2.1,p.2.2.2)
  |none=>none
 | .any::_=>none
def oG(k:Nat):SS->List SC->Option (List SE×List SE×Bool×SS)
 |S,[]=>some ([],[],true,S)
 |S,c::cs=>match c.cells with
  |some xs=>if xs.all SB.cell=true then (match nU S xs with
   |some p=>if p.1.length=k then (oG k p.2.2.2 cs).map λq=>(p.1++q.1,p.2.1++q.2.1,p.2.2.1 && q.2.2.1,q.2.2.2) else none
   |none=>none) else none
  |none=>none
def DY(ρ:List D):List SC->List C->Prop
 |[],cs=>cs=[]
 |x::xs,cs=>∃c iC,cs=c::iC/\jQ ρ x c/\DY ρ xs iC
section
variable {ρ gx:List D} {S:SS} {s:St} {gs:Gs}
theorem ox:∀{es fs:List SE} {xs ys:List D},gR ρ es=some xs->gR ρ fs=some ys->gR ρ (es++fs)=some (xs++ys)
 |[],_,_,_,h,h'=>by cases h;exact h'
 |e::es,_,_,_,h,h'=>by
  obtain⟨x,ys,h1,h2,rfl⟩:=cS h;simp only[ai,gR,h1,ox h2 h',aD]
theorem CW:∀{es fs:List SE} {xs ds:List D},gR ρ es=some xs->gR ρ (es++fs)=some ds->∃ys,ds=xs++ys/\gR ρ fs=some ys
 |[],_,_,ds,h,h'=>by cases h;exact⟨ds,rfl,h'⟩
 |e::es,_,_,_,h,h'=>by
  obtain⟨x,ys,h1,h2,rfl⟩:=cS h;obtain⟨x',zs,h3,h4,rfl⟩:=cS (es:=es++_) h';rw[h1]at h3;cases h3;obtain⟨ws,rfl,h5⟩:=CW h2 h4;exact⟨ws,rfl,h5⟩
theorem u7(τ:List D):∀{es:List SE} {xs:List D},gR ρ es=some xs->gR (ρ++τ) es=some xs
 |[],_,h=>by cases h;rfl
 |e::es,_,h=>by
  obtain⟨x,ys,h1,h2,rfl⟩:=cS h;simp only[gR,SE.mono τ h1,u7 τ h2,aD]
theorem mA(x:D)(xs:List D):cQ (x::xs)=(x.plain && cQ xs):=rfl
theorem uy(xs ys:List D):cQ (xs++ys)=(cQ xs && cQ ys):=List.all_append
theorem Lm:∀{xs:List SB} {cs:List C} {S S':SS} {s:St} {es pl:List SE} {dp:Bool},Rel ρ S s->dv ρ xs cs->nU S xs=some (es,pl,dp,S')->
  ∃ds ps s',B3 s cs=some (ds,dp && cQ ps,s')/\gR ρ es=some ds/\gR ρ pl=some ps/\Rel ρ S' s':=by
 intro xs
 induction xs with
 |nil=>
  intro cs S S' s es pl dp h hx hs;simp only[dv]at hx;subst hx;simp only[nU,aa,ak]at hs;obtain⟨rfl,rfl,rfl,rfl⟩:=hs;exact⟨[],[],s,rfl,rfl,rfl,h⟩
 |cons x xs ih=>
  intro cs S S' s es pl dp h hx hs;obtain⟨c,iC,rfl,h1,h2⟩:=hx;have data:∀{e:SE},x=.d e->(nU S xs).map (λp=>(e::p.1,e::p.2.1,p.2.2.1,p.2.2.2))=some (es,pl,dp,S')->∃ds ps s',B3 s (c::iC)=some (ds,dp && cQ ps,s')/\gR ρ es=some ds/\gR ρ pl=some ps/\Rel ρ S' s':=by
   intro e he pj;subst he;obtain⟨⟨a1,a2,a3,a4⟩,h4,h5⟩:=ad.1 pj;simp only[ak]at h5;obtain⟨rfl,rfl,rfl,rfl⟩:=h5;obtain⟨y,h6,rfl⟩:=h1;obtain⟨ds,ps,s',g1,g2,g3,g4⟩:=ih h h2 h4;refine⟨y::ds,y::ps,s',?_,by simp only[gR,h6,g2,aD],by simp only[gR,h6,g3,aD],g4⟩;simp only[B3,g1,aD,mA,aa,ak,true_and,and_true];cases D.plain y<;>simp
  cases x with
  |d e=>
   cases e with
   |v i=>exact data rfl hs
   |c i j=>exact data rfl hs
   |k z=>
    have hz:∀{y:D},z.d=y->D.plain y=true->(nU S xs).map (λp=>(SE.k z::p.1,p.2.1,p.2.2.1,p.2.2.2))=some (es,pl,dp,S')->∃ds ps s',B3 s (c::iC)=some (ds,dp && cQ ps,s')/\gR ρ es=some ds/\gR ρ pl=some ps/\Rel ρ S' s':=by
     intro y h6 hp hs;obtain⟨⟨a1,a2,a3,a4⟩,h4,h5⟩:=ad.1 hs;simp only[ak]at h5;obtain⟨rfl,rfl,rfl,rfl⟩:=h5;obtain⟨y',h7,rfl⟩:=h1;simp only[SE.d,aa]at h7;rw[h6]at h7;subst h7;obtain⟨ds,ps,s',g1,g2,g3,g4⟩:=ih h h2 h4;exact⟨y::ds,ps,s',by simp only[B3,g1,aD,hp,cB],by simp only[gR,SE.d,h6,g2,aD],g3,g4⟩
    cases z with
    |nil k fl=>cases hs
    |int k n=>exact hz rfl rfl hs
    |bool b=>exact hz rfl rfl hs
    |str t=>exact hz rfl rfl hs
  |nil k fl=>
   obtain⟨⟨a1,a2,a3,a4⟩,h4,h5⟩:=ad.1 hs;simp only[ak]at h5;obtain⟨rfl,rfl,rfl,rfl⟩:=h5;simp only[iY]at h1;subst h1;obtain⟨ds,ps,s',g1,g2,g3,g4⟩:=ih h h2 h4;exact⟨D.list k fl []::ds,ps,s',by simp only[B3,g1,aD],by simp only[gR,SE.d,SK.d,g2,aD],g3,g4⟩
  |ref r=>
   simp only[nU]at hs
   split at hs
   ·rename_i row hl;obtain⟨⟨a1,a2,a3,a4⟩,h4,h5⟩:=ad.1 hs;simp only[ak]at h5;obtain⟨rfl,rfl,rfl,rfl⟩:=h5;simp only[iY]at h1;subst h1;obtain⟨y,q1,ja,q2,rfl⟩:=h.rw r row hl;obtain⟨ds,ps,s',g1,g2,g3,g4⟩:=ih (h.cM r) h2 h4;exact⟨D.list row.k row.fl ja::ds,ps,s',by simp only[B3,q1,g1,aD,fq],by simp only[gR,q2,g2,aD],g3,g4⟩
   ·cases hs
  |any=>cases hs
theorem CS:∀{cs:List C} {s s':St} {ds:List D} {dp:Bool},B3 s cs=some (ds,dp,s')->cQ ds=true->dp=true:=by
 intro cs
 induction cs with
 |nil=>intro s s' ds dp h _;simp only[B3,aa,ak]at h;exact h.2.1.symm
 |cons c cs ih=>
  intro s s' ds dp h hp;cases c with
  |d x=>
   obtain⟨⟨a1,a2,a3⟩,h4,h5⟩:=ad.1 h;simp only[ak]at h5;obtain⟨rfl,rfl,rfl⟩:=h5;rw[mA,ab]at hp;rw[hp.1,ih h4 hp.2];rfl
  |nil k fl=>
   obtain⟨⟨a1,a2,a3⟩,h4,h5⟩:=ad.1 h;simp only[ak]at h5;obtain⟨rfl,rfl,rfl⟩:=h5;rw[mA,ab]at hp;exact ih h4 hp.2
  |ref r=>
   simp only[B3]at h
   split at h
   ·obtain⟨⟨a1,a2,a3⟩,h4,h5⟩:=ad.1 h;simp only[ak]at h5;obtain⟨rfl,rfl,rfl⟩:=h5;rw[mA,ab]at hp;exact absurd hp.1 (by simp[D.plain])
   ·cases h
  |ptr _ _=>cases h
  |mY _ _ _ _=>cases h
  |qJ _=>cases h
  |agg _=>cases h
  |oH _=>cases h
  |qZ=>cases h
  |any=>cases h
theorem P6{k:Nat}{fl:Bool}:∀{cs:List SC} {vs:List C} {S S':SS} {s:St} {es pl:List SE} {dp:Bool} {ds:List D} {I1:List (List D)},Rel ρ S s->DY ρ cs vs->oG k S cs=some (es,pl,dp,S')->
  gR ρ es=some ds->chunk k cs.length ds=some I1->(fl=true->I1.all cQ=true)->∃ps s',zM k fl s vs=some (I1,dp && cQ ps,s')/\gR ρ pl=some ps/\Rel ρ S' s':=by
 intro cs
 induction cs with
 |nil=>
  intro vs S S' s es pl dp ds I1 h hv hs he hc hf;simp only[DY]at hv;subst hv;simp only[oG,aa,ak]at hs;obtain⟨rfl,rfl,rfl,rfl⟩:=hs;cases he;cases hc;exact⟨[],s,rfl,rfl,h⟩
 |cons c cs ih=>
  intro vs S S' s es pl dp ds I1 h hv hs he hc hf;obtain⟨v,dZ,rfl,hv1,hv2⟩:=hv;simp only[oG]at hs
  split at hs
  ·rename_i xs hx
   split at hs
   ·rename_i ri
    split at hs
    ·rename_i p hp;obtain⟨p1,p2,p3,p4⟩:=p;simp only at hs
     split at hs
     ·rename_i hk;obtain⟨⟨a1,a2,a3,a4⟩,h4,h5⟩:=ad.1 hs;simp only[ak]at h5;obtain⟨rfl,rfl,rfl,rfl⟩:=h5;obtain⟨ds1,ps1,s1,g1,g2,g3,g4⟩:=Lm h (hv1.cells hx ri) hp;have I2:ds1.length=k:=by rw[ju g2,hk]
      have hsp:=CW g2 he;obtain⟨ds2,rfl,he2⟩:=hsp;simp only[az,chunk,aL,I2]at hc;rw[if_pos (by omega)]at hc;obtain⟨ags,w1,rfl⟩:=ad.1 hc;have ht:(ds1++ds2).take k=ds1:=by rw[<- I2];exact lZ
      have hd:(ds1++ds2).drop k=ds2:=by rw[<- I2];exact List.drop_left
      rw[hd]at w1;rw[ht]at hf ⊢;simp only[bT,ab]at hf;obtain⟨ps,s',q1,q2,q3⟩:=ih g4 hv2 h4 he2 w1 (λsV=>(hf sV).2);refine⟨ps1++ps,s',?_,ox g3 q2,q3⟩;simp only[zM,g1];rw[if_pos ⟨I2,λsV=>(hf sV).1⟩,q1];simp only[aD,uy,aa,ak,true_and,and_true];cases p3<;>cases a3<;>simp
     ·cases hs
    ·cases hs
   ·cases hs
  ·cases hs
end
end
section
def ZS:D->Option SK
 | .int k n=>some (.int k n)
 | .bool b=>some (.bool b)
 | .str t=>some (.str t)
 | .list k fl []=>some (.nil k fl)
 |_=>none
def SB.fY(q i:Nat):SB->SB
 | .ref r=>if r=q then .ref i else if r=i then .any else .ref r
 |x=>x
def SC.fY(q i:Nat):SC->SC
 | .b x=>.b (x.fY q i)
 | .agg xs=>.agg (xs.map (SB.fY q i))
 | .oH xs=>.oH (xs.map λ| .inl x=>.inl (x.fY q i) | .inr l=>.inr (l.map (SB.fY q i)))
 | .mY r k a o=>if r=q then .mY i k a o else if r=i then .any else .mY r k a o
 |x=>x
def SS.fY(S:SS)(q i:Nat)(row:SR):SS:=⟨S.sl.map λp=>(p.1,⟨p.2.gs,p.2.c.fY q i⟩),S.bx.map λp=>(p.1,p.2.map (SB.fY q i)),(i,row)::pg (pg S.rw q) i⟩
def DQ(S:SS)(gs:Gs):List KX->Option (List SC)
 |[]=>some []
 |x::xs=>match eR S gs x with
  |some c=>(DQ S gs xs).map (c::·)
  |none=>none
def Vk(hint:List Nat)(d:Nat)(fl dp:Bool)(pl:List SE):Bs×Bool:=
 if fl=true then ([],true) else if dp=false then ([],false) else match pl with
  |[]=>([],true)
  |pl=>if hint.contains (1000 * d+pl.length) then ([(.vV,pl)],false) else ([(.pl,pl)],true)
def Kv(S:SS)(k:Nat)(fl:Bool):SC->Option (SE×Bool×SS)
 | .b (.d e)=>some (e,fl,S)
 | .b (.nil _ _)=>some (.k (.nil k fl),true,S)
 | .b (.ref q)=>match look S.rw q with
  |some row=>if row.k=k/\row.fl=fl then some (row.e,(row.deep && !row.fz) ||fl,S.cM q) else none
  |none=>none
 |_=>none
def T8(S:SS)(gs:Gs)(e:SE)(lo hi:Option KX):Option (PO×List SE):=
 match hi with
 |none=>match p9 S gs lo with
  |some l=>some (.cut false,[e,l])
  |none=>none
 |some h=>match p9 S gs lo,sD (eR S gs h) with
  |some l,some h=>some (.cut true,[e,l,h])
  |_,_=>none
def oc(hint:List Nat)(S:SS)(gs:Gs)(n:Nat)(d:Option Nat):KO->Option (Bs×SS)
 | .alloc zs=>match d,fp rI zs with
  |some b,some xs=>some ([],(S.jK b xs).put d ⟨[],.ptr b 0⟩)
  |_,_=>none
 | .box x=>match d,eR S gs x with
  |some b,some c=>match c.cells with
   |some xs=>if xs.all SB.cell=true then some ([],(S.jK b (xs.map (SB.kill b))).put d ⟨[],.ptr b 0⟩) else none
   |none=>none
  |_,_=>none
 | .na k fl xs=>match d,DQ S gs xs with
  |some r,some cs=>match oG k S cs with
   |some p=>if 0 < k then (match Vk hint r fl p.2.2.1 p.2.1 with
    |(bs,deep)=>some (bs++[(.dV k fl,p.1)],(p.2.2.2.newRow r ⟨.v (n+bs.length),k,fl,deep,true,false⟩).put d ⟨[],.b (.ref r)⟩)) else none
   |none=>none
  |_,_=>none
 | .make k by_ fl zs x=>match d,sD (eR S gs x),fp ZS zs with
  |some r,some e,some ks=>some ([(.make k by_ fl ks,[e])],(S.newRow r ⟨.v n,k,fl,true,true,false⟩).put d ⟨[],.b (.ref r)⟩)
  |_,_,_=>none
 | .st m x y=>match eR S gs x,eR S gs y with
  |some (.ptr b o),some c=>match look S.bx b,c.cells with
   |some xs,some ys=>if ys.all SB.cell=true/\ys.length=m/\o+m<=xs.length then some ([],S.eO b (VK xs o ys)) else none
   |_,_=>none
  |some (.mY r k i o),some c=>match c.cells with
   |some ys=>match nU S ys with
    |some p=>match look p.2.2.2.rw r with
     |some row=>if ys.all SB.cell=true/\row.k=k/\row.fz=false/\row.app=true/\p.1.length=m/\o+m<=k/\(p.2.2.1 ||!row.deep ||row.fl)=true then
       some (if row.fl ||!row.deep then ([(.set o,row.e::i::p.1)],p.2.2.2.setRow r ⟨.v n,row.k,row.fl,row.deep,row.app,row.fz⟩)
        else ([(.pl,p.2.1),(.set o,row.e::i::p.1)],p.2.2.2.setRow r ⟨.v (n+1),row.k,row.fl,row.deep,row.app,row.fz⟩)) else none
     |none=>none
    |none=>none
   |none=>none
  |_,_=>none
 | .app k by_ fl x y=>match d,eR S gs y with
  |some d0,some c=>match Kv S k fl c with
   |some p=>match eR S gs x with
    |some (.b (.nil k' sR))=>if k'=k/\sR=fl then some ([(.app k by_,[.k (.nil k fl),p.1])],(p.2.2.newRow d0 ⟨.v n,k,fl,p.2.1,true,false⟩).put d ⟨[],.b (.ref d0)⟩) else none
    |some (.b (.ref r))=>match look p.2.2.rw r with
     |some row=>if row.k=k/\row.fl=fl/\row.app=true then some ([(.app k by_,[row.e,p.1])],(p.2.2.newRow r ⟨.v n,row.k,row.fl,row.deep && p.2.1,row.app,row.fz⟩).put d ⟨[],.b (.ref r)⟩) else none
     |none=>none
    |_=>none
   |none=>none
  |_,_=>none
 | .cut k x lo hi=>match d,eR S gs x with
  |some _,some (.b (.nil k' fl))=>match T8 S gs (.k (.nil k fl)) lo hi with
   |some b=>if k'=k then some ([b],S.put d ⟨[],.b (.nil k' fl)⟩) else none
   |none=>none
  |some _,some (.b (.ref r))=>match look S.rw r with
   |some row=>match T8 S gs row.e lo hi with
    |some b=>if row.k=k/\row.fz=false then some ([b],(S.newRow r ⟨.v n,row.k,row.fl,row.deep,row.app && lo.isNone,row.fz⟩).put d ⟨[],.b (.ref r)⟩) else none
    |none=>none
   |none=>none
  |_,_=>none
 | .xL k x y=>match d,eR S gs x,sD (eR S gs y) with
  |some _,some (.b (.ref r)),some e=>match look S.rw r with
   |some row=>if row.k=k/\row.fl=true/\row.fz=false/\row.app=true then some ([(.xL,[row.e,e]),(.len,[.v n])],(S.setRow r ⟨.v n,row.k,row.fl,row.deep,row.app,row.fz⟩).put d ⟨[],vN (n+1)⟩) else none
   |none=>none
  |_,_,_=>none
 | .Mq x=>match d,eR S gs x with
  |some d0,some (.b (.ref q))=>match look S.rw q with
   |some row=>some ([],(S.fY q (tB d0 0) row).put d ⟨[],.b (.ref (tB d0 0))⟩)
   |none=>none
  |some _,some (.b (.nil k fl))=>some ([],S.put d ⟨[],.b (.nil k fl)⟩)
  |some _,some (.b (.d e))=>some ([],S.put d ⟨[],.b (.d e)⟩)
  |_,_=>none
 | .jn x y=>match d,eR S gs x,eR S gs y with
  |some _,some (.b (.ref r)),some c=>match look S.rw r with
   |some row=>if row.k=1/\row.fl=true/\row.fz=false/\row.app=true then (match c with
    | .b (.d e)=>some ([(.Rk,[row.e,e]),(.Rj,[row.e,e])],(S.setRow r ⟨.v n,row.k,row.fl,row.deep,row.app,row.fz⟩).put d ⟨[],vN (n+1)⟩)
    | .b (.ref q)=>match look S.rw q with
     |some Iw=>if Iw.k=1/\q≠r then some ([(.Rk,[row.e,Iw.e]),(.Rj,[row.e,Iw.e])],(S.setRow r ⟨.v n,row.k,row.fl,row.deep,row.app,row.fz⟩).put d ⟨[],vN (n+1)⟩) else none
     |none=>none
    |_=>none) else none
   |none=>none
  |_,_,_=>none
 |_=>none
section
variable {ρ gx:List D} {S S':SS} {s:St} {gs:Gs} {bs:Bs} {cf:Nat->List A->Option (List A×List A)} {mf:Nat->Bool->List D->Int->Option (List D×Int)} {hint:List Nat} {n:Nat} {d:Option Nat}
theorem sC:∀{bs cs:Bs} {ρ gx:List D},jq ρ (bs++cs)=some gx->∃O5,jq ρ bs=some O5/\jq O5 cs=some gx
 |[],_,ρ,_,h=>⟨ρ,rfl,h⟩
 |(o,es)::bs,cs,ρ,gx,h=>by
  simp only[ai,jq]at h ⊢
  split at h
  ·rename_i xs hx
   split at h
   ·rename_i x hy;obtain⟨O5,h1,h2⟩:=sC h;exact⟨O5,h1,h2⟩
   ·cases h
  ·cases h
theorem sE:∀{bs:Bs} {ρ gx:List D},jq ρ bs=some gx->gx.length=ρ.length+bs.length
 |[],ρ,_,h=>by cases h;rfl
 |(o,es)::bs,ρ,gx,h=>by
  simp only[jq]at h
  split at h
  ·split at h
   ·have:=sE h;simp only[aL,az,aK]at this ⊢;omega
   ·cases h
  ·cases h
theorem DY.mono(τ:List D):∀{cs:List SC} {vs:List C},DY ρ cs vs->DY (ρ++τ) cs vs
 |[],_,h=>h
 |_::_,_,⟨v,vs,h1,h2,h3⟩=>⟨v,vs,h1,h2.mono τ,h3.mono τ⟩
theorem xw(h:Rel ρ S s)(hg:gN ρ gs=some true):∀{xs:List KX} {cs:List SC},DQ S gs xs=some cs->DY ρ cs (xs.map (eW s))
 |[],_,h=>by cases h;rfl
 |x::xs,_,hs=>by
  simp only[DQ]at hs
  split at hs
  ·rename_i c hc;obtain⟨cs,h1,rfl⟩:=ad.1 hs;exact⟨_,_,rfl,cj h hg hc,xw h hg h1⟩
  ·cases hs
theorem nq(hn:n=ρ.length){x:D}{k:Nat}{fl:Bool}{es:List (List D)}(hx:x=.list k fl es){a b c:Bool}:TE (ρ++[x]) ⟨.v n,k,fl,a,b,c⟩ ⟨es,k,fl,a,b,c⟩:=by
 subst hn hx;exact⟨es,iF ρ _ [],rfl⟩
theorem pT.ref{r:Nat}:pT ρ ⟨[],.b (.ref r)⟩ (.ref r):=pT.nil (by simp only[jQ,iY])
theorem pT.ptr{b o:Nat}:pT ρ ⟨[],.ptr b o⟩ (.ptr b o):=pT.nil (by simp only[jQ])
theorem pT.new(hn:n=ρ.length){x:D}:pT (ρ++[x]) ⟨[],vN n⟩ (.d x):=by
 subst hn;exact pT.nil ⟨x,iF ρ _ [],rfl⟩
theorem D_{z:C}{x:SB}(h:rI z=some x):z.const=true:=by
 unfold rI at h
 split at h<;>first|rfl|cases h
theorem uV:∀{zs:List C} {xs:List SB},fp rI zs=some xs->zs.all C.const=true
 |[],_,_=>rfl
 |z::zs,xs,h=>by
  simp only[fp]at h
  split at h
  ·rename_i y hy;obtain⟨ys,h1,rfl⟩:=ad.1 h;simp only[bT,D_ hy,uV h1,iL]
  ·cases h
theorem Ks(h:Rel ρ S s){zs:List C}(hs:oc hint S gs n d (.alloc zs)=some (bs,S'))(hb:jq ρ bs=some gx):∃s',kc cf mf s d (.alloc zs)=some s'/\Rel gx S' s':=by
 simp only[oc]at hs
 split at hs
 ·rename_i b xs hz;simp only[aa,ak]at hs;obtain⟨rfl,rfl⟩:=hs;cases hb;exact⟨_,by simp only[kc,uV hz,if_true],(h.jK b (tQ hz)).put _ pT.ptr⟩
 ·cases hs
theorem Su(h:Rel ρ S s)(hg:gN ρ gs=some true){x:KX}(hs:oc hint S gs n d (.box x)=some (bs,S'))(hb:jq ρ bs=some gx):∃s',kc cf mf s d (.box x)=some s'/\Rel gx S' s':=by
 simp only[oc]at hs
 split at hs
 ·rename_i b c hx
  split at hs
  ·rename_i xs hc
   split at hs
   ·rename_i ri;simp only[aa,ak]at hs;obtain⟨rfl,rfl⟩:=hs;cases hb;have hr:=(cj h hg hx).cells hc ri;exact⟨_,by simp only[kc,hr.cell ri,if_true],(h.jK b (hr.kill b)).put _ pT.ptr⟩
   ·cases hs
  ·cases hs
 ·cases hs
theorem yg{k:Nat}:∀{cs:List SC} {S S':SS} {es pl:List SE} {dp:Bool},oG k S cs=some (es,pl,dp,S')->es.length=k * cs.length
 |[],_,_,_,_,_,h=>by
  simp only[oG,aa,ak]at h;obtain⟨rfl,_⟩:=h;rfl
 |c::cs,_,_,_,_,_,hs=>by
  simp only[oG]at hs
  split at hs
  ·split at hs
   ·split at hs
    ·split at hs
     ·rename_i hk;obtain⟨⟨a1,a2,a3,a4⟩,h4,h5⟩:=ad.1 hs;simp only[ak]at h5;obtain⟨rfl,_⟩:=h5;rw[aL,hk,yg h4,az,Nat.mul_succ,Nat.add_comm]
     ·cases hs
    ·cases hs
   ·cases hs
  ·cases hs
theorem zN{k:Nat}{fl:Bool}:∀{cs:List C} {s s':St} {es:List (List D)} {dp:Bool},zM k fl s cs=some (es,dp,s')->fl=true->dp=true
 |[],_,_,_,_,h,_=>by simp only[zM,aa,ak]at h;exact h.2.1.symm
 |c::cs,_,_,_,_,h,hf=>by
  simp only[zM]at h
  split at h
  ·rename_i ds dp1 s1 he
   split at h
   ·rename_i hk;obtain⟨⟨a1,a2,a3⟩,h4,h5⟩:=ad.1 h;simp only[ak]at h5;obtain⟨rfl,rfl,rfl⟩:=h5;rw[zN h4 hf,CS he (hk.2 hf)];rfl
   ·cases h
  ·cases h
theorem Vl{r:Nat}{fl dp deep:Bool}{pl:List SE}{ps τ:List D}(ho:Vk hint r fl dp pl=(bs,deep))(hb:jq ρ bs=some gx)(hp:gR (ρ++τ) pl=some ps):deep=(fl ||(dp && cQ ps)):=by
 unfold Vk at ho
 split at ho
 ·rename_i hf;cases ho;simp[hf]
 ·rename_i hf;have hf:fl=false:=by simpa using hf
  subst hf
  split at ho
  ·rename_i hd;cases ho;simp[hd]
  ·rename_i hd;have hd:dp=true:=by simpa using hd
   subst hd
   split at ho
   ·cases ho;cases hp;rfl
   ·split at ho
    ·cases ho;obtain⟨xs,x,h1,h2,rfl⟩:=dG hb;rw[u7 τ h1]at hp;cases hp;simp only[aJ]at h2
     split at h2
     ·cases h2
     ·rename_i hn;simpa using hn
    ·cases ho;obtain⟨xs,x,h1,h2,rfl⟩:=dG hb;rw[u7 τ h1]at hp;cases hp;simp only[aJ]at h2
     split at h2
     ·rename_i hn;simpa using hn
     ·cases h2
theorem Kt(h:Rel ρ S s)(hg:gN ρ gs=some true)(hn:n=ρ.length){k:Nat}{fl:Bool}{xs:List KX}(hs:oc hint S gs n d (.na k fl xs)=some (bs,S'))(hb:jq ρ bs=some gx):∃s',kc cf mf s d (.na k fl xs)=some s'/\Rel gx S' s':=by
 simp only[oc]at hs
 split at hs
 ·rename_i r cs hx
  split at hs
  ·rename_i p hp;obtain⟨es,pl,dp,S1⟩:=p;simp only at hs
   split at hs
   ·rename_i hk;generalize ho:Vk hint r fl dp pl=q at hs;obtain⟨bs0,deep⟩:=q;simp only[aa,ak]at hs;obtain⟨rfl,rfl⟩:=hs;obtain⟨O5,yo,Af⟩:=sC hb;obtain⟨Gg,x,h1,h2,rfl⟩:=dG Af;obtain⟨τ,rfl⟩:=nS yo;have hl:=sE yo;have hr:=xw h hg hx;simp only[aJ]at h2
    split at h2
    ·split at h2
     ·rename_i I1 hc
      split at h2
      ·rename_i hf;cases h2;have hlen:Gg.length=k * cs.length:=by rw[ju h1,yg hp]
       rw[hlen,Nat.mul_div_cancel_left _ hk]at hc;obtain⟨ps,s',g1,g2,g3⟩:=P6 (fl:=fl) (h.mono τ) (hr.mono τ) hp h1 hc hf;have hd:=Vl ho yo g2;have Ws:(dp && cQ ps)=deep:=by
        cases fl with
        |true=>rw[zN g1 rfl,hd];rfl
        |false=>rw[hd,iM]
       rw[Ws]at g1;refine⟨_,by simp only[kc,g1];rw[if_pos hk],((g3.mono [_]).newRow r (nq (by rw[hn,hl]) rfl)).put _ pT.ref⟩
      ·cases h2
     ·cases h2
    ·cases h2
   ·cases hs
  ·cases hs
 ·cases hs
theorem So:∀{zs:List D} {ks:List SK},fp ZS zs=some ks->ks.map SK.d=zs
 |[],_,h=>by cases h;rfl
 |z::zs,ks,h=>by
  simp only[fp]at h
  split at h
  ·rename_i y hy;obtain⟨ys,h1,rfl⟩:=ad.1 h;rw[aQ,So h1];unfold ZS at hy
   split at hy<;>cases hy<;>rfl
  ·cases h
theorem Nr{k by_:Nat}{fl:Bool}{zs:List SK}{xs:List D}{x:D}(h:aJ (.make k by_ fl zs) xs=some x):∃m,xs=[.int .i64 m]/\(0<=m/\m.toNat * by_<=room/\m<=4611686018427387904)/\x=.list k fl (aE m.toNat (zs.map SK.d)):=by
 rcases xs with _|⟨a,_|⟨b,l⟩⟩
 ·simp[aJ]at h
 ·cases a with
  |int ik m=>
   cases ik<;>simp only[aJ]at h<;>try cases h
   split at h
   ·rename_i hc;cases h;exact⟨m,rfl,hc,rfl⟩
   ·cases h
  |_=>simp[aJ]at h
 ·simp[aJ]at h
theorem He{k by_:Nat}{xs:List D}{x:D}(h:aJ (.app k by_) xs=some x):∃fl es ja,xs=[.list k fl es,.list k fl ja]/\(es.length+ja.length) * by_<=room/\es.length+ja.length<=maxLen/\x=.list k fl (es++ja):=by
 rcases xs with _|⟨a,_|⟨b,_|⟨c,l⟩⟩⟩
 ·simp[aJ]at h
 ·cases a<;>simp[aJ]at h
 ·cases a<;>cases b<;>simp only[aJ]at h<;>try cases h
  split at h
  ·rename_i hc;obtain⟨rfl,rfl,rfl,h1,h2⟩:=hc;cases h;exact⟨_,_,_,rfl,h1,h2,rfl⟩
  ·cases h
 ·cases a<;>cases b<;>simp[aJ]at h
theorem Qt{o:Nat}{xs:List D}{x:D}(h:aJ (.set o) xs=some x):∃k fl es i ds e,xs=.list k fl es::.int .i64 i::ds/\nth es i.toNat=some e/\o+ds.length<=k/\(fl=true->cQ ds=true)/\x=.list k fl (es.set i.toNat (fR e o ds)):=by
 rcases xs with _|⟨a,_|⟨b,l⟩⟩
 ·simp[aJ]at h
 ·cases a<;>simp[aJ]at h
 ·cases a with
  |list k fl es=>
   cases b with
   |int ik i=>
    cases ik<;>simp only[aJ]at h<;>try cases h
    split at h
    ·rename_i e he
     split at h
     ·rename_i hc;cases h;exact⟨_,_,_,_,_,_,rfl,he,hc.1,hc.2,rfl⟩
     ·cases h
    ·cases h
   |_=>simp[aJ]at h
  |_=>simp[aJ]at h
theorem Qp{xs:List D}{x:D}(h:aJ .xL xs=some x):∃k es ja,xs=[.list k true es,.list k true ja]/\ja.length=es.length/\x=.list k true ja:=by
 rcases xs with _|⟨a,_|⟨b,_|⟨c,l⟩⟩⟩
 ·simp[aJ]at h
 ·cases a<;>simp[aJ]at h
 ·cases a<;>cases b<;>simp only[aJ]at h<;>try cases h
  split at h
  ·rename_i hc;obtain⟨rfl,rfl,rfl,h1⟩:=hc;cases h;exact⟨_,_,_,rfl,h1,rfl⟩
  ·cases h
 ·cases a<;>cases b<;>simp[aJ]at h
theorem Qr{xs:List D}{x:D}(h:aJ .Rk xs=some x):∃es sR ja bs cs,xs=[.list 1 true es,.list 1 sR ja]/\ja.length=es.length/\ja≠[]/\jt es=some bs/\jt ja=some cs/\x=.list 1 true ((cG bs cs).map λb=>[D.bool b]):=by
 rcases xs with _|⟨a,_|⟨b,_|⟨c,l⟩⟩⟩
 ·simp[aJ]at h
 ·cases a<;>simp[aJ]at h
 ·cases a<;>cases b<;>simp only[aJ]at h<;>try cases h
  split at h
  ·rename_i hc;obtain⟨rfl,rfl,rfl,h1,h2⟩:=hc
   split at h
   ·rename_i bs cs hb C5;cases h;exact⟨_,_,_,_,_,rfl,h1,h2,hb,C5,rfl⟩
   ·cases h
  ·cases h
 ·cases a<;>cases b<;>simp[aJ]at h
theorem Qq{xs:List D}{x:D}(h:aJ .Rj xs=some x):∃k fl es k' sR ja bs cs,xs=[.list k fl es,.list k' sR ja]/\jt es=some bs/\jt ja=some cs/\x=.bool (lb bs cs):=by
 rcases xs with _|⟨a,_|⟨b,_|⟨c,l⟩⟩⟩
 ·simp[aJ]at h
 ·cases a<;>simp[aJ]at h
 ·cases a<;>cases b<;>simp only[aJ]at h<;>try cases h
  split at h
  ·rename_i bs cs hb C5;cases h;exact⟨_,_,_,_,_,_,_,_,rfl,hb,C5,rfl⟩
  ·cases h
 ·cases a<;>cases b<;>simp[aJ]at h
theorem Qs{xs:List D}{x:D}(h:aJ .len xs=some x):∃k fl es,xs=[.list k fl es]/\x=.int .i64 es.length:=by
 rcases xs with _|⟨a,_|⟨b,l⟩⟩
 ·simp[aJ]at h
 ·cases a<;>simp only[aJ]at h<;>cases h
  exact⟨_,_,_,rfl,rfl⟩
 ·cases a<;>simp[aJ]at h
theorem OE(h:Rel ρ S s)(hg:gN ρ gs=some true)(hn:n=ρ.length){k by_:Nat}{fl:Bool}{zs:List D}{x:KX}(hs:oc hint S gs n d (.make k by_ fl zs x)=some (bs,S'))(hb:jq ρ bs=some gx):∃s',kc cf mf s d (.make k by_ fl zs x)=some s'/\Rel gx S' s':=by
 simp only[oc]at hs
 split at hs
 ·rename_i r e ks hx hz;simp only[aa,ak]at hs;obtain⟨rfl,rfl⟩:=hs;obtain⟨Gg,x',h1,h2,rfl⟩:=dG hb;obtain⟨a,h3,rfl⟩:=ee h1;obtain⟨a',h4,h5⟩:=j8 h hg hx;rw[h3]at h4;cases h4;obtain⟨m,hm,hc,rfl⟩:=Nr h2;cases hm;refine⟨_,by simp only[kc,h5];rw[if_pos hc],((h.mono [_]).newRow r (nq hn (by rw[So hz]))).put _ pT.ref⟩
 ·cases hs
theorem jQ.qa{x:SC}{c:C}{xs:List SB}(h:jQ ρ x c)(hx:x.cells=some xs)(hc:xs.all SB.cell=true):dv ρ xs c.cells/\c.cells.all C.cell=true:=⟨h.cells hx hc,(h.cells hx hc).cell hc⟩
theorem VQ(h:Rel ρ S s)(hg:gN ρ gs=some true)(hn:n=ρ.length){m:Nat}{x y:KX}(hs:oc hint S gs n d (.st m x y)=some (bs,S'))(hb:jq ρ bs=some gx):∃s',kc cf mf s d (.st m x y)=some s'/\Rel gx S' s':=by
 simp only[oc]at hs
 split at hs
 ·rename_i b o c hx hy
  split at hs
  ·rename_i xs ys hl hc
   split at hs
   ·rename_i hk;obtain⟨k1,k2,k3⟩:=hk;simp only[aa,ak]at hs;obtain⟨rfl,rfl⟩:=hs;cases hb;have hr:=cj h hg hx;simp only[jQ]at hr;obtain⟨cs,g1,g2⟩:=h.bx b xs hl;obtain⟨g3,g4⟩:=(cj h hg hy).qa hc k1;refine⟨_,by simp only[kc,hr,g1];rw[if_pos ⟨g4,by rw[g3.len,k2],by rw[g2.len];exact k3⟩],h.eO b (g2.ZX o g3)⟩
   ·cases hs
  ·cases hs
 ·rename_i r k i o c hx hy;obtain⟨iv,hi,hr⟩:=cj h hg hx
  split at hs
  ·rename_i ys hc
   split at hs
   ·rename_i p hp;obtain⟨es,pl,dp,S1⟩:=p;simp only at hs
    split at hs
    ·rename_i row hl
     split at hs
     ·rename_i hk;obtain⟨k1,k2,k3,k4,k5,k6,k7⟩:=hk;obtain⟨g3,g4⟩:=(cj h hg hy).qa hc k1;obtain⟨ds,ps,s1,q1,q2,q3,q4⟩:=Lm h g3 hp;obtain⟨z,w1,I1,w2,rfl⟩:=q4.rw r row hl;have key:∀{σ:List D} {xs:List D} {v:D},gR (ρ++σ) (row.e::i::es)=some xs->aJ (.set o) xs=some v->∃e,nth I1 iv.toNat=some e/\o+ds.length<=row.k/\(row.fl=true->cQ ds=true)/\v=.list row.k row.fl (I1.set iv.toNat (fR e o ds)):=by
       intro σ xs v h1 h2;obtain⟨a,MY,j1,j2,rfl⟩:=cS h1;obtain⟨b,zs',j3,j4,rfl⟩:=cS j2;rw[SE.mono σ w2]at j1;cases j1;rw[SE.mono σ hi]at j3;cases j3;rw[u7 σ q2]at j4;cases j4;obtain⟨k',sR,ja,i',ga,e,t1,t2,t3,t4,rfl⟩:=Qt h2;simp only[bw,D.list.injEq,D.int.injEq,true_and]at t1;obtain⟨⟨rfl,rfl,rfl⟩,rfl,rfl⟩:=t1;exact⟨e,t2,t3,t4,rfl⟩
      split at hs
      ·rename_i hf;simp only[aa,ak]at hs;obtain⟨rfl,rfl⟩:=hs;obtain⟨Gg,v,h1,h2,rfl⟩:=dG hb;obtain⟨e,t1,t2,t3,rfl⟩:=key (σ:=[]) (by simpa using h1) h2;refine⟨_,by
        simp only[kc,hr,q1,w1,t1];rw[if_pos ⟨k2,k3,k4,by rw[ju q2,k5],k6,t3,by
         cases sV:row.fl with
         |true=>rw[CS q1 (t3 sV)];rfl
         |false=>rw[sV,iM]at hf;rw[hf,jr]⟩],?_⟩
       exact (q4.mono [_]).setRow r (nq hn rfl)
      ·rename_i hf;simp only[aa,ak]at hs;obtain⟨rfl,rfl⟩:=hs;obtain⟨O5,yo,Af⟩:=sC (bs:=[_]) (cs:=[_]) hb;obtain⟨xs1,v1,f1,f2,rfl⟩:=dG yo;obtain⟨Gg,v,h1,h2,rfl⟩:=dG Af;obtain⟨e,t1,t2,t3,rfl⟩:=key h1 h2;rw[q3]at f1;cases f1;simp only[aJ]at f2
       split at f2
       ·rename_i hpl;refine⟨_,by
         simp only[kc,hr,q1,w1,t1];rw[if_pos ⟨k2,k3,k4,by rw[ju q2,k5],k6,t3,by
          rw[hpl,fo];cases dp with
          |true=>rfl
          |false=>
           simp only[Bool.not_eq_true,Bool.or_eq_false_iff]at hf;simp only[hf.1,hf.2,Bool.or_self,av]at k7⟩],?_⟩
        exact (q4.mono [_] |>.mono [_]).setRow r (nq (by rw[hn];simp) rfl)
       ·cases f2
     ·cases hs
    ·cases hs
   ·cases hs
  ·cases hs
 ·cases hs
theorem OF(h:Rel ρ S s){k:Nat}{fl:Bool}{c:SC}{v:C}{e:SE}{dp:Bool}{S1:SS}(hv:jQ ρ c v)(hs:Kv S k fl c=some (e,dp,S1)):∃x s1,e.d ρ=some x/\Rel ρ S1 s1/\∀es,x=.list k fl es->mK s k fl v=some (es,dp,s1):=by
 unfold Kv at hs
 split at hs
 ·cases hs;obtain⟨x,h1,rfl⟩:=hv;refine⟨x,s,h1,h,?_⟩
  rintro es rfl
  simp[mK]
 ·cases hs;simp only[jQ,iY]at hv;subst hv;refine⟨_,s,rfl,h,?_⟩;intro es he;cases he;simp[mK]
 ·split at hs
  ·rename_i row hl
   split at hs
   ·rename_i hk;obtain⟨rfl,rfl⟩:=hk;cases hs;simp only[jQ,iY]at hv;subst hv;obtain⟨z,w1,I1,w2,rfl⟩:=h.rw _ row hl;refine⟨_,_,w2,h.cM _,?_⟩;intro es he;cases he;simp[mK,w1]
   ·cases hs
  ·cases hs
 ·cases hs
theorem Ss(h:Rel ρ S s)(hg:gN ρ gs=some true)(hn:n=ρ.length){k by_:Nat}{fl:Bool}{x y:KX}(hs:oc hint S gs n d (.app k by_ fl x y)=some (bs,S'))(hb:jq ρ bs=some gx):∃s',kc cf mf s d (.app k by_ fl x y)=some s'/\Rel gx S' s':=by
 simp only[oc]at hs
 split at hs
 ·rename_i d0 c hy
  split at hs
  ·rename_i p hp;obtain⟨e,dp,S1⟩:=p;simp only at hs
   obtain⟨v,s1,j1,q2,j2⟩:=OF h (cj h hg hy) hp
   split at hs
   ·rename_i k' sR hx;have hr:=cj h hg hx;simp only[jQ,iY]at hr
    split at hs
    ·rename_i hk;obtain⟨rfl,rfl⟩:=hk;simp only[aa,ak]at hs;obtain⟨rfl,rfl⟩:=hs;obtain⟨Gg,v',h1,h2,rfl⟩:=dG hb;obtain⟨a,MY,f1,f2,rfl⟩:=cS h1;obtain⟨b,f3,rfl⟩:=ee f2;rw[j1]at f3;cases f3;simp only[SE.d,SK.d,aa]at f1;subst f1;obtain⟨fl,es,ja,t1,t2,t3,rfl⟩:=He h2;simp only[bw,D.list.injEq,true_and,and_true]at t1;obtain⟨⟨rfl,rfl⟩,rfl⟩:=t1;have q1:=j2 ja rfl;simp only[aK,bm]at t2 t3;refine⟨_,by simp only[kc,q1,hr];rw[if_pos ⟨trivial,trivial,t2,t3⟩],?_⟩;exact ((q2.mono [_]).newRow d0 (nq hn (by simp))).put _ pT.ref
    ·cases hs
   ·rename_i r hx;have hr:=cj h hg hx;simp only[jQ,iY]at hr
    split at hs
    ·rename_i row hl
     split at hs
     ·rename_i hk;obtain⟨rfl,rfl,k3⟩:=hk;simp only[aa,ak]at hs;obtain⟨rfl,rfl⟩:=hs;obtain⟨Gg,v',h1,h2,rfl⟩:=dG hb;obtain⟨a,MY,f1,f2,rfl⟩:=cS h1;obtain⟨b,f3,rfl⟩:=ee f2;rw[j1]at f3;cases f3;obtain⟨fl,es,ja,t1,t2,t3,rfl⟩:=He h2;simp only[bw,and_true]at t1;obtain⟨rfl,rfl⟩:=t1;obtain⟨z,w1,I1,w2,rfl⟩:=q2.rw r row hl;rw[f1]at w2;cases w2;have q1:=j2 ja rfl;refine⟨_,by simp only[kc,q1,hr,w1];rw[if_pos ⟨trivial,trivial,k3,t2,t3⟩],?_⟩;exact ((q2.mono [_]).newRow r (nq hn rfl)).put _ pT.ref
     ·cases hs
    ·cases hs
   ·cases hs
  ·cases hs
 ·cases hs
theorem Lf(h:Rel ρ S s)(hg:gN ρ gs=some true){e:SE}{lo hi:Option KX}{b:PO×List SE}(hs:T8 S gs e lo hi=some b){k:Nat}{fl:Bool}{es:List (List D)}(he:e.d ρ=some (.list k fl es))(hb:jq ρ [b]=some gx):∃x y,pM s lo 0=some x/\pM s hi es.length=some y/\x<=y/\y<=es.length/\gx=ρ++[.list k fl ((es.take y).drop x)]:=by
 unfold T8 at hs
 split at hs
 ·split at hs
  ·rename_i l hl;cases hs;obtain⟨Gg,v,h1,h2,rfl⟩:=dG hb;obtain⟨a,MY,f1,f2,rfl⟩:=cS h1;obtain⟨b,f3,rfl⟩:=ee f2;rw[he]at f1;cases f1;simp only[aJ]at h2
   split at h2
   ·rename_i x hx
    split at h2
    ·rename_i hle;cases h2;refine⟨x,es.length,FV h hg hl f3 hx 0 (λ_=>rfl),rfl,hle,aj _,by rw[aU]⟩
    ·cases h2
   ·cases h2
  ·cases hs
 ·rename_i hh
  split at hs
  ·rename_i l y hl hy;cases hs;obtain⟨Gg,v,h1,h2,rfl⟩:=dG hb;obtain⟨a,MY,f1,f2,rfl⟩:=cS h1;obtain⟨b,zs',f3,f4,rfl⟩:=cS f2;obtain⟨c,f5,rfl⟩:=ee f4;rw[he]at f1;cases f1;simp only[aJ]at h2
   split at h2
   ·rename_i x y' hx NM
    split at h2
    ·rename_i hle;cases h2;refine⟨x,y',FV h hg hl f3 hx 0 (λ_=>rfl),FV (lo:=some hh) h hg hy f5 NM _ (λh=>by cases h),hle.1,hle.2,rfl⟩
    ·cases h2
   ·cases h2
  ·cases hs
theorem Sw(h:Rel ρ S s)(hg:gN ρ gs=some true)(hn:n=ρ.length){k:Nat}{x:KX}{lo hi:Option KX}(hs:oc hint S gs n d (.cut k x lo hi)=some (bs,S'))(hb:jq ρ bs=some gx):∃s',kc cf mf s d (.cut k x lo hi)=some s'/\Rel gx S' s':=by
 simp only[oc]at hs
 split at hs
 ·rename_i d0 k' fl hx;have hr:=cj h hg hx;simp only[jQ,iY]at hr
  split at hs
  ·rename_i b hc
   split at hs
   ·rename_i hk;subst hk;simp only[aa,ak]at hs;obtain⟨rfl,rfl⟩:=hs;obtain⟨a,b',q1,q2,q3,q4,rfl⟩:=Lf (es:=[]) h hg hc rfl hb;simp only[aK,Nat.le_zero]at q4 q2;subst q4;simp only[Nat.le_zero]at q3;subst q3;refine⟨_,by simp only[kc,hr,q1,q2];rw[if_pos ⟨trivial,trivial,trivial⟩],(h.mono _).put _ (pT.nil (by simp only[jQ,iY]))⟩
   ·cases hs
  ·cases hs
 ·rename_i d0 r hx;have hr:=cj h hg hx;simp only[jQ,iY]at hr
  split at hs
  ·rename_i row hl;obtain⟨z,w1,I1,w2,rfl⟩:=h.rw r row hl
   split at hs
   ·rename_i b hc
    split at hs
    ·rename_i hk;simp only[aa,ak]at hs;obtain⟨rfl,rfl⟩:=hs;obtain⟨a,b',q1,q2,q3,q4,rfl⟩:=Lf h hg hc w2 hb;refine⟨_,by simp only[kc,hr,w1,q1,q2];rw[if_pos ⟨hk.1,q3,q4,hk.2⟩],?_⟩;exact ((h.mono [_]).newRow r (nq hn rfl)).put _ pT.ref
    ·cases hs
   ·cases hs
  ·cases hs
 ·cases hs
theorem Sv(h:Rel ρ S s)(hg:gN ρ gs=some true)(hn:n=ρ.length){k:Nat}{x y:KX}(hs:oc hint S gs n d (.xL k x y)=some (bs,S'))(hb:jq ρ bs=some gx):∃s',kc cf mf s d (.xL k x y)=some s'/\Rel gx S' s':=by
 simp only[oc]at hs
 split at hs
 ·rename_i d0 r e hx hy;have hr:=cj h hg hx;simp only[jQ,iY]at hr;obtain⟨v,j1,j2⟩:=j8 h hg hy
  split at hs
  ·rename_i row hl;obtain⟨z,w1,I1,w2,rfl⟩:=h.rw r row hl
   split at hs
   ·rename_i hk;obtain⟨k1,k2,k3,k4⟩:=hk;simp only[aa,ak]at hs;obtain⟨rfl,rfl⟩:=hs;obtain⟨O5,yo,Af⟩:=sC (bs:=[_]) (cs:=[_]) hb;obtain⟨xs1,v1,f1,f2,rfl⟩:=dG yo;obtain⟨Gg,v',h1,h2,rfl⟩:=dG Af;obtain⟨a,MY,t1,t2,rfl⟩:=cS f1;obtain⟨b,t3,rfl⟩:=ee t2;rw[w2]at t1;cases t1;rw[j1]at t3;cases t3;obtain⟨k',es,ja,i1,i2,rfl⟩:=Qp f2;simp only[bw,D.list.injEq,and_true]at i1;obtain⟨⟨i3,i4,rfl⟩,rfl⟩:=i1;obtain⟨c,c1,rfl⟩:=ee h1;obtain⟨k2',fl2,es2,m1,rfl⟩:=Qs h2;simp only[SE.d,hn,iF,aa]at c1;subst c1;simp only[bw,D.list.injEq,and_true]at m1;obtain⟨rfl,rfl,rfl⟩:=m1;refine⟨_,by simp only[kc,hr,j2,w1];rw[if_pos ⟨k1,by rw[<- i3,k1],trivial,k2,k3,k4,i2⟩],?_⟩;refine Rel.put ?_ _ (pT.new (by rw[hn];simp));exact ((h.mono [_]).setRow r (nq hn (by rw[i3,i4]))).mono [_]
   ·cases hs
  ·cases hs
 ·cases hs
theorem VP(h:Rel ρ S s)(hg:gN ρ gs=some true)(hn:n=ρ.length){x y:KX}(hs:oc hint S gs n d (.jn x y)=some (bs,S'))(hb:jq ρ bs=some gx):∃s',kc cf mf s d (.jn x y)=some s'/\Rel gx S' s':=by
 simp only[oc]at hs
 split at hs
 ·rename_i d0 r c hx hy;have hr:=cj h hg hx;simp only[jQ,iY]at hr;have hry:=cj h hg hy
  split at hs
  ·rename_i row hl;obtain⟨z,w1,I1,w2,rfl⟩:=h.rw r row hl
   split at hs
   ·rename_i hk;obtain⟨k1,k2,k3,k4⟩:=hk;have key:∀{e:SE} {v:D},e.d ρ=some v->(∀sR ja,v=.list 1 sR ja->C_ s r (eW s y)=some ja)->jq ρ [(.Rk,[row.e,e]),(.Rj,[row.e,e])]=some gx->S'=(S.setRow r ⟨.v n,row.k,row.fl,row.deep,row.app,row.fz⟩).put (some d0) ⟨[],vN (n+1)⟩->∃s',kc cf mf s (some d0) (.jn x y)=some s'/\Rel gx S' s':=by
     rintro e v j1 Q_ hb rfl
     obtain⟨O5,yo,Af⟩:=sC (bs:=[_]) (cs:=[_]) hb;obtain⟨xs1,v1,f1,f2,rfl⟩:=dG yo;obtain⟨Gg,v',h1,h2,rfl⟩:=dG Af;obtain⟨a,MY,t1,t2,rfl⟩:=cS f1;obtain⟨b,t3,rfl⟩:=ee t2;rw[w2]at t1;cases t1;rw[j1]at t3;cases t3;obtain⟨es,sR,ja,bs,cs,i1,i2,i3,i4,i5,rfl⟩:=Qr f2;simp only[bw,D.list.injEq,and_true]at i1;obtain⟨⟨_,_,rfl⟩,rfl⟩:=i1;obtain⟨a,MY,t1,t2,rfl⟩:=cS h1;obtain⟨b,t3,rfl⟩:=ee t2;rw[SE.mono _ w2]at t1;cases t1;rw[SE.mono _ j1]at t3;cases t3;obtain⟨_,_,es2,_,_,aiB,bs',iC,m1,m2,m3,rfl⟩:=Qq h2;simp only[bw,D.list.injEq,and_true]at m1;obtain⟨⟨_,_,rfl⟩,⟨_,_,rfl⟩⟩:=m1;rw[i4]at m2;cases m2;rw[i5]at m3;cases m3;refine⟨_,by simp only[kc,hr,Q_ sR ja rfl,w1];rw[if_pos ⟨k1,k2,k3,k4,i2⟩];simp only[i4,i5];rw[if_pos i3],?_⟩;refine Rel.put ?_ _ (pT.new (by rw[hn];simp));exact ((h.mono [_]).setRow r (nq hn (by rw[k1,k2]))).mono [_]
    split at hs
    ·rename_i e;simp only[aa,ak]at hs;obtain⟨rfl,hS⟩:=hs;obtain⟨v,j1,j2⟩:=hry;exact key j1 (λsR ja he=>by rw[j2,he];rfl) hb hS.symm
    ·rename_i q
     split at hs
     ·rename_i Iw pE
      split at hs
      ·rename_i hq;simp only[aa,ak]at hs;obtain⟨rfl,hS⟩:=hs;simp only[jQ,iY]at hry;obtain⟨z',w1',ags,w2',rfl⟩:=h.rw q Iw pE;refine key w2' (λsR ja he=>?_) hb hS.symm
       injection he with e1 e2 e3
       subst e3;simp only[hry,C_,w1'];rw[if_pos hq]
      ·cases hs
     ·cases hs
    ·cases hs
   ·cases hs
  ·cases hs
 ·cases hs
theorem iY.fY(q i:Nat):∀{x:SB} {c:C},iY ρ x c->iY ρ (x.fY q i) (c.fY q i)
 | .d e,_,⟨x,h1,h2⟩=>by subst h2;exact⟨x,h1,rfl⟩
 | .nil _ _,_,h=>by simp only[iY]at h;subst h;rfl
 | .ref r,_,h=>by
  simp only[iY]at h;subst h;simp only[SB.fY,C.fY];split
  ·rfl
  ·split
   ·trivial
   ·rfl
 | .any,_,_=>trivial
theorem dv.fY(q i:Nat):∀{xs:List SB} {cs:List C},dv ρ xs cs->dv ρ (xs.map (SB.fY q i)) (C.xl q i cs)
 |[],_,h=>by simp only[dv]at h;subst h;rfl
 |_::_,_,⟨c,iC,h1,h2,h3⟩=>by subst h1;exact⟨_,_,rfl,h2.fY q i,dv.fY q i h3⟩
theorem ru.fY(q i:Nat):∀{xs:List (SB ⊕ List SB)} {cs:List C},ru ρ xs cs->ru ρ (xs.map λ| .inl x=>.inl (x.fY q i) | .inr l=>.inr (l.map (SB.fY q i))) (C.xl q i cs)
 |[],_,h=>by simp only[ru]at h;subst h;rfl
 | .inl _::_,_,⟨c,iC,h1,h2,h3⟩=>by subst h1;exact⟨_,_,rfl,h2.fY q i,ru.fY q i h3⟩
 | .inr _::_,_,⟨ds,iC,h1,h2,h3⟩=>by subst h1;exact⟨_,_,rfl,h2.fY q i,ru.fY q i h3⟩
theorem jQ.fY(q i:Nat):∀{x:SC} {c:C},jQ ρ x c->jQ ρ (x.fY q i) (c.fY q i)
 | .b _,_,h=>iY.fY q i h
 | .agg _,_,⟨cs,h1,h2⟩=>by subst h1;exact⟨_,rfl,h2.fY q i⟩
 | .oH _,_,⟨cs,h1,h2⟩=>by subst h1;exact⟨_,rfl,h2.fY q i⟩
 | .ptr b o,_,h=>by simp only[jQ]at h;subst h;rfl
 | .mY r k a o,_,⟨n,h1,h2⟩=>by
  subst h2;simp only[SC.fY,C.fY];split
  ·exact⟨n,h1,rfl⟩
  ·split
   ·trivial
   ·exact⟨n,h1,rfl⟩
 | .qJ _ _,_,⟨x,cs,h1,h2,h3⟩=>by subst h3;exact⟨x,cs,h1,h2,rfl⟩
 | .any,_,_=>trivial
theorem Rel.fY(h:Rel ρ S s)(q i:Nat){row:SR}{y:Row}(hy:TE ρ row y):Rel ρ (S.fY q i row) (s.fY q i y) where
 sl d g hl:=by
  simp only[SS.fY]at hl;rw[nD (λg:SG=>(⟨g.gs,g.c.fY q i⟩:SG)),ad]at hl;obtain⟨g',h1,rfl⟩:=hl;obtain⟨b,h2,h3,h4⟩:=h.sl d g' h1;have:(s.fY q i y).get d=(s.get d).fY q i:=by
   simp only[St.get,St.fY,Se];rw[nD (C.fY q i)];cases look s.sl d<;>rfl
  rw[this];exact⟨b,h2,λhb=>(h3 hb).fY q i,λhb=>by rw[h4 hb];rfl⟩
 bx b xs hl:=by
  simp only[SS.fY]at hl;rw[nD (λxs:List SB=>xs.map (SB.fY q i)),ad]at hl;obtain⟨Gg,h1,rfl⟩:=hl;obtain⟨cs,h2,h3⟩:=h.bx b Gg h1;refine⟨C.xl q i cs,?_,h3.fY q i⟩;simp only[St.fY,Sd];rw[nD (C.xl q i),h2];rfl
 rw r x hl:=by
  simp only[SS.fY,look,dN]at hl;simp only[St.fY,look,dN]
  split at hl
  ·rename_i he;cases hl;exact⟨y,by rw[if_pos he],hy⟩
  ·rename_i he;rw[if_neg he]
   split at hl
   ·cases hl
   ·rename_i h1;rw[if_neg he,if_neg h1];exact h.rw r x hl
theorem Sx(h:Rel ρ S s)(hg:gN ρ gs=some true){x:KX}(hs:oc hint S gs n d (.Mq x)=some (bs,S'))(hb:jq ρ bs=some gx):∃s',kc cf mf s d (.Mq x)=some s'/\Rel gx S' s':=by
 simp only[oc]at hs
 split at hs
 ·rename_i d0 q hx;have hr:=cj h hg hx;simp only[jQ,iY]at hr
  split at hs
  ·rename_i row hl;simp only[aa,ak]at hs;obtain⟨rfl,rfl⟩:=hs;cases hb;obtain⟨y,w1,w2⟩:=h.rw q row hl;exact⟨_,by simp only[kc,hr,w1],(h.fY q (tB d0 0) w2).put _ pT.ref⟩
  ·cases hs
 ·rename_i d0 k fl hx;have hr:=cj h hg hx;simp only[jQ,iY]at hr;simp only[aa,ak]at hs;obtain⟨rfl,rfl⟩:=hs;cases hb;exact⟨s.put (some d0) (.nil k fl),by simp only[kc,hr],h.put _ (pT.nil (by simp only[jQ,iY]))⟩
 ·rename_i d0 e hx;obtain⟨v,j1,j2⟩:=cj h hg hx;simp only[aa,ak]at hs;obtain⟨rfl,rfl⟩:=hs;cases hb;exact⟨_,by simp only[kc,j2],h.put _ (pT.nil ⟨v,j1,rfl⟩)⟩
 ·cases hs
theorem Ku(h:Rel ρ S s)(hg:gN ρ gs=some true)(hn:n=ρ.length){o:KO}(hs:oc hint S gs n d o=some (bs,S'))(hb:jq ρ bs=some gx):o.ji=false/\∃s',kc cf mf s d o=some s'/\Rel gx S' s':=by
 cases o with
 |alloc zs=>exact⟨rfl,Ks h hs hb⟩
 |box x=>exact⟨rfl,Su h hg hs hb⟩
 |na k fl xs=>exact⟨rfl,Kt h hg hn hs hb⟩
 |make k b fl zs x=>exact⟨rfl,OE h hg hn hs hb⟩
 |st m x y=>exact⟨rfl,VQ h hg hn hs hb⟩
 |app k b fl x y=>exact⟨rfl,Ss h hg hn hs hb⟩
 |cut k x lo hi=>exact⟨rfl,Sw h hg hn hs hb⟩
 |xL k x y=>exact⟨rfl,Sv h hg hn hs hb⟩
 |jn x y=>exact⟨rfl,VP h hg hn hs hb⟩
 |Mq x=>exact⟨rfl,Sx h hg hs hb⟩
 |_=>cases hs
end
end
section
section
variable {T:Nat->Option KF} {cf:Cf} {mf:Mf}
noncomputable def cnd(T:Nat->Option KF)(mf:Mf)(c:C)(a b:K)(s:St):Option (Ex×St):=WJ c (ev T mf a s) (ev T mf b s)
theorem XF(c:KX)(a b:K)(s:St):ev T mf (.cond c a b) s=cnd T mf (eW s c) a b s:=El T mf c a b s
theorem aaN(a b:K)(s:St):cnd T mf (.d (.bool true)) a b s=ev T mf a s:=rfl
theorem aaM(a b:K)(s:St):cnd T mf (.d (.bool false)) a b s=ev T mf b s:=rfl
end
attribute [go_sem 2000] XF
attribute [go_sem] aaN aaM Nat.max_def ite_self
theorem aP{α:Type}{l:List α}{i:Nat}{x:α}(h:nth l i=some x):i < l.length:=by rw[cU]at h;exact (aI.1 h).1
inductive Sg (σ ρ:Type) where
 |go (s:σ)
 |out (r:ρ)
def il{α σ ρ:Type}(step:Nat->σ->α->Sg σ ρ):Nat->σ->List α->Sg σ ρ
 |_,s,[]=>.go s
 |i,s,e::es=>match step i s e with
  | .go s'=>il step (i+1) s' es
  | .out r=>.out r
def sgR{σ ρ:Type}(st:σ->St)(rs:ρ->Ex×St):Sg σ ρ->Option (Ex×St)
 | .go s=>some (.norm,st s)
 | .out r=>some (rs r)
def sgE{σ ρ:Type}(b:Nat)(fin:σ->St)(rs:ρ->Ex×St):Sg σ ρ->Option (Ex×St)
 | .go s=>some (.exit b,fin s)
 | .out r=>some (rs r)
theorem VX{g:St->Option (Ex×St)}{r:Ex×St}(h:r.1≠.norm):Cs g (some r)=some r:=by
 obtain⟨e,s⟩:=r;cases e with
 |norm=>exact absurd rfl h
 |exit i=>rfl
 |ret=>rfl
theorem Ol{T:Nat->Option KF}{mf:Mf}{body:K}{α σ ρ:Type}{es:List α}{b:Nat}(step:Nat->σ->α->Sg σ ρ)(I:Nat->σ->Prop)(st:Nat->σ->St)(fin:σ->St)(rs:ρ->Ex×St)
  (qW:∀r,(rs r).1≠.norm)
  (nB:∀i e s,nth es i=some e->I i s->ev T mf body (st i s)=sgR (st (i+1)) rs (step i s e)/\∀s',step i s e=.go s'->I (i+1) s')
  (fE:∀s,I es.length s->ev T mf body (st es.length s)=some (.exit b,fin s)) :
  ∀m i s,i+m=es.length->I i s->ev T mf (.loop body) (st i s)=sgE b fin rs (il step i s (es.drop i))
 |0,i,s,h,hI=>by
  obtain rfl:i=es.length:=by omega
  rw[fI,fE s hI,cu];rfl
 |m+1,i,s,h,hI=>by
  have a1:=dr (l:=es) (i:=i) (by omega);obtain⟨h1,h2⟩:=nB i _ s a1 hI;rw[gX es i _ a1,fI,h1];simp only[il];cases hs:step i s es[i]with
  |go s'=>
   simp only[sgR,Cs];exact Ol step I st fin rs qW nB fE m (i+1) s' (by omega) (h2 s' hs)
  |out r=>
   simp only[sgR,sgE];exact VX (qW r)
def allI{α:Type}(p:Nat->α->Bool):Nat->List α->Bool
 |_,[]=>true
 |i,e::es=>p i e && allI p (i+1) es
theorem rz{α:Type}(p:α->Bool):∀(i:Nat) (es:List α),allI (λ_=>p) i es=es.all p
 |_,[]=>rfl
 |i,e::es=>by simp[allI,rz p (i+1) es]
theorem HY{T:Nat->Option KF}{mf:Mf}{body:K}{α:Type}{es:List α}{b:Nat}(p:Nat->α->Bool)(st:Nat->St)(fin r:St)
  (nB:∀i e,nth es i=some e->ev T mf body (st i)=if p i e=true then some (.norm,st (i+1)) else some (.ret,r))
  (fE:ev T mf body (st es.length)=some (.exit b,fin)) :
  ∀m i,i+m=es.length->ev T mf (.loop body) (st i)=if allI p i (es.drop i)=true then some (.exit b,fin) else some (.ret,r)
 |0,i,h=>by
  obtain rfl:i=es.length:=by omega
  rw[fI,fE,cu];rfl
 |m+1,i,h=>by
  have a1:=dr (l:=es) (i:=i) (by omega);have e1:allI p i (es.drop i)=(p i (es[i]'(by omega)) && allI p (i+1) (es.drop (i+1))):=by rw[gX es i _ a1];rfl
  rw[fI,nB i _ a1,e1];by_cases hp:p i (es[i]'(by omega))=true
  ·rw[if_pos hp,hp,cB];exact HY p st fin r nB fE m (i+1) (by omega)
  ·rw[if_neg hp,cT.2 hp,er,if_neg ck];rfl
theorem aaq{T:Nat->Option KF}{mf:Mf}{body:K}{α:Type}{es:List α}{b:Nat}(p:α->Bool)(st:Nat->St)(fin r:St)
  (nB:∀i e,nth es i=some e->ev T mf body (st i)=if p e=true then some (.norm,st (i+1)) else some (.ret,r))
  (fE:ev T mf body (st es.length)=some (.exit b,fin)):ev T mf (.loop body) (st 0)=if es.all p=true then some (.exit b,fin) else some (.ret,r):=by
 have h:=HY (λ_=>p) st fin r nB fE es.length 0 (by omega);rw[aV,rz]at h;exact h
def sS{α:Type}(p:α->Bool):List α->Nat->Option Nat
 |[],_=>none
 |e::es,k=>if p e then some k else sS p es (k+1)
def aiC(b:Nat)(fin:St)(r:Nat->St):Option Nat->Option (Ex×St)
 |none=>some (.exit b,fin)
 |some i=>some (.ret,r i)
theorem vr{α β:Type}{f:α->β}{es:List α}{i:Nat}{e:α}(h:nth es i=some e):(es.take (i+1)).map f=(es.take i).map f++[f e]:=by
 rw[cn es i e h];simp
theorem Ly{α:Type}{p:α->Bool}:∀{es:List α} {k j:Nat},sS p es k=some j->∃e,k<=j/\nth es (j - k)=some e/\p e=true
 |[],k,j,h=>by simp[sS]at h
 |e::es,k,j,h=>by
  simp only[sS]at h
  split at h
  ·rename_i hp;obtain rfl:=eM h;exact⟨e,aj _,by simp[nth],hp⟩
  ·obtain⟨x,h1,h2,h3⟩:=Ly h;refine⟨x,by omega,?_,h3⟩;rw[show j - k=(j - (k+1))+1 by omega];exact h2
theorem ef{α:Type}{p:α->Bool}{es:List α}{j:Nat}(h:sS p es 0=some j):∃e,nth es j=some e/\p e=true:=by
 obtain⟨e,_,h2,h3⟩:=Ly h;exact⟨e,by simpa using h2,h3⟩
def n9:Option Nat->Int
 |none=>-1
 |some j=>(j:Int)
inductive vX {σ ρ:Type} (b:σ->Option (Sg σ ρ)):σ->ρ->Prop
 |out {s:σ} {r:ρ} (h:b s=some (.out r)):vX b s r
 |go {s s':σ} {r:ρ} (h:b s=some (.go s')) (h':vX b s' r):vX b s r
open Classical in
noncomputable def bR{σ ρ:Type}(b:σ->Option (Sg σ ρ))(s:σ):Option ρ:=if h:∃r,vX b s r then some h.choose else none
theorem JH{σ ρ:Type}{b:σ->Option (Sg σ ρ)}{s:σ}{r:ρ}(h:bR b s=some r):vX b s r:=by
 unfold bR at h
 split at h
 ·rename_i hx;rw[<- eM h];exact hx.choose_spec
 ·cases h
theorem vX.uH{σ ρ:Type}{b:σ->Option (Sg σ ρ)}{s:σ}{r r':ρ}(h:vX b s r)(h':vX b s r'):r=r':=by
 induction h with
 |out h=>
  cases h' with
  |out g=>rw[h]at g;cases g;rfl
  |go g _=>rw[h]at g;cases g
 |go h _ ih=>
  cases h' with
  |out g=>rw[h]at g;cases g
  |go g g'=>rw[h]at g;cases g;exact ih g'
theorem uz{σ ρ:Type}{b:σ->Option (Sg σ ρ)}{s:σ}{r:ρ}(h:vX b s r):bR b s=some r:=by
 unfold bR;have hx:∃r,vX b s r:=⟨r,h⟩
 rw[dif_pos hx,hx.choose_spec.uH h]
theorem bk{σ ρ:Type}{b:σ->Option (Sg σ ρ)}{s:σ}{r:ρ}(h:b s=some (.out r)):bR b s=some r:=uz (.out h)
theorem cF{σ ρ:Type}{b:σ->Option (Sg σ ρ)}{s s':σ}(h:b s=some (.go s')):bR b s=bR b s':=by
 by_cases hx:∃r,vX b s' r
 ·obtain⟨r,hr⟩:=hx;rw[uz hr,uz (.go h hr)]
 ·have hy:¬∃r,vX b s r:=λ⟨r,hr⟩=>by
   cases hr with
   |out g=>rw[h]at g;cases g
   |go g g'=>rw[h]at g;cases g;exact hx ⟨r,g'⟩
  unfold bR;rw[dif_neg hx,dif_neg hy]
theorem aH{α β:Type}(f:α->β):∀(l:List α) (i:Nat),nth (l.map f) i=(nth l i).map f
 |[],_=>rfl
 |_::_,0=>rfl
 |_::l,i+1=>aH f l i
theorem wrap_i64{a:Int}(h:-9223372036854775808<=a/\a<=9223372036854775807):IntKind.i64.wrap a=a:=bJ (by omega)
theorem wrap_u8{a:Int}(h:0<=a/\a<=255):IntKind.u8.wrap a=a:=by
 simp[IntKind.wrap,IntKind.bits,IntKind.signed];omega
theorem ZK{α:Type}{b:Nat}{u t:List α}(hb:b<=65536)(h:u.length+t.length<=2147483648):((u.length+t.length) * b<=room/\u.length+t.length<=maxLen)=True:=by
 refine eq_true ⟨aA (Nat.mul_le_mul h hb) (by decide),aA h (by decide)⟩
def I9{τ σ ρ:Type}(mk:τ->σ):Sg τ ρ->Sg σ ρ
 | .go t=>.go (mk t)
 | .out r=>.out r
def W7{τ ρ:Type}(fin:τ->ρ):Sg τ ρ->ρ
 | .go t=>fin t
 | .out r=>r
theorem LD{α τ σ ρ:Type}{b:σ->Option (Sg σ ρ)}{es:List α}(mk:Nat->τ->σ)(step:Nat->τ->α->Sg τ ρ)(fin:τ->ρ)(I:Nat->τ->Prop)
  (nB:∀i e t,nth es i=some e->I i t->b (mk i t)=some (I9 (mk (i+1)) (step i t e))/\∀t',step i t e=.go t'->I (i+1) t')
  (fE:∀t,I es.length t->b (mk es.length t)=some (.out (fin t))) :
  ∀m i t,i+m=es.length->I i t->bR b (mk i t)=some (W7 fin (il step i t (es.drop i)))
 |0,i,t,h,hI=>by
  obtain rfl:i=es.length:=by omega
  rw[bk (fE t hI),cu];rfl
 |m+1,i,t,h,hI=>by
  have a1:=dr (l:=es) (i:=i) (by omega);obtain⟨h1,h2⟩:=nB i _ t a1 hI;rw[gX es i _ a1];simp only[il];cases hs:step i t es[i]with
  |go t'=>
   rw[hs]at h1;rw[cF h1];exact LD mk step fin I nB fE m (i+1) t' (by omega) (h2 t' hs)
  |out r=>
   rw[hs]at h1;rw[bk h1];rfl
theorem ve{α τ σ ρ:Type}{b:σ->Option (Sg σ ρ)}(es:List α)(mk:Nat->τ->σ)(step:Nat->τ->α->Sg τ ρ)(fin:τ->ρ)(I:Nat->τ->Prop)(t:τ)(h0:I 0 t)
  (nB:∀i e t,nth es i=some e->I i t->b (mk i t)=some (I9 (mk (i+1)) (step i t e))/\∀t',step i t e=.go t'->I (i+1) t')
  (fE:∀t,I es.length t->b (mk es.length t)=some (.out (fin t))):bR b (mk 0 t)=some (W7 fin (il step 0 t es)):=by
 have h:=LD mk step fin I nB fE es.length 0 t (by omega) h0
 rwa [aV]at h
theorem l7{α σ ρ:Type}{b:σ->Option (Sg σ ρ)}(es:List α)(mk:Nat->σ)(p:Nat->α->Bool)(yes no:ρ)
  (nB:∀i e,nth es i=some e->b (mk i)=some (if p i e=true then .go (mk (i+1)) else .out no))
  (fE:b (mk es.length)=some (.out yes)):∀m i,i+m=es.length->bR b (mk i)=some (if allI p i (es.drop i)=true then yes else no)
 |0,i,h=>by
  obtain rfl:i=es.length:=by omega
  rw[bk fE,cu];rfl
 |m+1,i,h=>by
  have a1:=dr (l:=es) (i:=i) (by omega);have h1:=nB i _ a1;have e1:allI p i (es.drop i)=(p i (es[i]'(by omega)) && allI p (i+1) (es.drop (i+1))):=by rw[gX es i _ a1];rfl
  rw[e1];by_cases hp:p i (es[i]'(by omega))=true
  ·rw[if_pos hp]at h1;rw[cF h1,hp,cB];exact l7 es mk p yes no nB fE m (i+1) (by omega)
  ·rw[if_neg hp]at h1;rw[bk h1,cT.2 hp,er,if_neg ck]
theorem gT{α σ ρ:Type}{b:σ->Option (Sg σ ρ)}(es:List α)(mk:Nat->σ)(p:α->Bool)(yes no:ρ)
  (nB:∀i e,nth es i=some e->b (mk i)=some (if p e=true then .go (mk (i+1)) else .out no))
  (fE:b (mk es.length)=some (.out yes)):bR b (mk 0)=some (if es.all p=true then yes else no):=by
 have h:=l7 es mk (λ_=>p) yes no nB fE es.length 0 (by omega)
 rwa [aV,rz]at h
theorem LC{α σ ρ:Type}{b:σ->Option (Sg σ ρ)}(es:List α)(mk:Nat->σ)(p:α->Bool)(none_:ρ)(NA:Nat->α->ρ)
  (nB:∀i e,nth es i=some e->b (mk i)=some (if p e=true then .out (NA i e) else .go (mk (i+1))))
  (fE:b (mk es.length)=some (.out none_)):∀m i,i+m=es.length->bR b (mk i)=some (match sS p (es.drop i) i with|none=>none_|some j=>match nth es j with|some e=>NA j e|none=>none_)
 |0,i,h=>by
  obtain rfl:i=es.length:=by omega
  rw[bk fE,cu];rfl
 |m+1,i,h=>by
  have a1:=dr (l:=es) (i:=i) (by omega);have h1:=nB i _ a1;rw[gX es i _ a1];simp only[sS];by_cases hp:p (es[i]'(by omega))=true
  ·rw[if_pos hp]at h1;rw[bk h1,if_pos hp];simp only[a1]
  ·rw[if_neg hp]at h1;rw[cF h1,if_neg hp];exact LC es mk p none_ NA nB fE m (i+1) (by omega)
theorem nN{α σ ρ:Type}{b:σ->Option (Sg σ ρ)}(es:List α)(mk:Nat->σ)(p:α->Bool)(none_:ρ)(NA:Nat->α->ρ)
  (nB:∀i e,nth es i=some e->b (mk i)=some (if p e=true then .out (NA i e) else .go (mk (i+1))))
  (fE:b (mk es.length)=some (.out none_)):bR b (mk 0)=some (match sS p es 0 with|none=>none_|some j=>match nth es j with|some e=>NA j e|none=>none_):=by
 have h:=LC es mk p none_ NA nB fE es.length 0 (by omega)
 rwa [aV]at h
theorem ej{α τ σ ρ:Type}{b:σ->Option (Sg σ ρ)}(es:List α)(mk:Nat->τ->σ)(f:Nat->τ)(fin:ρ)
  (nB:∀i e,nth es i=some e->b (mk i (f i))=some (.go (mk (i+1) (f (i+1)))))
  (fE:b (mk es.length (f es.length))=some (.out fin)):∀m i,i+m=es.length->bR b (mk i (f i))=some fin
 |0,i,h=>by
  obtain rfl:i=es.length:=by omega
  exact bk fE
 |m+1,i,h=>by
  have a1:=dr (l:=es) (i:=i) (by omega);rw[cF (nB i _ a1)];exact ej es mk f fin nB fE m (i+1) (by omega)
def nr{β:Type}(i:Nat):List β->Int ⊕ (Int×List β)
 |[]=>.inl i
 |x::t=>.inr (i,x::t)
end
section
inductive ST where
 |nil
 |cons (a b:ST)
 |op (gs:Gs) (o:PO) (es:List SE) (t:ST)
 |gd (gs:Gs) (a b:ST)
 |call (i:Nat) (es:List SE) (ts:ST)
 |leaf (j:Nat) (es:List SE)
 |map (f:List Nat) (t:ST)
 |seq (t ts:ST)
 |loop (h:Nat) (es:List SE) (bs:ST)
 |both (a b:ST)
 deriving DecidableEq
abbrev Gf:=Nat->List D->Option (Nat×List D)
def Ad:Option (Nat×List D)->Option (Sg (Nat×List D) (Nat×List D))
 |some (j,σ)=>some (if j % 2=0 then .go (j / 2,σ) else .out (j / 2,σ))
 |none=>none
open Classical in
noncomputable def CB{α:Type}:Option α->Option α->Option α
 |some a,some b=>if a=b then some a else none
 |_,_=>none
theorem PC{α:Type}{a b:Option α}{r:α}(h:CB a b=some r):a=some r/\b=some r:=by
 unfold CB at h
 split at h
 ·split at h
  ·rename_i he;cases h;subst he;exact⟨rfl,rfl⟩
  ·cases h
 ·cases h
theorem Jl{α:Type}(a:α):CB (some a) (some a)=some a:=by simp[CB]
noncomputable def dM(G:Gf):ST->Nat->List D->Option (Nat×List D)
 | .nil,_,_=>none
 | .cons a _,0,ρ=>dM G a 0 ρ
 | .cons _ b,j+1,ρ=>dM G b j ρ
 | .op gs o es t,_,ρ=>match gN ρ gs with
  |some true=>match gR ρ es with
   |some xs=>match aJ o xs with
    |some x=>dM G t 0 (ρ++[x])
    |none=>none
   |none=>none
  |some false=>dM G t 0 (ρ++[.bool false])
  |none=>none
 | .gd gs a b,_,ρ=>match gN ρ gs with
  |some true=>dM G a 0 ρ
  |some false=>dM G b 0 ρ
  |none=>none
 | .call i es ts,_,ρ=>match gR ρ es with
  |some xs=>match G i xs with
   |some (j,ws)=>dM G ts j (ρ++ws)
   |none=>none
  |none=>none
 | .leaf j es,_,ρ=>match gR ρ es with
  |some xs=>some (j,xs)
  |none=>none
 | .map f t,_,ρ=>match dM G t 0 ρ with
  |some (j,σ)=>(nth f j).map (·,σ)
  |none=>none
 | .seq t ts,_,ρ=>match dM G t 0 ρ with
  |some (j,σ)=>dM G ts j σ
  |none=>none
 | .loop h es bs,_,ρ=>match gR ρ es with
  |some σ=>bR (λp=>Ad (dM G bs p.1 p.2)) (h,σ)
  |none=>none
 | .both a b,_,ρ=>CB (dM G a 0 ρ) (dM G b 0 ρ)
def Jm(c:Nat):SB->SB×List SE
 | .d e=>(.d (.v c),[e])
 |x=>(x,[])
def tE:Nat->List SB->List SB×List SE
 |_,[]=>([],[])
 |c,x::xs=>match Jm c x with
  |(y,es)=>match tE (c+es.length) xs with
   |(ys,fs)=>(y::ys,es++fs)
def D4:Nat->List (SB ⊕ List SB)->List (SB ⊕ List SB)×List SE
 |_,[]=>([],[])
 |c,.inl x::xs=>match Jm c x with
  |(y,es)=>match D4 (c+es.length) xs with
   |(ys,fs)=>(.inl y::ys,es++fs)
 |c,.inr x::xs=>match tE c x with
  |(y,es)=>match D4 (c+es.length) xs with
   |(ys,fs)=>(.inr y::ys,es++fs)
def Na(c:Nat):SC->SC×List SE
 | .b x=>match Jm c x with
  |(y,es)=>(.b y,es)
 | .agg xs=>match tE c xs with
  |(ys,es)=>(.agg ys,es)
 | .oH xs=>match D4 c xs with
  |(ys,es)=>(.oH ys,es)
 | .ptr b o=>(.ptr b o,[])
 | .mY r k i o=>(.mY r k (.v c) o,[i])
 | .qJ i o=>(.qJ c o,[.v i])
 | .any=>(.any,[])
def xK(kn:Gs):Nat->List (Nat×SG)->List (Nat×SG)×List SE
 |_,[]=>([],[])
 |c,(d,g)::l=>if g.gs.all (λp=>decide (p∈kn)) then (match Na c g.c with
   |(y,es)=>match xK kn (c+es.length) l with
    |(ys,fs)=>((d,⟨[],y⟩)::ys,es++fs))
  else match xK kn c l with
   |(ys,fs)=>((d,⟨[],.any⟩)::ys,fs)
def CH:Nat->List (Nat×List SB)->List (Nat×List SB)×List SE
 |_,[]=>([],[])
 |c,(d,x)::l=>match tE c x with
  |(y,es)=>match CH (c+es.length) l with
   |(ys,fs)=>((d,y)::ys,es++fs)
def CI:Nat->List (Nat×SR)->List (Nat×SR)×List SE
 |_,[]=>([],[])
 |c,(d,x)::l=>match CI (c+1) l with
   |(ys,fs)=>((d,{x with e:=.v c })::ys,x.e::fs)
def abM(d:Nat):List Nat->List Nat
 |[]=>[d]
 |e::l=>if d < e then d::e::l else if d=e then e::l else e::abM d l
def LV{α:Type}:List (Nat×α)->List Nat
 |[]=>[]
 |(d,_)::l=>abM d (LV l)
def SS.keys(S:SS):j6:=⟨LV S.sl,LV S.bx,LV S.rw⟩
def Nb(kn:Gs)(S:SS):SS×List SE:=
 match xK kn 0 (S.cH S.keys).sl with
 |(sl,es)=>match CH es.length (S.cH S.keys).bx with
  |(bx,fs)=>match CI (es.length+fs.length) (S.cH S.keys).rw with
   |(rw,gs)=>(⟨sl,bx,rw⟩,es++(fs++gs))
section
variable {ρ:List D}
theorem Fz{α:Type}:∀(l:List α) (x:α) (m:List α),nth (l++([x]++m)) l.length=some x:=λl x m=>iF l x m
theorem D3{c:Nat}{x y:SB}{es:List SE}{v:C}{σ:List D}(hc:Jm c x=(y,es))(hx:iY ρ x v)(he:gR ρ es=some σ){σ0 σ1:List D}(h0:σ0.length=c):iY (σ0++(σ++σ1)) y v:=by
 subst h0;cases x with
 |d e=>
  cases hc;obtain⟨z,h1,rfl⟩:=hx;obtain⟨w,h2,rfl⟩:=ee he;rw[h1]at h2;cases h2;exact⟨z,Fz _ _ _,rfl⟩
 |nil k fl=>cases hc;exact hx
 |ref r=>cases hc;exact hx
 |any=>cases hc;trivial
theorem kL:∀{es fs:List SE} {σ:List D},gR ρ (es++fs)=some σ->∃σ1 σ2,gR ρ es=some σ1/\gR ρ fs=some σ2/\σ=σ1++σ2
 |[],_,σ,h=>⟨[],σ,rfl,h,rfl⟩
 |e::es,_,_,h=>by
  obtain⟨x,ys,h1,h2,rfl⟩:=cS (es:=es++_) h;obtain⟨σ1,σ2,h3,h4,rfl⟩:=kL h2;exact⟨x::σ1,σ2,by simp only[gR,h1,h3,aD],h4,rfl⟩
theorem uT:∀{xs:List SB} {c:Nat} {ys:List SB} {es:List SE} {vs:List C} {σ σ0 σ1:List D},tE c xs=(ys,es)->dv ρ xs vs->gR ρ es=some σ->σ0.length=c->dv (σ0++(σ++σ1)) ys vs
 |[],_,_,_,_,_,_,_,hc,hx,he,h0=>by
  cases hc;exact hx
 |x::xs,c,ys,es,vs,σ,σ0,σ1,hc,⟨v,dZ,hv,h1,h2⟩,he,h0=>by
  subst hv;simp only[tE]at hc;generalize h3:Jm c x=q at hc;obtain⟨y,Hd⟩:=q;simp only at hc
  generalize h4:tE (c+Hd.length) xs=q at hc;obtain⟨MY,fs⟩:=q;cases hc;obtain⟨OR,Tt,h5,h6,rfl⟩:=kL he;refine⟨v,dZ,rfl,?_,?_⟩
  ·have:=D3 h3 h1 h5 h0 (σ1:=Tt++σ1)
   simpa only [bh] using this
  ·have:=uT h4 h2 h6 (σ0:=σ0++OR) (σ1:=σ1) (by rw[aL,h0,ju h5])
   simpa only [bh] using this
theorem D5:∀{xs:List (SB ⊕ List SB)} {c:Nat} {ys:List (SB ⊕ List SB)} {es:List SE} {vs:List C} {σ σ0 σ1:List D},D4 c xs=(ys,es)->ru ρ xs vs->gR ρ es=some σ->σ0.length=c->ru (σ0++(σ++σ1)) ys vs
 |[],_,_,_,_,_,_,_,hc,hx,he,h0=>by
  cases hc;exact hx
 | .inl x::xs,c,ys,es,vs,σ,σ0,σ1,hc,⟨v,dZ,hv,h1,h2⟩,he,h0=>by
  subst hv;simp only[D4]at hc;generalize h3:Jm c x=q at hc;obtain⟨y,Hd⟩:=q;simp only at hc
  generalize h4:D4 (c+Hd.length) xs=q at hc;obtain⟨MY,fs⟩:=q;cases hc;obtain⟨OR,Tt,h5,h6,rfl⟩:=kL he;refine⟨v,dZ,rfl,?_,?_⟩
  ·have:=D3 h3 h1 h5 h0 (σ1:=Tt++σ1)
   simpa only [bh] using this
  ·have:=D5 h4 h2 h6 (σ0:=σ0++OR) (σ1:=σ1) (by rw[aL,h0,ju h5])
   simpa only [bh] using this
 | .inr x::xs,c,ys,es,vs,σ,σ0,σ1,hc,⟨v,dZ,hv,h1,h2⟩,he,h0=>by
  subst hv;simp only[D4]at hc;generalize h3:tE c x=q at hc;obtain⟨y,Hd⟩:=q;simp only at hc
  generalize h4:D4 (c+Hd.length) xs=q at hc;obtain⟨MY,fs⟩:=q;cases hc;obtain⟨OR,Tt,h5,h6,rfl⟩:=kL he;refine⟨v,dZ,rfl,?_,?_⟩
  ·have:=uT h3 h1 h5 h0 (σ1:=Tt++σ1)
   simpa only [bh] using this
  ·have:=D5 h4 h2 h6 (σ0:=σ0++OR) (σ1:=σ1) (by rw[aL,h0,ju h5])
   simpa only [bh] using this
theorem T6{c:Nat}{x y:SC}{es:List SE}{v:C}{σ:List D}(hc:Na c x=(y,es))(hx:jQ ρ x v)(he:gR ρ es=some σ){σ0 σ1:List D}(h0:σ0.length=c):jQ (σ0++(σ++σ1)) y v:=by
 cases x with
 |b x=>
  simp only[Na]at hc;generalize h3:Jm c x=q at hc;obtain⟨y',Hd⟩:=q;cases hc;exact D3 h3 hx he h0
 |agg xs=>
  simp only[Na]at hc;generalize h3:tE c xs=q at hc;obtain⟨y',Hd⟩:=q;cases hc;obtain⟨cs,rfl,h1⟩:=hx;exact⟨cs,rfl,uT h3 h1 he h0⟩
 |oH xs=>
  simp only[Na]at hc;generalize h3:D4 c xs=q at hc;obtain⟨y',Hd⟩:=q;cases hc;obtain⟨cs,rfl,h1⟩:=hx;exact⟨cs,rfl,D5 h3 h1 he h0⟩
 |ptr b o=>cases hc;exact hx
 |mY r k i o=>
  cases hc;subst h0;obtain⟨n,h1,rfl⟩:=hx;obtain⟨w,h2,rfl⟩:=ee he;rw[h1]at h2;cases h2;exact⟨n,Fz _ _ _,rfl⟩
 |qJ i o=>
  cases hc;subst h0;obtain⟨x,cs,h1,h2,rfl⟩:=hx;obtain⟨w,h3,rfl⟩:=ee he;rw[SE.d,h1]at h3;cases h3;exact⟨x,cs,Fz _ _ _,h2,rfl⟩
 |any=>cases hc;trivial
theorem zC{kn:Gs}(hk:gN ρ kn=some true):∀{l:List (Nat×SG)} {c:Nat} {l':List (Nat×SG)} {es:List SE} {σ σ0 σ1:List D},xK kn c l=(l',es)->gR ρ es=some σ->σ0.length=c->
  ∀d g,look l' d=some g->∃g0,look l d=some g0/\∀v,pT ρ g0 v->pT (σ0++(σ++σ1)) g v
 |[],_,_,_,_,_,_,hc,he,h0=>by
  cases hc;intro d g h;cases h
 |(d0,g0)::l,c,l',es,σ,σ0,σ1,hc,he,h0=>by
  intro d g h;simp only[xK]at hc
  split at hc
  ·rename_i hg;generalize h3:Na c g0.c=q at hc;obtain⟨y,Hd⟩:=q;simp only at hc
   generalize h4:xK kn (c+Hd.length) l=q at hc;obtain⟨MY,fs⟩:=q;cases hc;obtain⟨OR,Tt,h5,h6,rfl⟩:=kL he;simp only[look]at h ⊢
   split at h
   ·rename_i hd;cases h;refine⟨g0,by rw[if_pos hd],λv hv=>?_⟩;obtain⟨b,q1,q2,q3⟩:=hv;rw[JI hk hg]at q1;cases q1;have:=T6 h3 (q2 rfl) h5 h0 (σ1:=Tt++σ1);exact pT.nil (by simpa only [bh] using this)
   ·rename_i hd;rw[if_neg hd];have:=zC hk h4 h6 (σ0:=σ0++OR) (σ1:=σ1) (by rw[aL,h0,ju h5]) d g h
    simpa only [bh] using this
  ·generalize h4:xK kn c l=q at hc;obtain⟨MY,fs⟩:=q;cases hc;simp only[look]at h ⊢
   split at h
   ·rename_i hd;cases h;exact⟨g0,by rw[if_pos hd],λv hv=>pT.nil trivial⟩
   ·rename_i hd;rw[if_neg hd];exact zC hk h4 he h0 d g h
theorem GL:∀{l:List (Nat×List SB)} {c:Nat} {l':List (Nat×List SB)} {es:List SE} {σ σ0 σ1:List D},CH c l=(l',es)->gR ρ es=some σ->σ0.length=c->
  ∀d g,look l' d=some g->∃g0,look l d=some g0/\∀v,dv ρ g0 v->dv (σ0++(σ++σ1)) g v
 |[],_,_,_,_,_,_,hc,he,h0=>by
  cases hc;intro d g h;cases h
 |(d0,g0)::l,c,l',es,σ,σ0,σ1,hc,he,h0=>by
  intro d g h;simp only[CH]at hc;generalize h3:tE c g0=q at hc;obtain⟨y,Hd⟩:=q;simp only at hc
  generalize h4:CH (c+Hd.length) l=q at hc;obtain⟨MY,fs⟩:=q;cases hc;obtain⟨OR,Tt,h5,h6,rfl⟩:=kL he;simp only[look]at h ⊢
  split at h
  ·rename_i hd;cases h;refine⟨g0,by rw[if_pos hd],λv hv=>?_⟩;have:=uT h3 hv h5 h0 (σ1:=Tt++σ1)
   simpa only [bh] using this
  ·rename_i hd;rw[if_neg hd];have:=GL h4 h6 (σ0:=σ0++OR) (σ1:=σ1) (by rw[aL,h0,ju h5]) d g h
   simpa only [bh] using this
theorem GM:∀{l:List (Nat×SR)} {c:Nat} {l':List (Nat×SR)} {es:List SE} {σ σ0 σ1:List D},CI c l=(l',es)->gR ρ es=some σ->σ0.length=c->
  ∀d g,look l' d=some g->∃g0,look l d=some g0/\∀v,TE ρ g0 v->TE (σ0++(σ++σ1)) g v
 |[],_,_,_,_,_,_,hc,he,h0=>by
  cases hc;intro d g h;cases h
 |(d0,g0)::l,c,l',es,σ,σ0,σ1,hc,he,h0=>by
  intro d g h;simp only[CI]at hc;generalize h4:CI (c+1) l=q at hc;obtain⟨MY,fs⟩:=q;cases hc;obtain⟨x,Tt,h5,h6,rfl⟩:=cS he;simp only[look]at h ⊢
  split at h
  ·rename_i hd;cases h;refine⟨g0,by rw[if_pos hd],λv hv=>?_⟩;obtain⟨I1,w1,rfl⟩:=hv;rw[h5]at w1;cases w1;subst h0;exact⟨I1,iF σ0 _ (Tt++σ1),rfl⟩
  ·rename_i hd;rw[if_neg hd];have:=GM h4 h6 (σ0:=σ0++[x]) (σ1:=σ1) (by rw[aL,h0];rfl) d g h
   simpa only [bh,ai,ao] using this
theorem Rel.aiz{S:SS}{s:St}(h:Rel ρ S s)(kp:j6):Rel ρ (S.cH kp) s:=
 ⟨λd g hl=>h.sl d g (gq _ _ hl).1,λb xs hl=>h.bx b xs (gq _ _ hl).1,λr x hl=>h.rw r x (gq _ _ hl).1⟩
theorem Ld{S S':SS}{s:St}{kn:Gs}{es:List SE}{σ:List D}(h:Rel ρ S s)(hk:gN ρ kn=some true)(hc:Nb kn S=(S',es))(he:gR ρ es=some σ):Rel σ S' s:=by
 have h:=h.aiz S.keys;unfold Nb at hc;generalize h1:xK kn 0 (S.cH S.keys).sl=q at hc;obtain⟨sl,Hd⟩:=q;simp only at hc
 generalize h2:CH Hd.length (S.cH S.keys).bx=q at hc;obtain⟨bx,es2⟩:=q;simp only at hc
 generalize h3:CI (Hd.length+es2.length) (S.cH S.keys).rw=q at hc;obtain⟨rw_,es3⟩:=q;cases hc;obtain⟨σ1,τ,g1,g2,rfl⟩:=kL he;obtain⟨σ2,σ3,g3,g4,rfl⟩:=kL g2;refine⟨λd g hl=>?_,λb xs hl=>?_,λr x hl=>?_⟩
 ·obtain⟨g0,q1,q2⟩:=zC hk h1 g1 (σ0:=[]) (σ1:=σ2++σ3) rfl d g hl;exact q2 _ (h.sl d g0 q1)
 ·obtain⟨g0,q1,q2⟩:=GL h2 g3 (σ0:=σ1) (σ1:=σ3) (ju g1) b xs hl;obtain⟨cs,q3,q4⟩:=h.bx b g0 q1;exact⟨cs,q3,q2 _ q4⟩
 ·obtain⟨g0,q1,q2⟩:=GM h3 g4 (σ0:=σ1++σ2) (σ1:=[]) (by rw[aL,ju g1,ju g3]) r x hl;obtain⟨cs,q3,q4⟩:=h.rw r g0 q1;refine⟨cs,q3,?_⟩;have:=q2 _ q4
  simpa only [bh,aG] using this
end
end
section
inductive DZ where
 |d
 |row (k:Nat) (fl deep app fz:Bool)
 deriving DecidableEq
inductive SA where
 |val (ag:Bool) (l:List DZ)
 |box (l:List DZ)
 deriving DecidableEq
structure lF where
 f:Nat
 args:List SA
 res:List (List SA×List SA)
 deriving DecidableEq
def SA.n:SA->Nat
 | .val _ l=>l.length
 | .box l=>l.length
def SA.l:SA->List DZ
 | .val _ l=>l
 | .box l=>l
def zO:DZ->D->Option RV
 | .d,x=>some (.d x)
 | .row k fl deep app fz,.list k' sR es=>if k'=k/\sR=fl then some (.row ⟨es,k,fl,deep,app,fz⟩) else none
 |_,_=>none
def lL:List DZ->List D->Option (List RV)
 |[],[]=>some []
 |v::vs,x::xs=>match zO v x with
  |some r=>(lL vs xs).map (r::·)
  |none=>none
 |_,_=>none
def k8:SA->List D->Option A
 | .val ag l,xs=>(lL l xs).map (.val ag)
 | .box l,xs=>(lL l xs).map .box
def fZ:List SA->List D->Option (List A)
 |[],[]=>some []
 |[],_::_=>none
 |a::as,xs=>match k8 a (xs.take a.n) with
  |some r=>(fZ as (xs.drop a.n)).map (r::·)
  |none=>none
def uU:List SA->Nat
 |[]=>0
 |a::as=>a.n+uU as
def u5(v:List SA×List SA)(xs:List D):Option (List A×List A):=
 match fZ v.1 (xs.take (uU v.1)),fZ v.2 (xs.drop (uU v.1)) with
 |some rs,some outs=>some (rs,outs)
 |_,_=>none
def TU(cf:Cf)(jC:List (Nat×lF))(G:Gf):Prop:=
 ∀i sg,look jC i=some sg->∀ws j us,G i ws=some (j,us)->∃as r v,fZ sg.args ws=some as/\nth sg.res j=some v/\u5 v us=some r/\cf sg.f as=some r
def rdS(S:SS):SB->Option SE
 | .d e=>some e
 | .nil k fl=>some (.k (.nil k fl))
 | .ref r=>(look S.rw r).map (·.e)
 | .any=>none
def wrS(S:SS):SB->Option (DZ×SE)
 | .d e=>some (.d,e)
 | .nil k fl=>some (.row k fl true true false,.k (.nil k fl))
 | .ref r=>(look S.rw r).map λx=>(.row x.k x.fl x.deep x.app x.fz,x.e)
 | .any=>none
def SC.isAgg:SC->Bool
 | .agg _=>true
 |_=>false
def VM(S:SS):SC->Option (SA×List SE)
 | .ptr b 0=>match look S.bx b with
  |some xs=>(fp (wrS S) xs).map λl=>(.box (l.map (·.1)),l.map (·.2))
  |none=>none
 |c=>match c.cells with
  |some xs=>(fp (rdS S) xs).map λl=>(.val c.isAgg (l.map λ_=>.d),l)
  |none=>none
def ID(S:SS):List SC->Option (List SA×List SE)
 |[]=>some ([],[])
 |c::cs=>match VM S c with
  |some (a,es)=>(ID S cs).map λp=>(a::p.1,es++p.2)
  |none=>none
def ft:List SB->List Nat
 |[]=>[]
 | .ref r::cs=>r::ft cs
 |_::cs=>ft cs
def qu(S:SS):SC->List Nat
 | .ptr b 0=>ft ((look S.bx b).getD [])
 |_=>[]
def qq(S:SS):List SC->List Nat
 |[]=>[]
 |c::cs=>qu S c++qq S cs
def xX:List SC->List Nat
 |[]=>[]
 |c::cs=>ft (c.cells.getD [])++xX cs
def oR:List SC->List Nat
 |[]=>[]
 | .ptr b _::cs=>b::oR cs
 |_::cs=>oR cs
section
variable {ρ:List D} {S:SS} {s:St}
theorem ZI(h:Rel ρ S s){x:SB}{v:C}{e:SE}(hv:iY ρ x v)(he:rdS S x=some e):∃y,e.d ρ=some y/\kI s v=some (.d y):=by
 cases x with
 |d e'=>cases he;obtain⟨y,h1,rfl⟩:=hv;exact⟨y,h1,rfl⟩
 |nil k fl=>cases he;simp only[iY]at hv;subst hv;exact⟨_,rfl,rfl⟩
 |ref r=>
  simp only[iY]at hv;subst hv;obtain⟨x,h1,rfl⟩:=ad.1 he;obtain⟨y,h2,es,h3,rfl⟩:=h.rw r x h1;exact⟨_,h3,by simp only[kI,h2,aD]⟩
 |any=>cases he
theorem aaa(h:Rel ρ S s){x:SB}{v:C}{p:DZ×SE}(hv:iY ρ x v)(he:wrS S x=some p):∃y r,p.2.d ρ=some y/\iK s v=some r/\zO p.1 y=some r:=by
 cases x with
 |d e'=>cases he;obtain⟨y,h1,rfl⟩:=hv;exact⟨y,_,h1,rfl,rfl⟩
 |nil k fl=>cases he;simp only[iY]at hv;subst hv;exact⟨_,_,rfl,rfl,by simp[SK.d,zO]⟩
 |ref r=>
  simp only[iY]at hv;subst hv;obtain⟨x,h1,rfl⟩:=ad.1 he;obtain⟨y,h2,es,h3,rfl⟩:=h.rw r x h1;exact⟨_,.row ⟨es,x.k,x.fl,x.deep,x.app,x.fz⟩,h3,by simp only[iK,h2,aD],by simp[zO]⟩
 |any=>cases he
theorem MI(h:Rel ρ S s):∀{xs:List SB} {vs:List C} {es:List SE},dv ρ xs vs->fp (rdS S) xs=some es->∃ys rs,gR ρ es=some ys/\fp (kI s) vs=some rs/\lL (es.map λ_=>.d) ys=some rs
 |[],vs,_,hv,he=>by cases he;simp only[dv]at hv;subst hv;exact⟨[],[],rfl,rfl,rfl⟩
 |x::xs,_,es,⟨v,vs,hv,h1,h2⟩,he=>by
  subst hv;simp only[fp]at he
  split at he
  ·rename_i e he1;obtain⟨ja,h3,rfl⟩:=ad.1 he;obtain⟨y,h4,h5⟩:=ZI h h1 he1;obtain⟨ys,rs,h6,h7,h8⟩:=MI h h2 h3;exact⟨y::ys,.d y::rs,by simp only[gR,h4,h6,aD],by simp only[fp,h5,h7,aD],by simp only[aQ,lL,zO,h8,aD]⟩
  ·cases he
theorem zm(h:Rel ρ S s):∀{xs:List SB} {vs:List C} {ps:List (DZ×SE)},dv ρ xs vs->fp (wrS S) xs=some ps->∃ys rs,gR ρ (ps.map (·.2))=some ys/\fp (iK s) vs=some rs/\lL (ps.map (·.1)) ys=some rs
 |[],vs,_,hv,he=>by cases he;simp only[dv]at hv;subst hv;exact⟨[],[],rfl,rfl,rfl⟩
 |x::xs,_,es,⟨v,vs,hv,h1,h2⟩,he=>by
  subst hv;simp only[fp]at he
  split at he
  ·rename_i p he1;obtain⟨ja,h3,rfl⟩:=ad.1 he;obtain⟨y,r,h4,h5,h5'⟩:=aaa h h1 he1;obtain⟨ys,rs,h6,h7,h8⟩:=zm h h2 h3;exact⟨y::ys,r::rs,by simp only[aQ,gR,h4,h6,aD],by simp only[fp,h5,h7,aD],by simp only[aQ,lL,h5',h8,aD]⟩
  ·cases he
theorem lO:∀{l:List DZ} {xs:List D} {rs:List RV},lL l xs=some rs->xs.length=l.length
 |[],[],_,_=>rfl
 |[],_::_,_,h=>by cases h
 |_::_,[],_,h=>by cases h
 |v::l,x::xs,rs,h=>by
  simp only[lL]at h
  split at h
  ·obtain⟨ys,h1,_⟩:=ad.1 h;simp[lO h1]
  ·cases h
theorem pI{α β:Type}{f:α->Option β}{p:α->Bool}(hf:∀x y,f x=some y->p x=true):∀{xs:List α} {ys:List β},fp f xs=some ys->xs.all p=true
 |[],_,_=>rfl
 |x::xs,_,h=>by
  simp only[fp]at h
  split at h
  ·rename_i y hy;obtain⟨ys,h1,_⟩:=ad.1 h;simp only[bT,hf x y hy,pI hf h1,iL]
  ·cases h
theorem R_{x:SB}{e:SE}(h:rdS S x=some e):x.cell=true:=by cases x<;>first|rfl|cases h
theorem vQ{x:SB}{e:DZ×SE}(h:wrS S x=some e):x.cell=true:=by cases x<;>first|rfl|cases h
theorem ma:∀{xs:List SB} {vs:List C},dv ρ xs vs->xs.all SB.cell=true->rowsOf vs=ft xs
 |[],_,h,_=>by simp only[dv]at h;subst h;rfl
 |x::xs,_,⟨v,vs,hv,h1,h2⟩,hc=>by
  subst hv;simp only[bT,ab]at hc;cases x with
  |d e=>obtain⟨y,_,rfl⟩:=h1;simp only[rowsOf,ft];exact ma h2 hc.2
  |nil k fl=>simp only[iY]at h1;subst h1;simp only[rowsOf,ft];exact ma h2 hc.2
  |ref r=>simp only[iY]at h1;subst h1;simp only[rowsOf,ft,ma h2 hc.2]
  |any=>cases hc.1
def Pa(c:SC)(v:C):Prop:=(∃b,c=.ptr b 0/\v=.ptr b 0)\/((∀b o,c≠.ptr b o)/\∀b o,v≠.ptr b o)
theorem VN(h:Rel ρ S s){c:SC}{v:C}{a:SA}{es:List SE}(hv:jQ ρ c v)(ha:VM S c=some (a,es)) :
  ∃ws r,gR ρ es=some ws/\OL s v=some r/\k8 a ws=some r/\ws.length=a.n/\pK s v=qu S c/\rowsOf v.cells=ft (c.cells.getD [])/\Pa c v:=by
 have val:∀{xs:List SB} {l:List SE},c.cells=some xs->fp (rdS S) xs=some l->a=.val c.isAgg (l.map λ_=>.d)->es=l->(∀b o,c≠.ptr b o)->
   ∃ws r,gR ρ es=some ws/\OL s v=some r/\k8 a ws=some r/\ws.length=a.n/\pK s v=qu S c/\rowsOf v.cells=ft (c.cells.getD [])/\Pa c v:=by
  rintro xs l hc hl rfl rfl hn
  have jU:=pI (λ_ _=>R_) hl;have hr:=hv.cells hc jU;obtain⟨ys,rs,h1,h2,h3⟩:=MI h hr hl;have Q5:∀b o,v≠.ptr b o:=by
   rintro b o rfl
   cases c with
   |b x=>
    cases hc;have:=iY.cell hv (by simpa using jU);cases this
   |agg ys=>obtain⟨cs,h4,_⟩:=hv;cases h4
   |ptr b o=>exact hn b o rfl
   |oH _=>cases hc
   |mY _ _ _ _=>cases hc
   |qJ _ _=>cases hc
   |any=>cases hc
  have sU:v.isAgg=c.isAgg:=by
   cases c with
   |b x=>
    cases hc;have:=iY.cell hv (by simpa using jU);cases v<;>first|rfl|cases this
   |agg ys=>obtain⟨cs,rfl,_⟩:=hv;rfl
   |ptr b o=>exact absurd rfl (hn b o)
   |oH _=>cases hc
   |mY _ _ _ _=>cases hc
   |qJ _ _=>cases hc
   |any=>cases hc
  refine⟨ys,.val v.isAgg rs,h1,?_,by rw[sU];simp only[k8,h3,aD],by rw[lO h3];rfl,?_,?_,.inr ⟨hn,Q5⟩⟩
  ·unfold OL;split
   ·exact absurd rfl (Q5 _ _)
   ·simp only[h2,aD]
  ·have:pK s v=[]:=by
    unfold pK;split
    ·exact absurd rfl (Q5 _ _)
    ·rfl
   rw[this];unfold qu;split
   ·exact absurd rfl (hn _ _)
   ·rfl
  ·rw[hc,ma hr jU];rfl
 have box:∀{b:Nat} {xs:List SB} {l:List (DZ×SE)},c=.ptr b 0->look S.bx b=some xs->fp (wrS S) xs=some l->a=.box (l.map (·.1))->es=l.map (·.2)->
   ∃ws r,gR ρ es=some ws/\OL s v=some r/\k8 a ws=some r/\ws.length=a.n/\pK s v=qu S c/\rowsOf v.cells=ft (c.cells.getD [])/\Pa c v:=by
  rintro b xs l rfl hl h1 rfl rfl
  simp only[jQ]at hv;subst hv;obtain⟨cs,h3,h4⟩:=h.bx b xs hl;obtain⟨ys,rs,h5,h6,h7⟩:=zm h h4 h1;refine⟨ys,.box rs,h5,by simp only[OL,h3,h6,aD],by simp only[k8,h7,aD],by rw[lO h7];rfl,?_,rfl,.inl ⟨b,rfl,rfl⟩⟩;have:=ma h4 (pI (p:=SB.cell) (λ_ _=>vQ) h1);simp only[pK,qu,h3,hl,mH,this]
 have OP:(∀b o,c≠.ptr b o)->(match c.cells with
  |some xs=>(fp (rdS S) xs).map λl=>(SA.val c.isAgg (l.map λ_=>DZ.d),l)
  |none=>none)=some (a,es)->∃ws r,gR ρ es=some ws/\OL s v=some r/\k8 a ws=some r/\ws.length=a.n/\pK s v=qu S c/\rowsOf v.cells=ft (c.cells.getD [])/\Pa c v:=by
  intro hn ha;rcases hc:c.cells with _|xs
  ·rw[hc]at ha;cases ha
  ·have LF:=ha;rw[hc]at LF;obtain⟨l,h1,h2⟩:=ad.1 LF;simp only[ak]at h2;have:=val hc h1 h2.1.symm h2.2.symm hn;rw[hc]at this;exact this
 cases c with
 |ptr b o=>
  cases o with
  |zero=>
   rcases hl:look S.bx b with _|xs
   ·simp only[VM,hl]at ha;cases ha
   ·simp only[VM,hl]at ha;obtain⟨l,h1,h2⟩:=ad.1 ha;simp only[ak]at h2;have:=box rfl hl h1 h2.1.symm h2.2.symm;exact this
  |succ o=>cases ha
 |b x=>exact OP (λ_ _ h=>by cases h) ha
 |agg x=>exact OP (λ_ _ h=>by cases h) ha
 |oH x=>exact OP (λ_ _ h=>by cases h) ha
 |mY _ _ _ _=>exact OP (λ_ _ h=>by cases h) ha
 |qJ _ _=>exact OP (λ_ _ h=>by cases h) ha
 |any=>exact OP (λ_ _ h=>by cases h) ha
def K6:List SC->List C->Prop
 |[],vs=>vs=[]
 |c::cs,vs=>∃v dZ,vs=v::dZ/\Pa c v/\K6 cs dZ
theorem take_left'{α:Type}{a b:List α}{n:Nat}(h:a.length=n):(a++b).take n=a:=by subst h;exact lZ
theorem drop_left'{α:Type}{a b:List α}{n:Nat}(h:a.length=n):(a++b).drop n=b:=by subst h;exact List.drop_left
theorem IE(h:Rel ρ S s):∀{cs:List SC} {vs:List C} {as:List SA} {es:List SE},DY ρ cs vs->ID S cs=some (as,es)->
  ∃ws rs,gR ρ es=some ws/\vK s vs=some rs/\fZ as ws=some rs/\cI s vs=qq S cs/\gZ vs=xX cs/\ch vs=oR cs/\K6 cs vs
 |[],_,_,_,hv,ha=>by
  simp only[DY]at hv;subst hv;cases ha;exact⟨[],[],rfl,rfl,rfl,rfl,rfl,rfl,rfl⟩
 |c::cs,_,as,es,⟨v,vs,hv,h1,h2⟩,ha=>by
  subst hv;simp only[ID]at ha
  split at ha
  ·rename_i a Hd h3;obtain⟨p,h4,h5⟩:=ad.1 ha;obtain⟨K8,es2⟩:=p;simp only[ak]at h5;obtain⟨rfl,rfl⟩:=h5;obtain⟨ws,r,q1,q2,q3,q4,q5,q6,q7⟩:=VN h h1 h3;obtain⟨ws',rs,w1,w2,w3,w4,w5,w6,w7⟩:=IE h h2 h4;refine⟨ws++ws',r::rs,ox q1 w1,by simp only[vK,q2,w2,aD],?_,by simp only[cI,qq,q5,w4],by simp only[gZ,xX,q6,w5],?_,v,vs,rfl,q7,w7⟩
   ·simp only[fZ,take_left' q4,drop_left' q4,q3,w3,aD]
   ·rcases q7 with ⟨b,rfl,rfl⟩|⟨n1,n2⟩
    ·simp only[ch,oR,w6]
    ·have e1:oR (c::cs)=oR cs:=by
      cases c<;>first|rfl|exact absurd rfl (n1 _ _)
     have e2:ch (v::vs)=ch vs:=by
      cases v<;>first|rfl|exact absurd rfl (n2 _ _)
     rw[e1,e2,w6]
  ·cases ha
def Loc(ρ:List D)(c:Nat)(us:List D):Prop:=∀i x,nth us i=some x->nth ρ (c+i)=some x
theorem Loc.tail{c:Nat}{x:D}{us:List D}(h:Loc ρ c (x::us)):Loc ρ (c+1) us:=λi y hy=>by
 have:=h (i+1) y hy;rw[du,Nat.add_comm 1 i];exact this
theorem Loc.drop:∀{us:List D} {c:Nat} (n:Nat),Loc ρ c us->Loc ρ (c+n) (us.drop n)
 |us,c,0,h=>h
 |[],c,n+1,h=>λi y hy=>by cases hy
 |x::us,c,n+1,h=>by
  have:=Loc.drop n h.tail;rw[du,Nat.add_comm 1 n]at this;exact this
theorem Bg{α:Type}:∀{us:List α} {n i:Nat} {x:α},nth (us.take n) i=some x->nth us i=some x
 |[],n,i,x,h=>by simp[nth]at h
 |y::us,0,i,x,h=>by simp[nth]at h
 |y::us,n+1,0,x,h=>h
 |y::us,n+1,i+1,x,h=>Bg (us:=us) h
theorem Loc.take{us:List D}{c:Nat}(n:Nat)(h:Loc ρ c us):Loc ρ c (us.take n):=λi x hx=>h i x (Bg hx)
theorem Loc.new(us:List D):Loc (ρ++us) ρ.length us:=by
 intro i x hx
 induction ρ with
 |nil=>simpa using hx
 |cons y ρ ih=>rw[az,Nat.add_right_comm];exact ih
def JW(d:Nat):Nat->List DZ->Nat->SS->List SB×SS
 |_,[],_,S=>([],S)
 |j,.d::l,c,S=>match JW d (j+1) l (c+1) S with
  |(xs,S')=>(.d (.v c)::xs,S')
 |j,.row k fl deep app fz::l,c,S=>match JW d (j+1) l (c+1) (S.newRow (tB d j) ⟨.v c,k,fl,deep,app,fz⟩) with
  |(xs,S')=>(.ref (tB d j)::xs,S')
theorem wK{d:Nat}:∀{l:List DZ} {j c:Nat} {S S':SS} {s:St} {us:List D} {vs:List RV} {xs:List SB},Rel ρ S s->lL l us=some vs->Loc ρ c us->JW d j l c S=(xs,S')->
  ∃cs s',dU d j vs s=(cs,s')/\Rel ρ S' s'/\dv ρ xs cs
 |[],j,c,S,S',s,[],vs,xs,h,he,hl,hi=>by
  cases he;cases hi;exact⟨[],s,rfl,h,rfl⟩
 |[],_,_,_,_,_,_::_,_,_,_,he,_,_=>by cases he
 |_::_,_,_,_,_,_,[],_,_,_,he,_,_=>by cases he
 |v::l,j,c,S,S',s,u::us,vs,xs,h,he,hl,hi=>by
  simp only[lL]at he
  split at he
  ·rename_i r hr;obtain⟨dZ,h1,rfl⟩:=ad.1 he;have hc:=hl 0 u rfl;cases v with
   |d=>
    cases hr;simp only[JW]at hi;generalize hq:JW d (j+1) l (c+1) S=q at hi;obtain⟨ys,S1⟩:=q;cases hi;obtain⟨cs,s',w1,w2,w3⟩:=wK h h1 hl.tail hq;exact⟨.d u::cs,s',by simp only[dU,w1],w2,_,_,rfl,⟨u,hc,rfl⟩,w3⟩
   |row k fl deep app fz=>
    cases u with
    |list k' sR es=>
     simp only[zO]at hr
     split at hr
     ·rename_i hk;obtain⟨rfl,rfl⟩:=hk;cases hr;simp only[JW]at hi;generalize hq:JW d (j+1) l (c+1) _=q at hi;obtain⟨ys,S1⟩:=q;cases hi;obtain⟨cs,s',w1,w2,w3⟩:=wK (h.newRow (tB d j) (x:=⟨.v c,k',sR,deep,app,fz⟩) (y:=⟨es,k',sR,deep,app,fz⟩) ⟨es,hc,rfl⟩) h1 hl.tail hq;exact⟨.ref (tB d j)::cs,s',by simp only[dU,w1],w2,_,_,rfl,rfl,w3⟩
     ·cases hr
    |_=>cases hr
  ·cases he
def uD:SS->List SC->List SA->Nat->Option SS
 |S,[],_,_=>some S
 |S,.ptr b 0::cs,.box l::outs,c=>match JW (b+500) 0 l c S with
  |(xs,S')=>uD (S'.eO b xs) cs outs (c+l.length)
 |S,.ptr _ _::_,_,_=>none
 |S,_::cs,outs,c=>uD S cs outs c
def VA(d:Nat):Nat->List SA->Nat->SS->Option (List (SB ⊕ List SB)×SS)
 |_,[],_,S=>some ([],S)
 |q,.val ag l::rs,c,S=>match JW d (30 * q) l c S with
  |(xs,S1)=>match VA d (q+1) rs (c+l.length) S1 with
   |some (ms,S2)=>if ag=true then some (.inr xs::ms,S2) else match xs with
    |[x]=>some (.inl x::ms,S2)
    |_=>none
   |none=>none
 |_,.box _::_,_,_=>none
theorem gB{a:SA}{as:List SA}{us:List D}{rs:List A}(h:fZ (a::as) us=some rs):∃r Cq,k8 a (us.take a.n)=some r/\fZ as (us.drop a.n)=some Cq/\rs=r::Cq:=by
 simp only[fZ]at h
 split at h
 ·rename_i r hr;obtain⟨Cq,h1,rfl⟩:=ad.1 h;exact⟨r,Cq,hr,h1,rfl⟩
 ·cases h
theorem MM{d:Nat}:∀{l:List SA} {q c:Nat} {S S':SS} {s:St} {us:List D} {rs:List A} {ms:List (SB ⊕ List SB)},Rel ρ S s->fZ l us=some rs->Loc ρ c us->VA d q l c S=some (ms,S')->
  ∃cs s',fw d q rs s=(cs,s')/\Rel ρ S' s'/\ru ρ ms cs
 |[],q,c,S,S',s,us,rs,ms,h,he,hl,hi=>by
  cases us with
  |nil=>
   cases he;cases hi;exact⟨[],s,rfl,h,rfl⟩
  |cons u us=>cases he
 | .box _::_,_,_,_,_,_,_,_,_,_,_,_,hi=>by cases hi
 | .val ag l::as,q,c,S,S',s,us,rs,ms,h,he,hl,hi=>by
  obtain⟨r,Cq,h1,h2,rfl⟩:=gB he;simp only[k8]at h1;obtain⟨vs,h3,rfl⟩:=ad.1 h1;simp only[VA]at hi;generalize hq:JW d (30 * q) l c S=p at hi;obtain⟨xs,S1⟩:=p;simp only at hi
  obtain⟨cs,s1,w1,w2,w3⟩:=wK h h3 (hl.take _) hq
  split at hi
  ·rename_i ms' S2 hr;obtain⟨iC,s2,v1,v2,v3⟩:=MM w2 h2 (hl.drop _) hr;refine⟨_,s2,by simp only[fw,w1,v1];rfl,?_⟩
   split at hi
   ·rename_i sU;cases hi;subst sU;exact⟨v2,cs,iC,rfl,w3,v3⟩
   ·rename_i sU
    split at hi
    ·cases hi;obtain⟨c0,cs0,rfl,u1,u2⟩:=w3;have:ag=false:=by simpa using sU
     subst this;exact⟨v2,c0,iC,rfl,u1,v3⟩
    ·cases hi
  ·cases hi
theorem xA:∀{cs:List SC} {vs:List C} {l:List SA} {c:Nat} {S S':SS} {s:St} {us:List D} {outs:List A},Rel ρ S s->K6 cs vs->fZ l us=some outs->Loc ρ c us->uD S cs l c=some S'->Rel ρ S' (jM s vs outs)
 |[],vs,l,c,S,S',s,us,outs,h,ha,he,hl,hw=>by
  simp only[K6]at ha;subst ha;cases hw;exact h
 |x::cs,_,l,c,S,S',s,us,outs,h,⟨v,vs,hv,h1,h2⟩,he,hl,hw=>by
  subst hv;rcases h1 with ⟨b,rfl,rfl⟩|⟨n1,n2⟩
  ·cases l with
   |nil=>cases hw
   |cons a l=>
    cases a with
    |val ag l=>cases hw
    |box l0=>
     obtain⟨r,Cq,h3,h4,rfl⟩:=gB he;simp only[k8]at h3;obtain⟨ws,h5,rfl⟩:=ad.1 h3;simp only[uD]at hw;generalize hq:JW (b+500) 0 l0 c S=p at hw;obtain⟨xs,S1⟩:=p;simp only at hw
     obtain⟨iC,s1,w1,w2,w3⟩:=wK h h5 (hl.take _) hq;simp only[jM,w1];exact xA (w2.eO b w3) h2 h4 (hl.drop _) hw
  ·have e1:uD S (x::cs) l c=uD S cs l c:=by
    cases x<;>first|rfl|exact absurd rfl (n1 _ _)
   have e2:jM s (v::vs) outs=jM s vs outs:=by
    cases v<;>first|rfl|exact absurd rfl (n2 _ _)
   rw[e1]at hw;rw[e2];exact xA h h2 he hl hw
def SR.share(r:SR):SR:={r with fz:=true,deep:=r.fl }
def mR(S:SS):List Nat->Option SS
 |[]=>some S
 |r::rs=>match look S.rw r with
  |some x=>mR (S.setRow r x.share) rs
  |none=>none
theorem nF:∀{rs:List Nat} {S S':SS} {s:St},Rel ρ S s->mR S rs=some S'->Rel ρ S' (dH s rs)
 |[],S,S',s,h,hs=>by cases hs;exact h
 |r::rs,S,S',s,h,hs=>by
  simp only[mR]at hs
  split at hs
  ·rename_i x hx;obtain⟨y,h1,es,h2,rfl⟩:=h.rw r x hx;simp only[dH,h1];exact nF (h.setRow r (x:=x.share) (y:=Row.share _) ⟨es,h2,rfl⟩) hs
  ·cases hs
def wh(S:SS):List Nat->SS
 |[]=>S
 |r::rs=>wh (S.cM r) rs
def tR(S:SS):List Nat->SS
 |[]=>S
 |b::bs=>tR {S with bx:=pg S.bx b } bs
theorem uY:∀{rs:List Nat} {S:SS} {s:St},Rel ρ S s->Rel ρ (wh S rs) (ey s rs)
 |[],_,_,h=>h
 |r::rs,_,_,h=>uY (rs:=rs) (h.cM r)
theorem tF:∀{bs:List Nat} {S:SS} {s:St},Rel ρ S s->Rel ρ (tR S bs) (ei s bs)
 |[],_,_,h=>h
 |b::bs,S,s,h=>by
  refine tF (bs:=bs) (S:={S with bx:=pg S.bx b }) (s:={s with bx:=pg s.bx b }) ⟨h.sl,λe xs hl=>?_,h.rw⟩;simp only[dN]at hl ⊢
  split at hl
  ·cases hl
  ·rename_i he;rw[if_neg he];exact h.bx e xs hl
end
end
section
def D9:Nat->List DZ->Bool×List SE
 |_,[]=>(true,[])
 |c,.d::l=>match D9 (c+1) l with
  |(b,pl)=>(b,.v c::pl)
 |c,.row _ _ deep _ _::l=>match D9 (c+1) l with
  |(b,pl)=>(deep && b,pl)
def GN:Nat->List SA->Bool×List SE
 |_,[]=>(true,[])
 |c,a::as=>match D9 c a.l with
  |(b,pl)=>match GN (c+a.n) as with
   |(b',pl')=>(b && b',pl++pl')
def FR:List SA->Bool
 |[]=>true
 | .val _ l::as=>nz l.length 30 && FR as
 | .box _::_=>false
def VG(hint:List Nat)(d:Nat)(RH:List Nat)(b:Bool)(pl:List SE):Bs×Bool:=
 if RH=[] then ([],false) else if b=false then ([],true) else match pl with
  |[]=>([],false)
  |pl=>if hint.contains (1000 * d+pl.length) then ([(.vV,pl)],true) else ([(.pl,pl)],false)
def Y4:List (SB ⊕ List SB)->SC
 |[.inl x]=>.b x
 |[.inr xs]=>.agg xs
 |ms=>.oH ms
def MG(l:List C):C:=match l with|[c]=>c|l=>.oH l
def BJ(hint:List Nat)(S:SS)(cs:List SC)(d:Option Nat)(n:Nat)(v:List SA×List SA):Option (Bs×SS):=
 if FR v.1=true then
  match GN n v.1,GN (n+uU v.1) v.2 with
  |(b1,Iu),(b2,Gu)=>match VG hint (d.getD 0) (xX cs) (b1 && b2) (Iu++Gu) with
   |(bs,shr)=>match (if shr=true then mR S (xX cs) else some S) with
    |some S0=>match uD (tR (wh S0 (qq S cs)) (oR cs)) cs v.2 (n+uU v.1) with
     |some S2=>match VA (d.getD 0) 0 v.1 n S2 with
      |some (ms,S3)=>some (bs,S3.put d ⟨[],Y4 ms⟩)
      |none=>none
     |none=>none
    |none=>none
 else none
section
variable {ρ gx:List D} {S S':SS} {s:St}
theorem yI:∀{l:List DZ} {c:Nat} {us:List D} {vs:List RV} {b:Bool} {pl:List SE},lL l us=some vs->Loc ρ c us->D9 c l=(b,pl)->∃ps,gR ρ pl=some ps/\vs.all RV.closed=(b && cQ ps)
 |[],_,[],_,_,_,he,_,hc=>by cases he;cases hc;exact⟨[],rfl,rfl⟩
 |[],_,_::_,_,_,_,he,_,_=>by cases he
 |_::_,_,[],_,_,_,he,_,_=>by cases he
 |v::l,c,u::us,vs,b,pl,he,hl,hc=>by
  simp only[lL]at he
  split at he
  ·rename_i r hr;obtain⟨dZ,h1,rfl⟩:=ad.1 he;have hu:nth ρ c=some u:=hl 0 u rfl;cases v with
   |d=>
    cases hr;simp only[D9]at hc;generalize hq:D9 (c+1) l=q at hc;obtain⟨b',pl'⟩:=q;cases hc;obtain⟨ps,g1,g2⟩:=yI h1 hl.tail hq;refine⟨u::ps,by simp only[gR,SE.d,hu,g1,aD],?_⟩;rw[bT,g2,mA];simp only[RV.closed];cases D.plain u<;>cases b'<;>simp
   |row k fl deep app fz=>
    simp only[D9]at hc;generalize hq:D9 (c+1) l=q at hc;obtain⟨b',pl'⟩:=q;cases hc;obtain⟨ps,g1,g2⟩:=yI h1 hl.tail hq;refine⟨ps,g1,?_⟩;cases u with
    |list k' sR es=>
     simp only[zO]at hr
     split at hr
     ·cases hr;rw[bT,g2];simp only[RV.closed,fq]
     ·cases hr
    |_=>cases hr
  ·cases he
theorem D8:∀{l:List SA} {c:Nat} {us:List D} {rs:List A} {b:Bool} {pl:List SE},fZ l us=some rs->Loc ρ c us->GN c l=(b,pl)->∃ps,gR ρ pl=some ps/\rs.all A.closed=(b && cQ ps)
 |[],_,[],_,_,_,he,_,hc=>by cases he;cases hc;exact⟨[],rfl,rfl⟩
 |[],_,_::_,_,_,_,he,_,_=>by cases he
 |a::as,c,us,rs,b,pl,he,hl,hc=>by
  obtain⟨r,Cq,h1,h2,rfl⟩:=gB he;simp only[GN]at hc;generalize hq:D9 c a.l=q at hc;obtain⟨b1,Iu⟩:=q;simp only at hc
  generalize Yc:GN (c+a.n) as=q at hc;obtain⟨b2,Gu⟩:=q;cases hc;obtain⟨ps2,g3,g4⟩:=D8 h2 (hl.drop _) Yc;have:∃ps,gR ρ Iu=some ps/\A.closed r=(b1 && cQ ps):=by
   cases a with
   |val ag l=>
    simp only[k8]at h1;obtain⟨vs,h3,rfl⟩:=ad.1 h1;obtain⟨ps,q1,q2⟩:=yI h3 (hl.take _) hq;exact⟨ps,q1,q2⟩
   |box l=>
    simp only[k8]at h1;obtain⟨vs,h3,rfl⟩:=ad.1 h1;obtain⟨ps,q1,q2⟩:=yI h3 (hl.take _) hq;exact⟨ps,q1,q2⟩
  obtain⟨ps,g1,g2⟩:=this;refine⟨ps++ps2,ox g1 g3,?_⟩;rw[bT,g2,g4,uy];cases b1<;>cases b2<;>simp
theorem DM:∀{l:List SA} {us:List D} {rs:List A},fZ l us=some rs->FR l=true->rs.all A.short=true
 |[],[],_,he,_=>by cases he;rfl
 |[],_::_,_,he,_=>by cases he
 | .box _::_,_,_,_,h=>by cases h
 | .val ag l::as,us,rs,he,h=>by
  obtain⟨r,Cq,h1,h2,rfl⟩:=gB he;simp only[FR,ab]at h;simp only[k8]at h1;obtain⟨vs,h3,rfl⟩:=ad.1 h1;have hl:vs.length=l.length:=by
   clear h h1 he h2;generalize us.take (SA.val ag l).n=xs at h3
   induction l generalizing xs vs with
   |nil=>cases xs<;>cases h3;rfl
   |cons v l ih=>
    cases xs with
    |nil=>cases h3
    |cons x xs=>
     simp only[lL]at h3
     split at h3
     ·obtain⟨ys,q1,rfl⟩:=ad.1 h3;simp[ih _ _ q1]
     ·cases h3
  rw[bT,DM h2 h.2,fo];simp only[A.short,hl,h.1]
theorem VH{hint:List Nat}{d:Nat}{RH:List Nat}{b shr:Bool}{pl:List SE}{bs:Bs}{ps τ:List D}(hs:VG hint d RH b pl=(bs,shr))(hb:jq ρ bs=some (ρ++τ))(hp:gR ρ pl=some ps)(h:Rel ρ S s){S0:SS}(h0:(if shr=true then mR S RH else some S)=some S0) :
  Rel ρ S0 (if (b && cQ ps)=true then s else dH s RH):=by
 unfold VG at hs
 split at hs
 ·rename_i hl;subst hl;cases hs;cases h0;split
  ·exact h
  ·exact h
 ·split at hs
  ·rename_i hb0;cases hs;subst hb0;simp only[er,av,if_false];exact nF h h0
  ·rename_i kT;have kT:b=true:=by simpa using kT
   subst kT
   split at hs
   ·cases hs;cases hp;cases h0;exact h
   ·split at hs
    ·cases hs;obtain⟨xs,x,h1,h2,h3⟩:=dG hb;rw[hp]at h1;cases h1;simp only[aJ]at h2
     split at h2
     ·cases h2
     ·rename_i hn;have hn:cQ ps=false:=by simpa using hn
      rw[hn];simp only[iW,av,if_false];exact nF h h0
    ·cases hs;obtain⟨xs,x,h1,h2,h3⟩:=dG hb;rw[hp]at h1;cases h1;simp only[aJ]at h2
     split at h2
     ·rename_i hn;rw[hn];cases h0;exact h
     ·cases h2
theorem Vt{ms:List (SB ⊕ List SB)}{cs:List C}(h:ru ρ ms cs):jQ ρ (Y4 ms) (MG cs):=by
 unfold Y4;split
 ·obtain⟨c,iC,rfl,h1,h2⟩:=h;simp only[ru]at h2;subst h2;exact h1
 ·obtain⟨ds,iC,rfl,h1,h2⟩:=h;simp only[ru]at h2;subst h2;exact⟨ds,rfl,h1⟩
 ·rename_i n1 n2;have:MG cs=.oH cs:=by
   unfold MG;split
   ·rename_i c;cases ms with
    |nil=>simp only[ru]at h;cases h
    |cons m ms=>
     cases m with
     |inl x=>
      obtain⟨c,iC,e,h1,h2⟩:=h;cases e;cases ms with
      |nil=>exact absurd rfl (n1 x)
      |cons m ms=>cases m<;>(obtain⟨_,_,e,_⟩:=h2;cases e)
     |inr x=>
      obtain⟨c,iC,e,h1,h2⟩:=h;cases e;cases ms with
      |nil=>exact absurd rfl (n2 x)
      |cons m ms=>cases m<;>(obtain⟨_,_,e,_⟩:=h2;cases e)
   ·rfl
  rw[this];exact⟨cs,rfl,h⟩
theorem Kp{cf:Cf}{mf:Mf}{jC:List (Nat×lF)}{G:Gf}(hG:TU cf jC G)(h:Rel ρ S s){kn:Gs}(hk:gN ρ kn=some true){hint:List Nat}{n:Nat}(hn:n=ρ.length){d:Option Nat}{f:Nat}{xs:List KX}{cs:List SC}{es:List SE}{i:Nat}{sg:lF}
  (hx:DQ S kn xs=some cs) (ha:ID S cs=some (sg.args,es)) (hi:look jC i=some sg) (hf:sg.f=f) (hd:(iU (qq S cs) && iU (oR cs) && (qq S cs).all (λr=>!(xX cs).contains r))=true)
  {ws us:List D} {j:Nat} (hw:gR ρ es=some ws) (hg:G i ws=some (j,us)) {v:List SA×List SA} (hv:nth sg.res j=some v) {bs:Bs} (hr:BJ hint S cs d n v=some (bs,S')) (hb:jq (ρ++us) bs=some gx) :
  ∃s',kc cf mf s d (.call f xs)=some s'/\Rel gx S' s':=by
 obtain⟨ws',as,q1,q2,q3,q4,q5,q6,q7⟩:=IE h (xw h hk hx) ha;rw[hw]at q1;cases q1;obtain⟨K8,r,v',w1,w2,w3,w4⟩:=hG i sg hi ws j us hg;rw[q3]at w1;cases w1;rw[hv]at w2;cases w2;rw[hf]at w4;obtain⟨rs,outs⟩:=r;unfold u5 at w3
 split at w3
 ·rename_i Cq outs' e1 e2;cases w3;unfold BJ at hr
  split at hr
  ·rename_i hsh;generalize km:GN n v.1=p1 at hr;generalize nO:GN (n+uU v.1) v.2=p2 at hr;obtain⟨b1,Iu⟩:=p1;obtain⟨b2,Gu⟩:=p2;simp only at hr
   generalize Yg:VG hint (d.getD 0) (xX cs) (b1 && b2) (Iu++Gu)=p3 at hr;obtain⟨bs',shr⟩:=p3;simp only at hr
   split at hr
   ·rename_i S0 hS0
    split at hr
    ·rename_i S2 hS2
     split at hr
     ·rename_i ms S3 hS3;cases hr;have Uy:Loc (ρ++us) n us:=by rw[hn];exact Loc.new us
      obtain⟨ps1,t1,t2⟩:=D8 e1 (Uy.take _) km;obtain⟨ps2,t3,t4⟩:=D8 e2 (Uy.drop _) nO;obtain⟨τ,Rc⟩:=nS hb;subst Rc;have hR0:=VH Yg hb (ox t1 t3) (h.mono us) hS0;have ri:(b1 && b2 && cQ (ps1++ps2))=(rs.all A.closed && outs.all A.closed):=by
       rw[t2,t4,uy];cases b1<;>cases b2<;>simp
      rw[ri]at hR0;have hR1:=tF (bs:=oR cs) (uY (rs:=qq S cs) hR0);have hR2:=xA hR1 q7 e2 (Uy.drop _) hS2;obtain⟨l,s4,u1,u2,u3⟩:=MM hR2 e1 (Uy.take _) hS3;refine⟨s4.put d (MG l),?_,(u2.put d (pT.nil (Vt u3))).mono τ⟩;simp only[kc,tT,q2,q4,q5,q6,hd,w4,if_true,DM e1 hsh,u1];rfl
     ·cases hr
    ·cases hr
   ·cases hr
  ·cases hr
 ·cases w3
end
end
section
abbrev SX:=Option (Option Nat)
def Nt:SX->Ex
 |none=>.norm
 |some none=>.ret
 |some (some i)=>.exit i
structure SO where
 x:SX
 S:SS
 m:Nat
 deriving DecidableEq
def B_(o:SO):List SO->Nat×List SO
 |[]=>(0,[o])
 |p::ps=>if o=p then (0,p::ps) else match B_ o ps with
  |(j,qs)=>(j+1,p::qs)
def mW:List SO->List SO->List Nat×List SO
 |[],acc=>([],acc)
 |o::os,acc=>match B_ o acc with
  |(j,jR)=>match mW os jR with
   |(js,aax)=>(j::js,aax)
def H9(f:List Nat)(t:ST):ST:=if f=bE f.length then t else .map f t
def AY(x:SX)(kn:Gs)(S:SS):ST×List SO:=match Nb kn S with
 |(S',es)=>(.leaf 0 es,[⟨x,S',es.length⟩])
def Uh(k:(List SA×List SA)->Option (ST×List SO)):List (List SA×List SA)->List SO->Option (ST×List SO)
 |[],acc=>some (.nil,acc)
 |v::vs,acc=>match k v with
  |some (t,os)=>match mW os acc with
   |(f,Je)=>match Uh k vs Je with
    |some (ts,M6)=>some (.cons (H9 f t) ts,M6)
    |none=>none
  |none=>none
def Bn(gs:Gs):Bs->ST->ST
 |[],t=>t
 |(o,es)::bs,t=>.op gs o es (Bn gs bs t)
def IM:SG:=⟨[(.k (.bool false),true)],.any⟩
def Fits(G:Gf)(t:ST)(outs:List SO)(ρ:List D)(run:Option (Ex×St)):Prop:=
 ∀j σ,dM G t 0 ρ=some (j,σ)->∃o s',nth outs j=some o/\run=some (Nt o.x,s')/\σ.length=o.m/\Rel σ o.S s'
theorem yF(o:SO):∀{l l':List SO} {j:Nat},B_ o l=(j,l')->nth l' j=some o/\∀i x,nth l i=some x->nth l' i=some x
 |[],l',j,h=>by cases h;exact⟨rfl,λi x hx=>by cases hx⟩
 |p::ps,l',j,h=>by
  simp only[B_]at h
  split at h
  ·rename_i he;cases h;subst he;exact⟨rfl,λ_ _ hx=>hx⟩
  ·generalize hq:B_ o ps=q at h;obtain⟨j',qs⟩:=q;cases h;obtain⟨h1,h2⟩:=yF o hq;refine⟨h1,λi x hx=>?_⟩;cases i with
   |zero=>exact hx
   |succ i=>exact h2 i x hx
theorem nH:∀{os acc jR:List SO} {js:List Nat},mW os acc=(js,jR)->(∀i o,nth os i=some o->∃j,nth js i=some j/\nth jR j=some o)/\∀i x,nth acc i=some x->nth jR i=some x
 |[],acc,jR,js,h=>by cases h;exact⟨λi o ho=>(by cases ho),λ_ _ hx=>hx⟩
 |o::os,acc,jR,js,h=>by
  simp only[mW]at h;generalize hq:B_ o acc=q at h;obtain⟨j,Je⟩:=q;simp only at h
  generalize Yc:mW os Je=q at h;obtain⟨js',M6⟩:=q;cases h;obtain⟨h1,h2⟩:=yF o hq;obtain⟨h3,h4⟩:=nH Yc;refine⟨λi p hp=>?_,λi x hx=>h4 i x (h2 i x hx)⟩;cases i with
  |zero=>
   cases hp;exact⟨j,rfl,h4 j _ h1⟩
  |succ i=>exact h3 i p hp
theorem Oq:∀{n i:Nat},i < n->nth (bE n) i=some i:=by
 intro n i h;rw[cU];simp[h]
theorem xb{α:Type}:∀{l:List α} {i:Nat} {x:α},nth l i=some x->i < l.length
 |_::_,0,_,_=>by simp
 |_::l,i+1,x,h=>by simpa using xb (l:=l) h
 |[],_,_,h=>by simp[nth]at h
section
variable {G:Gf} {ρ:List D} {run:Option (Ex×St)}
theorem Fits.map{t:ST}{outs outs':List SO}{f:List Nat}(h:Fits G t outs ρ run)(hf:∀i o,nth outs i=some o->∃j,nth f i=some j/\nth outs' j=some o):Fits G (H9 f t) outs' ρ run:=by
 intro j σ hd;unfold H9 at hd
 split at hd
 ·rename_i hr;obtain⟨o,s',h1,h2,h3,h4⟩:=h j σ hd;obtain⟨j',q1,q2⟩:=hf j o h1;have hb:=xb q1;rw[hr,Oq hb]at q1;cases q1;exact⟨o,s',q2,h2,h3,h4⟩
 ·simp only[dM]at hd
  split at hd
  ·rename_i j0 σ0 h0;obtain⟨j1,h1,h2⟩:=ad.1 hd;simp only[ak]at h2;obtain⟨rfl,rfl⟩:=h2;obtain⟨o,s',g1,g2,g3,g4⟩:=h j0 σ0 h0;obtain⟨j',q1,q2⟩:=hf j0 o g1;rw[h1]at q1;cases q1;exact⟨o,s',q2,g2,g3,g4⟩
  ·cases hd
theorem Fits.more{t:ST}{outs outs':List SO}(h:Fits G t outs ρ run)(hf:∀i o,nth outs i=some o->nth outs' i=some o):Fits G t outs' ρ run:=λj σ hd=>by
 obtain⟨o,s',h1,h2⟩:=h j σ hd;exact⟨o,s',hf j o h1,h2⟩
theorem rY{x:SX}{kn:Gs}{S:SS}{s:St}{t:ST}{outs:List SO}(h:Rel ρ S s)(hk:gN ρ kn=some true)(hl:AY x kn S=(t,outs)):Fits G t outs ρ (some (Nt x,s)):=by
 intro j σ hd;unfold AY at hl;generalize hq:Nb kn S=q at hl;obtain⟨S',es⟩:=q;cases hl;simp only[dM]at hd
 split at hd
 ·rename_i xs hx;cases hd;exact⟨_,s,rfl,rfl,ju hx,Ld h hk hq hx⟩
 ·cases hd
theorem zb{gs:Gs}:∀{bs:Bs} {t:ST} {ρ:List D} {r:Nat×List D} {b:Bool},gN ρ gs=some b->dM G (Bn gs bs t) 0 ρ=some r->∃τ,τ.length=bs.length/\dM G t 0 (ρ++τ)=some r/\(b=true->jq ρ bs=some (ρ++τ))
 |[],t,ρ,r,b,hg,h=>⟨[],rfl,by rw[aG];exact h,λ_=>by simp[jq]⟩
 |(o,es)::bs,t,ρ,r,b,hg,h=>by
  simp only[Bn,dM,hg]at h;cases b with
  |true=>
   simp only at h
   split at h
   ·rename_i xs hx
    split at h
    ·rename_i x ho;obtain⟨τ,h1,h2,h3⟩:=zb (jI [x] hg) h;refine⟨x::τ,by simp[h1],by simpa using h2,λ_=>?_⟩;simp only[jq,hx,ho]
     simpa using h3 rfl
    ·cases h
   ·cases h
  |false=>
   simp only at h
   obtain⟨τ,h1,h2,h3⟩:=zb (jI [.bool false] hg) h;exact⟨.bool false::τ,by simp[h1],by simpa using h2,λh=>by cases h⟩
theorem Eh{cf:Cf}{mf:Mf}{S:SS}{s:St}(h:Rel ρ S s){d:Option Nat}{op:KO}{g:Nat}{w:Bool}{vS:Gs}{e:SE}(hl:look S.sl g=some ⟨vS,.b (.d e)⟩){b:Bool}(hb:gN ρ (vS++[(e,w)])=some b) :
  rh cf mf s ⟨d,op,some (g,w)⟩=if b=true then yn cf mf s d op else some (s.put d .qZ):=by
 obtain⟨b0,h1,h2,h3⟩:=h.sl g _ hl;have app:∀{gs:Gs} {c:Bool},gN ρ gs=some c->gN ρ (gs++[(e,w)])=if c=true then gN ρ [(e,w)] else some false:=by
  intro gs
  induction gs with
  |nil=>intro c hc;cases hc;rfl
  |cons p gs ih=>
   intro c hc;obtain⟨a,v⟩:=p;simp only[gN,ai]at hc ⊢
   split at hc
   ·split at hc
    ·rename_i hv;rw[if_pos hv];exact ih hc
    ·rename_i hv;rw[if_neg hv];cases hc;rfl
   ·cases hc
 rw[app h1]at hb;cases b0 with
 |false=>
  simp only[av,if_false]at hb;cases hb;simp only[rh,h3 rfl,av,if_false]
 |true=>
  simp only[if_true]at hb;obtain⟨x,q1,q2⟩:=h2 rfl;simp only[gN,q1]at hb
  split at hb
  ·rename_i t ht;cases ht;simp only[rh,q2]
   split at hb
   ·rename_i hw;cases hb;rw[if_pos hw,if_pos rfl]
   ·rename_i hw;cases hb;rw[if_neg hw,if_neg (by simp)]
  ·cases hb
theorem KY{c:C}(h:c=.qZ):pT ρ IM c:=⟨false,rfl,λh=>(by cases h),λ_=>h⟩
theorem tY{gs hs:Gs}(h:gN ρ gs=some true)(h':gN ρ hs=some true):gN ρ (gs++hs)=some true:=C4 λp hp=>by
 rcases aM.1 hp with hp|hp
 ·exact lP h p hp
 ·exact lP h' p hp
theorem Ae:∀{gs:Gs},gN ρ gs=some false->∃p∈gs,p.1.d ρ=some (.bool (!p.2))
 |[],h=>by cases h
 |(g,w)::gs,h=>by
  simp only[gN]at h
  split at h
  ·rename_i b hb
   split at h
   ·obtain⟨p,h1,h2⟩:=Ae h;exact⟨p,cz _ h1,h2⟩
   ·rename_i hw;refine⟨(g,w),eu,?_⟩;rw[hb];cases b<;>cases w<;>simp_all
  ·cases h
end
end
section
def Lv(f:Nat)(as:List SA):List (Nat×lF)->Option Nat
 |[]=>none
 |(i,sg)::l=>if sg.f=f/\sg.args=as then some i else Lv f as l
def BK(hint:List Nat)(jC:List (Nat×lF))(S:SS)(kn:Gs)(n:Nat)(d:Option Nat)(op:KO)(k:SS->Nat->Option (ST×List SO)):Option (ST×List SO):=
 match op with
 | .call f xs=>match DQ S kn xs with
  |some cs=>match ID S cs with
   |some (as,es)=>match Lv f as jC with
    |some i=>match look jC i with
     |some sg=>if sg.f=f/\sg.args=as/\(iU (qq S cs) && iU (oR cs) && (qq S cs).all (λr=>!(xX cs).contains r))=true then
       (match Uh (λv=>match BJ hint S cs d n v with
        |some (bs,S')=>match k S' (n+(uU v.1+uU v.2)+bs.length) with
         |some (t,outs)=>some (Bn [] bs t,outs)
         |none=>none
        |none=>none) sg.res []with
       |some (ts,outs)=>some (.call i es ts,outs)
       |none=>none) else none
     |none=>none
    |none=>none
   |none=>none
  |none=>none
 |op=>match oc hint S kn n d op with
  |some (bs,S')=>match k S' (n+bs.length) with
   |some (t,outs)=>some (Bn [] bs t,outs)
   |none=>none
  |none=>none
def IB(hint:List Nat)(jC:List (Nat×lF))(S:SS)(kn:Gs)(n:Nat)(d:Option Nat)(op:KO)(k:SS->Nat->Option (ST×List SO)):Option (ST×List SO):=
 if op.ji=true then (match VR S kn n op with
  |some (bs,c)=>match k (S.put d ⟨[],c⟩) (n+bs.length) with
   |some (t,outs)=>some (Bn [] bs t,outs)
   |none=>none
  |none=>none) else BK hint jC S kn n d op k
def W6(S:SS)(gs:Gs):Bool:=(S.sl.take 3).any λp=>match look S.sl p.1 with
 |some g=>decide (g.gs=gs)
 |none=>false
def full(S:SS)(gs:Gs)(bs:Bs):Bs:=match bs with
 |[]=>if W6 S gs=true then [] else [(.pl,[])]
 |bs=>bs
def BE(k1 k0:Gs->Option (ST×List SO)):Gs->Gs->Option (ST×List SO)
 |[],kn=>k1 kn
 |p::ps,kn=>if p∈kn then BE k1 k0 ps kn else match BE k1 k0 ps (p::kn),k0 ((p.1,!p.2)::kn) with
  |some (ta,oa),some (tb,ob)=>match mW ob oa with
   |(f,outs)=>some (.gd [p] ta (H9 f tb),outs)
  |_,_=>none
def Kq(hint:List Nat)(jC:List (Nat×lF))(S:SS)(kn:Gs)(n:Nat)(i:KI)(k:SS->Gs->Nat->Option (ST×List SO)):Option (ST×List SO):=
 match i with
 |⟨d,op,none⟩=>IB hint jC S kn n d op (λS' n'=>k S' kn n')
 |⟨d,op,some (g,w)⟩=>match look S.sl g with
  |some ⟨vS,.b (.d e)⟩=>
   if (vS++[(e,w)]).all (λp=>decide (p∈kn))=true then IB hint jC S kn n d op (λS' n'=>k S' kn n')
   else if (vS++[(e,w)]).any (λp=>decide ((p.1,!p.2)∈kn))=true then k (S.put d IM) kn n
   else if op.ji=true then (match VR S ((vS++[(e,w)])++kn) n op with
    |some (bs,c)=>match k (S.put d ⟨vS++[(e,w)],c⟩) kn (n+(full S (vS++[(e,w)]) bs).length) with
     |some (t,outs)=>some (Bn (vS++[(e,w)]) (full S (vS++[(e,w)]) bs) t,outs)
     |none=>none
    |none=>none)
   else BE (λAw=>IB hint jC S Aw n d op (λS' n'=>k S' Aw n')) (λAw=>k (S.put d IM) Aw n) (vS++[(e,w)]) kn
  |some ⟨vS,.any⟩=>if vS=IM.gs then k (S.put d IM) kn n else none
  |_=>none
def BL(hint:List Nat)(jC:List (Nat×lF))(kp:j6):List KI->SS->Gs->Nat->Option (ST×List SO)
 |[],S,kn,n=>some (AY none kn (S.cH kp))
 |i::is,S,kn,n=>Kq hint jC S kn n i (λS' Aw n'=>BL hint jC kp is S' Aw n')
section
variable {ρ:List D} {S:SS} {s:St} {G:Gf} {cf:Cf} {mf:Mf} {jC:List (Nat×lF)} {hint:List Nat} {n:Nat} {d:Option Nat} {kn:Gs}
theorem nA:∀{l:List SA} {us:List D} {rs:List A},fZ l us=some rs->us.length=uU l
 |[],[],_,_=>rfl
 |[],_::_,_,h=>by cases h
 |a::as,us,rs,h=>by
  obtain⟨r,Cq,h1,h2,rfl⟩:=gB h;have h3:=nA h2;have h4:(us.take a.n).length=a.n:=by
   cases a with
   |val ag l=>simp only[k8]at h1;obtain⟨vs,h5,_⟩:=ad.1 h1;exact lO h5
   |box l=>simp only[k8]at h1;obtain⟨vs,h5,_⟩:=ad.1 h1;exact lO h5
  rw[gL]at h3;rw[a_]at h4;simp only[uU];omega
theorem P_{v:List SA×List SA}{us:List D}{r:List A×List A}(h:u5 v us=some r):us.length=uU v.1+uU v.2:=by
 unfold u5 at h
 split at h
 ·rename_i rs outs h1 h2;have h3:=nA h1;have h4:=nA h2;rw[a_]at h3;rw[gL]at h4;omega
 ·cases h
def Pc(G:Gf)(t:ST)(j:Nat)(outs:List SO)(ρ:List D)(run:Option (Ex×St)):Prop:=
 ∀i σ,dM G t j ρ=some (i,σ)->∃o s',nth outs i=some o/\run=some (Nt o.x,s')/\σ.length=o.m/\Rel σ o.S s'
theorem Lq{k:(List SA×List SA)->Option (ST×List SO)}:∀{vs:List (List SA×List SA)} {acc jR:List SO} {ts:ST},Uh k vs acc=some (ts,jR)->
  (∀i x,nth acc i=some x->nth jR i=some x)/\∀j v,nth vs j=some v->∃t os,k v=some (t,os)/\∀run ρ,Fits G t os ρ run->Pc G ts j jR ρ run
 |[],acc,jR,ts,h=>by cases h;exact⟨λ_ _ hx=>hx,λj v hv=>(by cases hv)⟩
 |v::vs,acc,jR,ts,h=>by
  simp only[Uh]at h
  split at h
  ·rename_i t os hk;generalize hq:mW os acc=q at h;obtain⟨f,Je⟩:=q;simp only at h
   split at h
   ·rename_i ts' M6 hf;cases h;obtain⟨h1,h2⟩:=nH hq;obtain⟨h3,h4⟩:=Lq hf;refine⟨λi x hx=>h3 i x (h2 i x hx),λj w hw=>?_⟩;cases j with
    |zero=>
     cases hw;refine⟨t,os,hk,λrun ρ wG i σ hd=>?_⟩;have:=wG.map (f:=f) (outs':=jR) (λi o ho=>by obtain⟨j,q1,q2⟩:=h1 i o ho;exact⟨j,q1,h3 j o q2⟩);exact this i σ hd
    |succ j=>
     obtain⟨t',YR,g1,g2⟩:=h4 j w hw;exact⟨t',YR,g1,λrun ρ wG i σ hd=>g2 run ρ wG i σ hd⟩
   ·cases h
  ·cases h
theorem xg{bs:Bs}{t:ST}{outs:List SO}{run:Option (Ex×St)}(h:∀gx,jq ρ bs=some gx->Fits G t outs gx run):Fits G (Bn [] bs t) outs ρ run:=by
 intro j σ hd;obtain⟨τ,h1,h2,h3⟩:=zb (gs:=[]) rfl hd;exact h _ (h3 rfl) j σ h2
theorem IF(hG:TU cf jC G)(h:Rel ρ S s)(hk:gN ρ kn=some true)(hn:n=ρ.length){op:KO}{k:SS->Nat->Option (ST×List SO)}{t:ST}{outs:List SO}{run:St->Option (Ex×St)}
  (hc:∀S' gx s' t outs,Rel gx S' s'->gN gx kn=some true->k S' gx.length=some (t,outs)->Fits G t outs gx (run s')) (hs:BK hint jC S kn n d op k=some (t,outs)) :
  op.ji=false/\Fits G t outs ρ ((kc cf mf s d op).bind run):=by
 unfold BK at hs
 split at hs
 ·rename_i f xs;refine⟨rfl,?_⟩
  split at hs
  ·rename_i cs hx
   split at hs
   ·rename_i as es ha
    split at hs
    ·rename_i i hi
     split at hs
     ·rename_i sg hl
      split at hs
      ·rename_i hq;obtain⟨rfl,rfl,hd⟩:=hq
       split at hs
       ·rename_i ts outs' hf;cases hs;obtain⟨_,h2⟩:=Lq (G:=G) hf;intro j σ Nx;simp only[dM]at Nx
        split at Nx
        ·rename_i ws hw
         split at Nx
         ·rename_i j0 us hg;obtain⟨as,r,v,w1,w2,w3,w4⟩:=hG i sg hl ws j0 us hg;obtain⟨t,os,g1,g2⟩:=h2 j0 v w2
          split at g1
          ·rename_i bs S' hr
           split at g1
           ·rename_i t' YR Ck;cases g1;refine g2 _ (ρ++us) ?_ j σ Nx;refine xg λgx hb=>?_;obtain⟨s',e1,e2⟩:=Kp (cf:=cf) (mf:=mf) hG h hk hn hx ha hl rfl hd hw hg w2 hr hb;rw[e1];obtain⟨τ,Rc⟩:=nS hb;refine hc S' gx s' _ _ e2 (by rw[Rc,bh];exact jI _ hk) ?_;rw[sE hb,aL,<- hn,P_ w3];exact Ck
           ·cases g1
          ·cases g1
         ·cases Nx
        ·cases Nx
       ·cases hs
      ·cases hs
     ·cases hs
    ·cases hs
   ·cases hs
  ·cases hs
 ·split at hs
  ·rename_i bs S' hN
   split at hs
   ·rename_i t' outs' Ck;cases hs;have hp:∀gx,jq ρ bs=some gx->op.ji=false/\∃s',kc cf mf s d op=some s'/\Rel gx S' s':=λgx hb=>Ku h hk hn hN hb;refine⟨(by cases op<;>first|rfl|cases hN),xg λgx hb=>?_⟩;obtain⟨_,s',e1,e2⟩:=hp gx hb;rw[e1];obtain⟨τ,Rc⟩:=nS hb;refine hc S' gx s' _ _ e2 (by rw[Rc];exact jI _ hk) ?_;rw[sE hb,<- hn];exact Ck
   ·cases hs
  ·cases hs
theorem BH(hG:TU cf jC G)(h:Rel ρ S s)(hk:gN ρ kn=some true)(hn:n=ρ.length){op:KO}{k:SS->Nat->Option (ST×List SO)}{t:ST}{outs:List SO}{run:St->Option (Ex×St)}
  (hc:∀S' gx s' t outs,Rel gx S' s'->gN gx kn=some true->k S' gx.length=some (t,outs)->Fits G t outs gx (run s')) (hs:IB hint jC S kn n d op k=some (t,outs)) :
  Fits G t outs ρ ((yn cf mf s d op).bind run):=by
 unfold IB at hs
 split at hs
 ·rename_i hp
  split at hs
  ·rename_i bs c hP
   split at hs
   ·rename_i t' outs' Ck;cases hs;refine xg λgx hb=>?_;obtain⟨v,e1,e2⟩:=BM h hk hn hP hb;obtain⟨τ,Rc⟩:=nS hb;simp only[yn,hp,if_true,e1,aD,cO];refine hc _ gx _ _ _ ((Rc▸h.mono τ:Rel gx S s).put d (pT.nil e2)) (by rw[Rc];exact jI _ hk) ?_;rw[sE hb,<- hn];exact Ck
   ·cases hs
  ·cases hs
 ·rename_i hp;obtain⟨h1,h2⟩:=IF (mf:=mf) hG h hk hn hc hs;simp only[yn,h1,av,if_false];exact h2
theorem QI{gs:Gs}{bs:Bs}{gx:List D}(h:jq ρ (full S gs bs)=some gx):∃τ,gx=ρ++τ/\∃O5 OR,jq ρ bs=some O5/\gx=O5++OR:=by
 obtain⟨τ,Rc⟩:=nS h;refine⟨τ,Rc,?_⟩;cases bs with
 |nil=>exact⟨ρ,τ,rfl,Rc⟩
 |cons b bs=>exact⟨gx,[],h,by simp⟩
theorem Sn(h:Rel ρ S s){gs:Gs}(hs:W6 S gs=true):∃b,gN ρ gs=some b:=by
 obtain⟨p,_,hp⟩:=kv.1 hs
 split at hp
 ·rename_i g hl;obtain⟨b,hb,_⟩:=h.sl _ g hl;exact⟨b,(of_decide_eq_true hp)▸hb⟩
 ·cases hp
theorem LA{gs:Gs}{ta tb:ST}{outs:List SO}{run:Option (Ex×St)}(ha:gN ρ gs=some true->Fits G ta outs ρ run)(hb:gN ρ gs=some false->Fits G tb outs ρ run):Fits G (.gd gs ta tb) outs ρ run:=by
 intro j σ hd;simp only[dM]at hd
 split at hd
 ·rename_i h;exact ha h j σ hd
 ·rename_i h;exact hb h j σ hd
 ·cases hd
theorem QO:∀{pre:Gs} {p:SE×Bool} {ps:Gs},gN ρ pre=some true->p.1.d ρ=some (.bool (!p.2))->gN ρ (pre++p::ps)=some false
 |[],p,ps,_,hp=>by
  obtain⟨e,w⟩:=p;simp only[ao,gN]at hp ⊢;rw[hp];cases w<;>rfl
 |(g,v)::pre,p,ps,h,hp=>by
  have hg:=lP h (g,v) (by simp);simp only[ai,gN]at hg h ⊢;rw[hg]at h ⊢;simp only[if_true]at h ⊢;exact QO h hp
theorem xu{k1 k0:Gs->Option (ST×List SO)}{run:Option (Ex×St)}{full_:Gs}(h1:∀Aw {t:ST} {o:List SO},gN ρ Aw=some true->gN ρ full_=some true->k1 Aw=some (t,o)->Fits G t o ρ run)
  (h0:∀Aw {t:ST} {o:List SO},gN ρ Aw=some true->gN ρ full_=some false->k0 Aw=some (t,o)->Fits G t o ρ run):∀{gs pre kn:Gs} {t:ST} {outs:List SO},full_=pre++gs->gN ρ pre=some true->gN ρ kn=some true->BE k1 k0 gs kn=some (t,outs)->Fits G t outs ρ run
 |[],pre,kn,t,outs,hf,hp,hk,hs=>h1 kn hk (by rw[hf,aG];exact hp) hs
 |p::ps,pre,kn,t,outs,hf,hp,hk,hs=>by
  have hf':full_=(pre++[p])++ps:=by rw[hf];simp
  simp only[BE]at hs
  split at hs
  ·rename_i hm;exact xu h1 h0 hf' (tY hp (C4 λq hq=>by simp only[ct]at hq;subst hq;exact lP hk _ hm)) hk hs
  ·split at hs
   ·rename_i ta oa tb ob hA hB;generalize hq:mW ob oa=q at hs;obtain⟨f,outs'⟩:=q;cases hs;obtain⟨q1,q2⟩:=nH hq;refine LA (λhg=>?_) λhg=>?_
    ·exact (xu h1 h0 hf' (tY hp hg) (tY (gs:=[p]) hg hk) hA).more q2
    ·obtain⟨r,hr,he⟩:=Ae hg;simp only[ct]at hr;subst hr;exact Fits.map (h0 _ (tY (gs:=[(r.1,!r.2)]) (C4 λq hq=>by simp only[ct]at hq;subst hq;exact he) hk) (by rw[hf];exact QO hp he) hB) q1
   ·cases hs
theorem Bo{gs:Gs}{o:PO}{es:List SE}{bs:Bs}{t:ST}{r:Nat×List D}(h:dM G (Bn gs ((o,es)::bs) t) 0 ρ=some r):∃b,gN ρ gs=some b:=by
 simp only[Bn,dM]at h
 split at h
 ·exact⟨_,‹_›⟩
 ·exact⟨_,‹_›⟩
 ·cases h
theorem XI(hr:Rel ρ S s){gs:Gs}{bs:Bs}{t:ST}{r:Nat×List D}(h:dM G (Bn gs (full S gs bs) t) 0 ρ=some r):∃b,gN ρ gs=some b:=by
 cases bs with
 |nil=>
  simp only[full]at h
  split at h
  ·exact Sn hr ‹_›
  ·exact Bo h
 |cons b bs=>exact Bo h
theorem XD{g:Nat}{w:Bool}{op:KO}(h:Rel ρ S s)(hk:gN ρ kn=some true){vS:Gs}{e:SE}(hl:look S.sl g=some ⟨vS,.b (.d e)⟩)(ha:(vS++[(e,w)]).any (λp=>decide ((p.1,!p.2)∈kn))=true) :
  rh cf mf s ⟨d,op,some (g,w)⟩=some (s.put d .qZ):=by
 obtain⟨b0,h1,h2,h3⟩:=h.sl g _ hl;cases b0 with
 |false=>simp only[rh,h3 rfl]
 |true=>
  obtain⟨p,hp,hq⟩:=kv.1 ha;have hn:=lP hk _ (of_decide_eq_true hq);rcases aM.1 hp with hp|hp
  ·have:=lP h1 p hp;simp only at hn
   rw[hn]at this;exact absurd this (by cases p.2<;>simp)
  ·simp only[ct]at hp;subst hp;obtain⟨x,q1,q2⟩:=h2 rfl;simp only at hn
   rw[hn]at q1;cases q1;simp only[rh,q2];rw[if_neg (by cases w<;>simp)]
theorem zj(hG:TU cf jC G)(h:Rel ρ S s)(hk:gN ρ kn=some true){i:KI}{k:SS->Gs->Nat->Option (ST×List SO)}{t:ST}{outs:List SO}{run:St->Option (Ex×St)}
  (cont:∀{Aw:Gs} (S':SS) (gx:List D) (s':St) (t:ST) (outs:List SO),Rel gx S' s'->gN gx Aw=some true->k S' Aw gx.length=some (t,outs)->Fits G t outs gx (run s'))
  (hs:Kq hint jC S kn ρ.length i k=some (t,outs)):Fits G t outs ρ ((rh cf mf s i).bind run):=by
 obtain⟨d,op,gd⟩:=i;cases gd with
 |none=>
  simp only[Kq]at hs;exact BH hG h hk rfl (run:=run) cont hs
 |some gw=>
  obtain⟨g,w⟩:=gw;simp only[Kq]at hs
  split at hs
  ·rename_i vS e hl
   split at hs
   ·rename_i jU;have hg:gN ρ (vS++[(e,w)])=some true:=JI hk jU;rw[Eh h hl hg,if_pos rfl];exact BH hG h hk rfl (run:=run) cont hs
   ·split at hs
    ·rename_i ha;rw[XD h hk hl ha,cO];exact cont _ _ _ _ _ (h.put d (KY rfl)) hk hs
    ·split at hs
     ·rename_i hp
      split at hs
      ·rename_i bs c hP
       split at hs
       ·rename_i t' outs' hr;cases hs;intro j σ hd;obtain⟨b,hg⟩:=XI h hd;obtain⟨τ,h1,h2,h3⟩:=zb hg hd;rw[Eh h hl hg];have hlen:ρ.length+(full S (vS++[(e,w)]) bs).length=(ρ++τ).length:=by rw[aL,h1]
        rw[hlen]at hr;cases b with
        |true=>
         obtain⟨_,_,O5,OR,g1,g2⟩:=QI (h3 rfl);obtain⟨v,e1,e2⟩:=BM h (tY hg hk) rfl hP g1;simp only[yn,hp,if_true,e1,aD,cO];refine cont _ _ _ _ _ ((h.mono τ).put d ?_) (jI τ hk) hr j σ h2;exact⟨true,jI τ hg,λ_=>g2▸e2.mono OR,λh=>(by cases h)⟩
        |false=>
         rw[if_neg (by simp),cO];refine cont _ _ _ _ _ ((h.mono τ).put d ?_) (jI τ hk) hr j σ h2;exact⟨false,jI τ hg,λh=>(by cases h),λ_=>rfl⟩
       ·cases hs
      ·cases hs
     ·refine xu (full_:=vS++[(e,w)]) (λAw _ _ gf hg hA=>?_) (λAw _ _ gf hg hB=>?_) (pre:=[]) rfl rfl hk hs
      ·rw[Eh h hl hg,if_pos rfl];exact BH hG h gf rfl (run:=run) cont hA
      ·rw[Eh h hl hg,if_neg (by simp),cO];exact cont _ _ _ _ _ (h.put d (KY rfl)) gf hB
  ·rename_i vS hl
   split at hs
   ·rename_i hg;obtain⟨b,h1,_,h3⟩:=h.sl g _ hl;rw[hg]at h1;cases h1;have he:rh cf mf s ⟨d,op,some (g,w)⟩=some (s.put d .qZ):=by simp only[rh,h3 rfl]
    rw[he,cO];exact cont _ _ _ _ _ (h.put d (KY rfl)) hk hs
   ·cases hs
  ·cases hs
theorem DP(hG:TU cf jC G){kp:j6}:∀{is:List KI} {S:SS} {kn:Gs} {ρ:List D} {s:St} {t:ST} {outs:List SO},Rel ρ S s->gN ρ kn=some true->BL hint jC kp is S kn ρ.length=some (t,outs)->
  Fits G t outs ρ (YM kp (la cf mf is s))
 |[],S,kn,ρ,s,t,outs,h,hk,hs=>by
  simp only[BL,aa]at hs;exact rY (h.cH kp) hk hs
 |i::is,S,kn,ρ,s,t,outs,h,hk,hs=>by
  have Xo:YM kp (la cf mf (i::is) s)=(rh cf mf s i).bind λs'=>YM kp (la cf mf is s'):=by
   simp only[la];cases rh cf mf s i<;>rfl
  rw[Xo];simp only[BL]at hs;exact zj hG h hk (run:=λs'=>YM kp (la cf mf is s')) (λS' gx s' t outs h' gf pj=>DP hG h' gf pj) hs
end
end
section
def KO.R0:KO->List KX
 | .st _ x y=>[x,y]
 | .na _ _ xs=>xs
 | .app _ _ _ x y=>[x,y]
 | .call _ xs=>xs
 | .J7 _ x _=>[x]
 | .cut _ x _ _=>[x]
 | .xL _ x _=>[x]
 | .jn x _=>[x]
 |_=>[]
def pF(s:St):C->List Nat
 | .ptr b _=>b::rowsOf ((look s.bx b).getD [])
 | .mY r _ _ _=>[r]
 |c=>rowsOf c.cells
theorem sY(s:St)(c:C):∀q∈rowsOf c.cells,q∈pF s c:=by
 intro q h;cases c<;>first|exact h|(simp[C.cells,rowsOf]at h)
theorem vj(s:St)(c:C):∀q∈rowsOf [c],q∈pF s c:=by
 intro q h;cases c<;>first|exact h|(simp[rowsOf]at h)
theorem vi(s:St)(f:C->List Nat)(hf:∀c,∀q∈f c,q∈pF s c)(g:List C->List Nat)(h0:g []=[])(h1:∀c cs,g (c::cs)=f c++g cs):∀(xs:List KX),∀q∈g (xs.map (eW s)),∃x∈xs,q∈pF s (eW s x)
 |[],q,h=>by simp[h0]at h
 |x::xs,q,h=>by
  rw[aQ,h1]at h;rcases aM.1 h with h|h
  ·exact⟨x,by simp,hf _ q h⟩
  ·obtain⟨y,hy,hq⟩:=vi s f hf g h0 h1 xs q h;exact⟨y,by simp[hy],hq⟩
theorem OO(s:St)(d:Option Nat)(op:KO):∀q∈dW s d op,q∈d.toList\/∃x∈op.R0,q∈pF s (eW s x):=by
 intro q h;cases op with
 |st n x y=>
  simp only[dW]at h
  split at h
  ·rename_i b o hx;simp only[ct]at h;exact .inr ⟨x,by simp[KO.R0],by rw[hx];simp[pF,h]⟩
  ·rename_i r k i o hx;rcases ay.1 h with h|h
   ·exact .inr ⟨x,by simp[KO.R0],by rw[hx];simp[pF,h]⟩
   ·exact .inr ⟨y,by simp[KO.R0],sY s _ q h⟩
  ·cases h
 |na k fl xs=>
  simp only[dW]at h;rcases aM.1 h with h|h
  ·exact .inl h
  ·exact .inr (vi s (λc=>rowsOf c.cells) (sY s) vE rfl (λ_ _=>rfl) xs q h)
 |app k by_ fl x y=>
  simp only[dW]at h;rcases aM.1 h with h|h
  ·rcases aM.1 h with h|h
   ·exact .inl h
   ·exact .inr ⟨x,by simp[KO.R0],vj s _ q h⟩
  ·exact .inr ⟨y,by simp[KO.R0],vj s _ q h⟩
 |call f xs=>
  simp only[dW,yG]at h;rcases aM.1 h with h|h
  ·rcases aM.1 h with h|h
   ·refine .inr (vi s (λc=>match c with | .ptr b _=>[b]|_=>[]) (λc q h=>?_) ch rfl (λc cs=>by cases c<;>rfl) xs q h)
    split at h
    ·simp only[ct]at h;simp[pF,h]
    ·cases h
   ·refine .inr (vi s (pK s) (λc q h=>?_) (cI s) rfl (λc cs=>rfl) xs q h);unfold pK at h
    split at h
    ·simp only[pF,ay];exact .inr h
    ·cases h
  ·exact .inr (vi s (λc=>rowsOf c.cells) (sY s) gZ rfl (λ_ _=>rfl) xs q h)
 |J7 f x y=>simp only[dW]at h;exact .inr ⟨x,by simp[KO.R0],sY s _ q h⟩
 |cut k x lo hi=>
  simp only[dW]at h;rcases aM.1 h with h|h
  ·exact .inl h
  ·exact .inr ⟨x,by simp[KO.R0],vj s _ q h⟩
 |xL k x y=>
  simp only[dW]at h;rcases aM.1 h with h|h
  ·exact .inl h
  ·exact .inr ⟨x,by simp[KO.R0],vj s _ q h⟩
 |jn x y=>
  simp only[dW]at h;rcases aM.1 h with h|h
  ·exact .inl h
  ·exact .inr ⟨x,by simp[KO.R0],vj s _ q h⟩
 |_=>exact .inl h
def NN(S:SS):SC->Option (List Nat)
 | .b x=>if x.cell=true then some (ft [x]) else none
 | .agg xs=>if xs.all SB.cell=true then some (ft xs) else none
 | .ptr b _=>match look S.bx b with
  |some xs=>if xs.all SB.cell=true then some (b::ft xs) else none
  |none=>none
 | .mY r _ _ _=>some [r]
 | .qJ _ _=>some []
 | .oH _=>some []
 | .any=>none
def UI(S:SS):KX->Option (List Nat)
 | .s d=>match look S.sl d with
  |some g=>if g.gs=IM.gs then some [] else NN S g.c
  |none=>none
 |x=>match eR S [] x with
  |some c=>NN S c
  |none=>none
def AX(S:SS)(gs:Gs):KO->Option (Option Nat)
 | .ld _ x=>match eR S gs x with
  |some (.ptr b _)=>some (some b)
  |some (.qJ _ _)=>some none
  |_=>none
 | .yk _=>none
 |_=>some none
def JZ(S:SS)(kn:Gs)(i:KI):Option (Option Nat):=
 match i.gd with
 |none=>AX S kn i.op
 |some (g,w)=>match look S.sl g with
  |some ⟨vS,.b (.d e)⟩=>if (vS++[(e,w)]).any (λp=>decide ((p.1,!p.2)∈kn))=true then some none else AX S ((vS++[(e,w)])++kn) i.op
  |some ⟨vS,.any⟩=>if vS=IM.gs then some none else none
  |_=>none
def Vh(S:SS)(tk:List (List Nat×Nat))(i:KI):Bool:=
 tk.all (λp=>!(i.dst ==some p.2)) && i.op.R0.all λx=>match UI S x with
  |some l=>tk.all λp=>!l.contains p.2
  |none=>tk.isEmpty
def SB.uH:SB->Bool
 | .any=>false
 |_=>true
def Nl:List (SB ⊕ List SB)->Bool
 |[]=>true
 | .inl x::xs=>x.uH && Nl xs
 | .inr l::xs=>l.all SB.uH && Nl xs
def SC.uH:SC->Bool
 | .b x=>x.uH
 | .agg xs=>xs.all SB.uH
 | .oH xs=>Nl xs
 | .any=>false
 |_=>true
def Xu(kp:j6)(S:SS):Bool:=
 kp.s.all (λd=>match look S.sl d with
  |some g=>g.c.uH ||decide (g.gs=IM.gs)
  |none=>false) && kp.b.all (λb=>match look S.bx b with
  |some xs=>xs.all SB.uH
  |none=>false) && kp.r.all λr=>(look S.rw r).isSome
def vH(hint:List Nat)(jC:List (Nat×lF))(kp:j6):KT->List (List Nat×Nat)->SS->Gs->Nat->Option (ST×List SO)
 | .nil,_,S,kn,n=>some (AY none kn (S.cH kp))
 | .alt ⟨j,_,_,_,i⟩ is r,tk,S,kn,n=>
  if Vh S (iq j tk) i=true then (match Kq hint jC S kn n i (λS' Aw n'=>
    if (iq j tk).all (λp=>(look S'.bx p.2).isSome)=true then vH hint jC kp is (iq j tk) S' Aw n' else none),vH hint jC kp r tk S kn n with
   |some (ta,oa),some (tb,ob)=>match mW ob oa with
    |(f,outs)=>if outs.all (λo=>Xu kp o.S)=true then some (.both ta (H9 f tb),outs) else none
   |_,_=>none) else none
 | .op ⟨j,q,al,dn,i⟩ is,tk,S,kn,n=>
  if q=true then (if i.op.ji=true then (match JZ S kn i with
   |some b=>Kq hint jC S kn n i (λS' Aw n'=>vH hint jC kp is (mC dn tk b) S' Aw n')
   |none=>none) else none)
  else if Vh S (iq j tk) i=true then Kq hint jC S kn n i (λS' Aw n'=>
   if (iq j tk).all (λp=>(look S'.bx p.2).isSome)=true then vH hint jC kp is (iq j tk) S' Aw n' else none) else none
section
variable {ρ:List D} {S:SS} {s:St} {G:Gf} {cf:Cf} {mf:Mf} {jC:List (Nat×lF)} {hint:List Nat} {n:Nat} {d:Option Nat} {kn:Gs}
theorem LM(h:Rel ρ S s){c:SC}{v:C}{l:List Nat}(hc:jQ ρ c v)(hl:NN S c=some l):∀q∈pF s v,q∈l:=by
 intro q hq;cases c with
 |b x=>
  simp only[NN]at hl
  split at hl
  ·rename_i hx;cases hl;cases x with
   |d e=>obtain⟨y,_,rfl⟩:=hc;simp[pF,C.cells,rowsOf]at hq
   |nil k fl=>simp only[jQ,iY]at hc;subst hc;simp[pF,C.cells,rowsOf]at hq
   |ref r=>simp only[jQ,iY]at hc;subst hc;simpa [pF,C.cells,rowsOf,ft] using hq
   |any=>cases hx
  ·cases hl
 |agg xs=>
  simp only[NN]at hl
  split at hl
  ·rename_i hx;cases hl;obtain⟨cs,rfl,h1⟩:=hc;simp only[pF,C.cells]at hq
   rwa [ma h1 hx]at hq
  ·cases hl
 |oH xs=>obtain⟨cs,rfl,h1⟩:=hc;simp[pF,C.cells,rowsOf]at hq
 |ptr b o=>
  simp only[jQ]at hc;subst hc;simp only[NN]at hl
  split at hl
  ·rename_i xs hb
   split at hl
   ·rename_i hx;cases hl;obtain⟨cs,h1,h2⟩:=h.bx b xs hb;simp only[pF,h1,mH]at hq
    rwa [ma h2 hx]at hq
   ·cases hl
  ·cases hl
 |mY r k i o=>
  obtain⟨m,_,rfl⟩:=hc;cases hl;exact hq
 |qJ i o=>
  obtain⟨x,cs,_,_,rfl⟩:=hc;simp[pF,C.cells,rowsOf]at hq
 |any=>cases hl
theorem UJ(h:Rel ρ S s){x:KX}{l:List Nat}(hl:UI S x=some l):∀q∈pF s (eW s x),q∈l:=by
 cases x with
 |s d=>
  simp only[UI]at hl
  split at hl
  ·rename_i g hg;obtain⟨b,h1,h2,h3⟩:=h.sl d g hg
   split at hl
   ·rename_i hu;rw[hu]at h1;cases h1;intro q hq;simp only[eW,h3 rfl,pF,C.cells,rowsOf]at hq;cases hq
   ·cases b with
    |true=>exact LM h (h2 rfl) hl
    |false=>
     intro q hq;simp only[eW,h3 rfl,pF,C.cells,rowsOf]at hq;cases hq
  ·cases hl
 |k c=>
  simp only[UI]at hl
  split at hl
  ·rename_i c' hc;exact LM h (cj h (gs:=[]) rfl hc) hl
  ·cases hl
theorem Mz(h:Rel ρ S s){KK:List (List Nat×Nat)}{i:KI}(ho:Vh S KK i=true):∀p∈KK,(!(dW s i.dst i.op).contains p.2)=true/\(!(i.dst ==some p.2))=true:=by
 intro p hp;simp only[Vh,ab,aS]at ho;obtain⟨h1,h2⟩:=ho;refine⟨?_,h1 p hp⟩;rw[cq,cT];intro hc;rcases OO s i.dst i.op p.2 (by simpa using hc) with hd|⟨x,hx,hq⟩
 ·have:=h1 p hp;cases hi:i.dst with
  |none=>rw[hi]at hd;simp at hd
  |some a=>rw[hi]at hd this;simp at hd;simp[hd]at this
 ·have:=h2 x hx
  split at this
  ·rename_i l hl;have h3:=aS.1 this p hp;have h4:=UJ h hl _ hq;simp[h4]at h3
  ·cases KK with
   |nil=>cases hp
   |cons a b=>cases this
theorem Of(h:Rel ρ S s){gs:Gs}(hg:gN ρ gs=some true){op:KO}{b:Option Nat}(hl:AX S gs op=some b):m_ s op=some b:=by
 cases op with
 |ld n x=>
  simp only[AX]at hl
  split at hl
  ·rename_i b' o hx;cases hl;have:=cj h hg hx;simp only[jQ]at this;simp only[m_,this]
  ·rename_i i o hx;cases hl;obtain⟨x,cs,_,_,e⟩:=cj h hg hx;simp only[m_,e]
  ·cases hl
 |yk x=>cases hl
 |_=>exact hl
theorem R9(h:Rel ρ S s)(hk:gN ρ kn=some true){kp:j6}{j:Nat}{al dn:List Nat}{i:KI}{is:KT}{tk:List (List Nat×Nat)}{b:Option Nat}(hp:i.op.ji=true)(hb:JZ S kn i=some b) :
  ∃tk',(∀p∈tk',p∈mC dn tk b)/\eJ cf mf kp (.op ⟨j,true,al,dn,i⟩ is) tk s=(rh cf mf s i).bind (eJ cf mf kp is tk'):=by
 have ub:∀p∈tk,p∈mC dn tk b:=by
  intro p hp;unfold mC;split
  ·exact cz _ hp
  ·exact hp
 have now:∀{gs:Gs},gN ρ gs=some true->AX S gs i.op=some b->(match gG s i.op,m_ s i.op with
   |some c,some b=>eJ cf mf kp is (mC dn tk b) (s.put i.dst c)
   |_,_=>none)=(yn cf mf s i.dst i.op).bind (eJ cf mf kp is (mC dn tk b)):=by
  intro gs hg hl;rw[Of h hg hl];simp only[yn,hp,if_true];cases gG s i.op<;>rfl
 obtain⟨d,op,gd⟩:=i;cases gd with
 |none=>
  refine⟨_,λp hp=>hp,?_⟩;simp only[eJ,if_true,rh];exact now hk hb
 |some gw=>
  obtain⟨g,w⟩:=gw;simp only[JZ]at hb;simp only[eJ,if_true,rh];cases hc:s.get g with
  |d x=>
   cases x with
   |bool t=>
    simp only
    by_cases ht:t=w
    ·subst ht;simp only[if_true];refine⟨_,λp hp=>hp,?_⟩
     split at hb
     ·rename_i vS e hl;obtain⟨b0,h1,h2,h3⟩:=h.sl g _ hl;cases b0 with
      |false=>rw[h3 rfl]at hc;cases hc
      |true=>
       obtain⟨x,q1,q2⟩:=h2 rfl;rw[hc]at q2;cases q2;have hg:=tY h1 (C4 (gs:=[(e,t)]) λq hq=>by simp only[ct]at hq;subst hq;exact q1)
       split at hb
       ·rename_i ha;obtain⟨p,hp,hq⟩:=kv.1 ha;have x1:=lP hg p hp;have x2:=lP hk _ (of_decide_eq_true hq);simp only[x1]at x2;exact absurd x2 (by cases p.2<;>simp)
       ·exact now (tY hg hk) hb
     ·rename_i vS hl
      split at hb
      ·rename_i hu;obtain⟨b0,h1,_,h3⟩:=h.sl g _ hl;rw[hu]at h1;cases h1;rw[h3 rfl]at hc;cases hc
      ·cases hb
     ·cases hb
    ·simp only[if_neg ht,cO];exact⟨tk,ub,rfl⟩
   |_=>exact⟨tk,ub,rfl⟩
  |qZ=>simp only[cO];exact⟨tk,ub,rfl⟩
  |_=>exact⟨tk,ub,rfl⟩
theorem tm{j:Nat}{tk KK:List (List Nat×Nat)}(h:∀p∈tk,p∈KK):∀p∈iq j tk,p∈iq j KK:=λp hp=>by
 obtain⟨h1,h2⟩:=List.mem_filter.1 hp;exact List.mem_filter.2 ⟨h p h1,h2⟩
theorem OK{dn:List Nat}{b:Option Nat}{tk KK:List (List Nat×Nat)}(h:∀p∈tk,p∈KK):∀p∈mC dn tk b,p∈mC dn KK b:=λp hp=>by
 cases b with
 |none=>exact h p hp
 |some b=>
  rcases ay.1 hp with hp|hp
  ·exact hp▸eu
  ·exact cz _ (h p hp)
theorem Mx{α:Type}:∀{l:List α} {i:Nat} {x:α},nth l i=some x->x∈l
 |y::l,0,x,h=>by cases h;exact eu
 |y::l,i+1,x,h=>cz _ (Mx (l:=l) h)
theorem iY.uH{x:SB}{c c':C}(hd:x.uH=true)(h:iY ρ x c)(h':iY ρ x c'):c=c':=by
 cases x with
 |d e=>
  obtain⟨y,h1,rfl⟩:=h;obtain⟨z,h2,rfl⟩:=h';rw[h1]at h2;cases h2;rfl
 |any=>cases hd
 |_=>simp only[iY]at h h';rw[h,h']
theorem iY.ne{x:SB}{c:C}(hd:x.uH=true)(h:iY ρ x c):c≠.any:=by
 cases x with
 |d e=>obtain⟨y,h1,rfl⟩:=h;intro h;cases h
 |any=>cases hd
 |_=>simp only[iY]at h;subst h;intro h;cases h
theorem dv.uH:∀{xs:List SB} {cs iC:List C},xs.all SB.uH=true->dv ρ xs cs->dv ρ xs iC->cs=iC
 |[],_,_,_,h,h'=>by simp only[dv]at h h';rw[h,h']
 |x::xs,_,_,hd,⟨c,cs,h0,h1,h2⟩,⟨c',iC,g0,g1,g2⟩=>by
  simp only[bT,ab]at hd;rw[h0,g0,h1.uH hd.1 g1,dv.uH hd.2 h2 g2]
theorem ru.uH:∀{xs:List (SB ⊕ List SB)} {cs iC:List C},Nl xs=true->ru ρ xs cs->ru ρ xs iC->cs=iC
 |[],_,_,_,h,h'=>by simp only[ru]at h h';rw[h,h']
 | .inl x::xs,_,_,hd,⟨c,cs,h0,h1,h2⟩,⟨c',iC,g0,g1,g2⟩=>by
  simp only[Nl,ab]at hd;rw[h0,g0,h1.uH hd.1 g1,ru.uH hd.2 h2 g2]
 | .inr l::xs,_,_,hd,⟨c,cs,h0,h1,h2⟩,⟨c',iC,g0,g1,g2⟩=>by
  simp only[Nl,ab]at hd;rw[h0,g0,h1.uH hd.1 g1,ru.uH hd.2 h2 g2]
theorem jQ.uH{x:SC}{c c':C}(hd:x.uH=true)(h:jQ ρ x c)(h':jQ ρ x c'):c=c':=by
 cases x with
 |b x=>exact iY.uH hd h h'
 |agg xs=>
  obtain⟨cs,rfl,h1⟩:=h;obtain⟨iC,rfl,h2⟩:=h';rw[h1.uH hd h2]
 |oH xs=>
  obtain⟨cs,rfl,h1⟩:=h;obtain⟨iC,rfl,h2⟩:=h';rw[h1.uH hd h2]
 |ptr b o=>simp only[jQ]at h h';rw[h,h']
 |mY r k i o=>
  obtain⟨m,h1,rfl⟩:=h;obtain⟨m',h2,rfl⟩:=h';rw[h1]at h2;cases h2;rfl
 |qJ i o=>
  obtain⟨x,cs,h1,h2,rfl⟩:=h;obtain⟨x',iC,h3,h4,rfl⟩:=h';rw[h1]at h3;cases h3;rw[h2]at h4;cases h4;rfl
 |any=>cases hd
theorem jQ.ne{x:SC}{c:C}(hd:x.uH=true)(h:jQ ρ x c):c≠.any:=by
 cases x with
 |b x=>exact iY.ne hd h
 |agg xs=>obtain⟨cs,rfl,h1⟩:=h;intro h;cases h
 |oH xs=>obtain⟨cs,rfl,h1⟩:=h;intro h;cases h
 |ptr b o=>simp only[jQ]at h;subst h;intro h;cases h
 |mY r k i o=>obtain⟨m,h1,rfl⟩:=h;intro h;cases h
 |qJ i o=>obtain⟨x,cs,h1,h2,rfl⟩:=h;intro h;cases h
 |any=>cases hd
theorem vn{α:Type}(l l':List (Nat×α)):∀(ds:List Nat),(∀d∈ds,∃x,look l d=some x/\look l' d=some x)->gl l ds=gl l' ds
 |[],_=>rfl
 |d::ds,h=>by
  obtain⟨x,h1,h2⟩:=h d (by simp);simp only[gl,h1,h2,vn l l' ds λe he=>h e (by simp[he])]
theorem Rn{kp:j6}{s s':St}(h:Rel ρ S (s.cH kp))(h':Rel ρ S (s'.cH kp))(hd:Xu kp S=true):s.cH kp=s'.cH kp:=by
 simp only[Xu,ab,aS]at hd;obtain⟨⟨h1,h2⟩,h3⟩:=hd;have e1:gl s.sl kp.s=gl s'.sl kp.s:=by
  refine vn _ _ _ λd hm=>?_;have hq:=h1 d hm
  split at hq
  ·rename_i g hg;obtain⟨b,q1,q2,q3⟩:=h.sl d g hg;obtain⟨b',r1,r2,r3⟩:=h'.sl d g hg;rw[q1]at r1;cases r1;have hv:(s.cH kp).get d=(s'.cH kp).get d/\(s.cH kp).get d≠.any:=by
    cases b with
    |false=>rw[q3 rfl,r3 rfl];exact⟨rfl,by intro h;cases h⟩
    |true=>
     have hc:g.c.uH=true:=by
      simp only[dD,decide_eq_true_eq]at hq;rcases hq with hq|hq
      ·exact hq
      ·rw[hq]at q1;cases q1
     exact⟨(q2 rfl).uH hc (r2 rfl),(q2 rfl).ne hc⟩
   rw[Ao s kp hm,Ao s' kp hm]at hv;unfold St.get at hv;cases h4:look s.sl d with
   |none=>rw[h4]at hv;exact absurd rfl hv.2
   |some x=>
    cases h5:look s'.sl d with
    |none=>rw[h4,h5]at hv;exact absurd hv.1 (by intro h;rw[h]at hv;exact hv.2 rfl)
    |some y=>rw[h4,h5]at hv;exact⟨x,rfl,by rw[show y=x from hv.1.symm]⟩
  ·cases hq
 have e2:gl s.bx kp.b=gl s'.bx kp.b:=by
  refine vn _ _ _ λd hm=>?_;have hq:=h2 d hm
  split at hq
  ·rename_i xs hx;obtain⟨cs,q1,q2⟩:=h.bx d xs hx;obtain⟨iC,r1,r2⟩:=h'.bx d xs hx;have:=q2.uH hq r2;subst this;exact⟨cs,(gq _ _ q1).1,(gq _ _ r1).1⟩
  ·cases hq
 have e3:gl s.rw kp.r=gl s'.rw kp.r:=by
  refine vn _ _ _ λd hm=>?_;obtain⟨x,hx⟩:=bF.1 (h3 d hm);obtain⟨y,q1,es,q2,rfl⟩:=h.rw d x hx;obtain⟨y',r1,ja,r2,rfl⟩:=h'.rw d x hx;rw[q2]at r2;cases r2;exact⟨_,(gq _ _ q1).1,(gq _ _ r1).1⟩
 simp only[St.cH,e1,e2,e3]
theorem PD{α:Type}{a b:Option α}{r:α}(h:both a b=some r):a=some r:=by
 unfold both at h
 split at h
 ·split at h
  ·cases h;rfl
  ·cases h
 ·cases h
theorem kK{kp:j6}:∀{is:KT} {tk:List (List Nat×Nat)} {s s':St},eJ cf mf kp is tk s=some s'->∃s0:St,s'=s0.cH kp
 | .nil,tk,s,s',h=>by simp only[eJ,aa]at h;exact⟨s,h.symm⟩
 | .op ⟨j,q,al,dn,i⟩ is,tk,s,s',h=>by
  simp only[eJ]at h
  split at h
  ·split at h
   ·split at h
    ·exact kK h
    ·cases h
   ·split at h
    ·split at h
     ·split at h
      ·exact kK h
      ·cases h
     ·exact kK h
    ·exact kK h
    ·cases h
  ·simp only[j5]at h
   split at h
   ·split at h
    ·exact kK h
    ·cases h
   ·cases h
 | .alt x is r,tk,s,s',h=>by
  simp only[eJ]at h;have h1:=PD h;simp only[j5]at h1
  split at h1
  ·split at h1
   ·exact kK h1
   ·cases h1
  ·cases h1
theorem sF(hG:TU cf jC G){kp:j6}:∀{is:KT} {tk KK:List (List Nat×Nat)} {S:SS} {kn:Gs} {ρ:List D} {s:St} {t:ST} {outs:List SO},(∀p∈tk,p∈KK)->Rel ρ S s->gN ρ kn=some true->vH hint jC kp is KK S kn ρ.length=some (t,outs)->
  Fits G t outs ρ (Ih (eJ cf mf kp is tk s))
 | .nil,tk,KK,S,kn,ρ,s,t,outs,ht,h,hk,hs=>by
  simp only[vH,aa]at hs;exact rY (h.cH kp) hk hs
 | .alt ⟨j,q,al,dn,i⟩ is r,tk,KK,S,kn,ρ,s,t,outs,ht,h,hk,hs=>by
  simp only[vH]at hs
  split at hs
  ·rename_i ho
   split at hs
   ·rename_i ta oa tb ob hA hB;generalize hq:mW ob oa=q at hs;obtain⟨f,outs'⟩:=q;simp only at hs
    split at hs
    ·rename_i agE;cases hs;obtain⟨q1,q2⟩:=nH hq;have fA:Fits G ta oa ρ (Ih (j5 cf mf ⟨j,q,al,dn,i⟩ tk s (eJ cf mf kp is))):=by
      have lh:=Mz h ho;have Xo:Ih (j5 cf mf ⟨j,q,al,dn,i⟩ tk s (eJ cf mf kp is))=(rh cf mf s i).bind λs'=>if (iq j tk).all (λp=>!(dW s i.dst i.op).contains p.2 && (look s'.bx p.2).isSome && !(i.dst ==some p.2))=true then Ih (eJ cf mf kp is (iq j tk) s') else none:=by
       simp only[j5];cases rh cf mf s i with
       |none=>rfl
       |some s'=>simp only[cO];split<;>rfl
      rw[Xo];refine zj hG h hk (run:=λs'=>if (iq j tk).all (λp=>!(dW s i.dst i.op).contains p.2 && (look s'.bx p.2).isSome && !(i.dst ==some p.2))=true then Ih (eJ cf mf kp is (iq j tk) s') else none) (λS' gx s' t outs h' gf pj=>?_) hA
      split at pj
      ·rename_i ha;have hc:(iq j tk).all (λp=>!(dW s i.dst i.op).contains p.2 && (look s'.bx p.2).isSome && !(i.dst ==some p.2))=true:=by
        rw[aS];intro p hp;have Gq:=tm (j:=j) ht p hp;obtain⟨h1,h2⟩:=lh p Gq;have h3:=aS.1 ha p Gq;have h4:(look s'.bx p.2).isSome=true:=by
         obtain⟨xs,hx⟩:=bF.1 h3;obtain⟨cs,C5,_⟩:=h'.bx p.2 xs hx;rw[C5];rfl
        rw[h1,h2,h4];rfl
       show Fits G t outs gx (if _ then _ else _);rw[if_pos hc];exact sF hG (tm ht) h' gf pj
      ·cases pj
     have fB:=sF hG ht h hk hB;intro j' σ hd;simp only[dM]at hd;obtain⟨d1,d2⟩:=PC hd;obtain⟨o,sA,g1,g2,g3,g4⟩:=fA.more q2 j' σ d1;obtain⟨o',sB,w1,w2,w3,w4⟩:=fB.map q1 j' σ d2;rw[g1]at w1;cases w1;have XO:∃a,j5 cf mf ⟨j,q,al,dn,i⟩ tk s (eJ cf mf kp is)=some a:=by
      cases hx:j5 cf mf ⟨j,q,al,dn,i⟩ tk s (eJ cf mf kp is) with
      |none=>rw[hx]at g2;cases g2
      |some a=>exact⟨a,rfl⟩
     have Wo:∃b,eJ cf mf kp r tk s=some b:=by
      cases hx:eJ cf mf kp r tk s with
      |none=>rw[hx]at w2;cases w2
      |some a=>exact⟨a,rfl⟩
     obtain⟨a,ha⟩:=XO;obtain⟨b,hb⟩:=Wo;have ka:∃s0:St,a=s0.cH kp:=by
      have LF:=ha;simp only[j5]at LF
      split at LF
      ·split at LF
       ·exact kK LF
       ·cases LF
      ·cases LF
     obtain⟨a0,rfl⟩:=ka;obtain⟨b0,rfl⟩:=kK hb;rw[ha]at g2;rw[hb]at w2;simp only[Ih,aa,ak]at g2 w2;obtain⟨ex,rfl⟩:=g2;obtain⟨_,rfl⟩:=w2;have he:=Rn g4 w4 (aS.1 agE o (Mx g1));refine⟨o,_,g1,?_,g3,g4⟩;simp only[eJ,ha,hb,both,he,if_true,Ih,ex]
    ·cases hs
   ·cases hs
  ·cases hs
 | .op ⟨j,q,al,dn,i⟩ is,tk,KK,S,kn,ρ,s,t,outs,ht,h,hk,hs=>by
  simp only[vH]at hs
  split at hs
  ·rename_i hq;subst hq
   split at hs
   ·rename_i hp
    split at hs
    ·rename_i b hb;obtain⟨tk',h1,h2⟩:=R9 (cf:=cf) (mf:=mf) (kp:=kp) (j:=j) (al:=al) (dn:=dn) (is:=is) (tk:=tk) h hk hp hb;rw[h2];have Xo:Ih ((rh cf mf s i).bind (eJ cf mf kp is tk'))=(rh cf mf s i).bind λs'=>Ih (eJ cf mf kp is tk' s'):=by cases rh cf mf s i<;>rfl
     rw[Xo];exact zj hG h hk (run:=λs'=>Ih (eJ cf mf kp is tk' s')) (λS' gx s' t outs h' gf pj=>sF hG (λp hp=>OK ht p (h1 p hp)) h' gf pj) hs
    ·cases hs
   ·cases hs
  ·rename_i hq;have hq:q=false:=by
    cases q with
    |false=>rfl
    |true=>exact absurd rfl hq
   subst hq
   split at hs
   ·rename_i ho;have lh:=Mz h ho;have Xo:Ih (eJ cf mf kp (.op ⟨j,false,al,dn,i⟩ is) tk s)=(rh cf mf s i).bind λs'=>if (iq j tk).all (λp=>!(dW s i.dst i.op).contains p.2 && (look s'.bx p.2).isSome && !(i.dst ==some p.2))=true then Ih (eJ cf mf kp is (iq j tk) s') else none:=by
     simp only[eJ,j5,av,if_false];cases rh cf mf s i with
     |none=>rfl
     |some s'=>simp only[cO];split<;>rfl
    rw[Xo];refine zj hG h hk (run:=λs'=>if (iq j tk).all (λp=>!(dW s i.dst i.op).contains p.2 && (look s'.bx p.2).isSome && !(i.dst ==some p.2))=true then Ih (eJ cf mf kp is (iq j tk) s') else none) (λS' gx s' t outs h' gf pj=>?_) hs
    split at pj
    ·rename_i ha;have hc:(iq j tk).all (λp=>!(dW s i.dst i.op).contains p.2 && (look s'.bx p.2).isSome && !(i.dst ==some p.2))=true:=by
      rw[aS];intro p hp;have Gq:=tm (j:=j) ht p hp;obtain⟨h1,h2⟩:=lh p Gq;have h3:=aS.1 ha p Gq;have h4:(look s'.bx p.2).isSome=true:=by
       obtain⟨xs,hx⟩:=bF.1 h3;obtain⟨cs,C5,_⟩:=h'.bx p.2 xs hx;rw[C5];rfl
      rw[h1,h2,h4];rfl
     show Fits G t outs gx (if _ then _ else _);rw[if_pos hc];exact sF hG (tm ht) h' gf pj
    ·cases pj
   ·cases hs
end
end
section
def Ui{α:Type}(k:α->Option (ST×List SO)):List α->List SO->Option (ST×List SO)
 |[],acc=>some (.nil,acc)
 |v::vs,acc=>match k v with
  |some (t,os)=>match mW os acc with
   |(f,Je)=>match Ui k vs Je with
    |some (ts,M6)=>some (.cons (H9 f t) ts,M6)
    |none=>none
  |none=>none
def BQ:Nat->Nat->List SE
 |_,0=>[]
 |c,m+1=>.v c::BQ (c+1) m
def idO(o:SO):ST×List SO:=(.leaf 0 (BQ 0 o.m),[o])
def GK(id:Nat)(o:SO):SO:=if o.x=some (some id) then {o with x:=none } else o
def GW:List SO->List SO->List SO->List Nat×List SO×List SO
 |[],hs,outs=>([],hs,outs)
 |o::os,hs,outs=>if o.x=none then (match B_ o hs with
   |(j,pj)=>match GW os pj outs with
    |(f,r)=>(2 * j::f,r))
  else match B_ o outs with
   |(j,outs')=>match GW os hs outs' with
    |(f,r)=>((2 * j+1)::f,r)
def Ml(k:SS->Nat->Option (ST×List SO)):Nat->Nat->List SO->List SO->Option (ST×List SO×List SO)
 |0,_,_,_=>none
 |fuel+1,i,hs,outs=>match nth hs i with
  |none=>some (.nil,hs,outs)
  |some o=>match k o.S o.m with
   |some (t,os)=>match GW os hs outs with
    |(f,pj,outs')=>match Ml k fuel (i+1) pj outs' with
     |some (ts,r)=>some (.cons (.map f t) ts,r)
     |none=>none
   |none=>none
def Xs(S:SS):SB->SB
 | .ref r=>match look S.rw r with
  |some x=>.d x.e
  |none=>.any
 |x=>x
def kn0:Gs:=[(.k (.bool true),true),(.k (.bool false),false)]
def nu(hint:List Nat)(jC:List (Nat×lF)):K->SS->Nat->Option (ST×List SO)
 | .skip,S,_=>some (AY none [] S)
 | .exit id,S,_=>some (AY (some (some id)) [] S)
 | .ret,S,_=>some (AY (some none) [] S)
 | .cp ops kp,S,m=>BL hint jC kp ops S kn0 m
 | .Lk ops kp,S,m=>vH hint jC kp ops [] S kn0 m
 | .seq a b,S,m=>match nu hint jC a S m with
  |some (ta,oa)=>match Ui (λo=>if o.x=none then nu hint jC b o.S o.m else some (idO o)) oa []with
   |some (ts,outs)=>some (.seq ta ts,outs)
   |none=>none
  |none=>none
 | .cond c a b,S,m=>match sD (eR S [] c),nu hint jC a S m,nu hint jC b S m with
  |some e,some (ta,oa),some (tb,ob)=>match mW ob oa with
   |(f,outs)=>some (.gd [(e,true)] ta (H9 f tb),outs)
  |_,_,_=>none
 | .block id a,S,m=>match nu hint jC a S m with
  |some (t,outs)=>match mW (outs.map (GK id)) []with
   |(f,outs')=>some (H9 f t,outs')
  |none=>none
 | .share r a,S,m=>match mR S [r]with
  |some S'=>nu hint jC a S' m
  |none=>none
 | .I0 d a,S,m=>match look S.sl d with
  |some ⟨[],.b (.ref r)⟩=>match look S.rw r with
   |some x=>nu hint jC a ((S.setRow r x.share).put (some d) ⟨[],.b (.d x.e)⟩) m
   |none=>none
  |some ⟨[],.b (.d _)⟩=>nu hint jC a S m
  |some ⟨[],.b (.nil _ _)⟩=>nu hint jC a S m
  |some ⟨[],.ptr b 0⟩=>match look S.bx b with
   |some xs=>match mR S (ft xs) with
    |some S'=>if xs.all SB.cell=true then nu hint jC a (S'.eO b (xs.map (Xs S))) m else none
    |none=>none
   |none=>none
  |_=>none
 | .loop a,S,m=>match Nb [] S with
  |(S',es)=>match Ml (nu hint jC a) 40 0 [⟨none,S',es.length⟩] []with
   |some (ts,_,outs)=>some (.loop 0 es ts,outs)
   |none=>none
section
variable {ρ:List D} {S:SS} {s:St} {G:Gf} {T:Nat->Option KF} {mf:Mf} {jC:List (Nat×lF)} {hint:List Nat}
theorem Lr{α:Type}{k:α->Option (ST×List SO)}:∀{vs:List α} {acc jR:List SO} {ts:ST},Ui k vs acc=some (ts,jR)->
  (∀i x,nth acc i=some x->nth jR i=some x)/\∀j v,nth vs j=some v->∃t os,k v=some (t,os)/\∀run ρ,Fits G t os ρ run->Pc G ts j jR ρ run
 |[],acc,jR,ts,h=>by cases h;exact⟨λ_ _ hx=>hx,λj v hv=>(by cases hv)⟩
 |v::vs,acc,jR,ts,h=>by
  simp only[Ui]at h
  split at h
  ·rename_i t os hk;generalize hq:mW os acc=q at h;obtain⟨f,Je⟩:=q;simp only at h
   split at h
   ·rename_i ts' M6 hf;cases h;obtain⟨h1,h2⟩:=nH hq;obtain⟨h3,h4⟩:=Lr hf;refine⟨λi x hx=>h3 i x (h2 i x hx),λj w hw=>?_⟩;cases j with
    |zero=>
     cases hw;refine⟨t,os,hk,λrun ρ wG i σ hd=>?_⟩;have:=wG.map (f:=f) (outs':=jR) (λi o ho=>by obtain⟨j,q1,q2⟩:=h1 i o ho;exact⟨j,q1,h3 j o q2⟩);exact this i σ hd
    |succ j=>
     obtain⟨t',YR,g1,g2⟩:=h4 j w hw;exact⟨t',YR,g1,λrun ρ wG i σ hd=>g2 run ρ wG i σ hd⟩
   ·cases h
  ·cases h
theorem IN:∀{σ σ0:List D},gR (σ0++σ) (BQ σ0.length σ.length)=some σ
 |[],_=>rfl
 |x::σ,σ0=>by
  have h1:SE.d (σ0++x::σ) (.v σ0.length)=some x:=iF σ0 x σ;have h2:=IN (σ:=σ) (σ0:=σ0++[x]);rw[aL,bh]at h2;simp only[az,BQ,gR,h1];have h3:gR (σ0++x::σ) (BQ (σ0.length+1) σ.length)=some σ:=h2;rw[h3];rfl
theorem Yp{o:SO}(hl:ρ.length=o.m)(h:Rel ρ o.S s):Fits G (idO o).1 (idO o).2 ρ (some (Nt o.x,s)):=by
 intro j σ hd;simp only[idO,dM]at hd;have:=IN (σ:=ρ) (σ0:=[]);simp only[ao,aK,hl]at this;rw[this]at hd;cases hd;exact⟨o,s,rfl,rfl,hl,h⟩
theorem Ed:∀{os hs outs:List SO} {f:List Nat} {pj outs':List SO},GW os hs outs=(f,pj,outs')->
  (∀i x,nth hs i=some x->nth pj i=some x)/\(∀i x,nth outs i=some x->nth outs' i=some x)/\
  ∀i o,nth os i=some o->∃c,nth f i=some c/\if o.x=none then (∃j,c=2 * j/\nth pj j=some o) else ∃j,c=2 * j+1/\nth outs' j=some o
 |[],hs,outs,f,pj,outs',h=>by cases h;exact⟨λ_ _ h=>h,λ_ _ h=>h,λi o ho=>(by cases ho)⟩
 |o::os,hs,outs,f,pj,outs',h=>by
  simp only[GW]at h
  split at h
  ·rename_i hx;generalize hq:B_ o hs=q at h;obtain⟨j,Yg⟩:=q;simp only at h
   generalize Yc:GW os Yg outs=q at h;obtain⟨f',hs2,acE⟩:=q;cases h;obtain⟨h1,h2⟩:=yF o hq;obtain⟨h3,h4,h5⟩:=Ed Yc;refine⟨λi x hx=>h3 i x (h2 i x hx),h4,λi p hp=>?_⟩;cases i with
   |zero=>cases hp;exact⟨2 * j,rfl,by rw[if_pos hx];exact⟨j,rfl,h3 j _ h1⟩⟩
   |succ i=>exact h5 i p hp
  ·rename_i hx;generalize hq:B_ o outs=q at h;obtain⟨j,acD⟩:=q;simp only at h
   generalize Yc:GW os hs acD=q at h;obtain⟨f',hs2,acE⟩:=q;cases h;obtain⟨h1,h2⟩:=yF o hq;obtain⟨h3,h4,h5⟩:=Ed Yc;refine⟨h3,λi x hx=>h4 i x (h2 i x hx),λi p hp=>?_⟩;cases i with
   |zero=>cases hp;exact⟨2 * j+1,rfl,by rw[if_neg hx];exact⟨j,rfl,h4 j _ h1⟩⟩
   |succ i=>exact h5 i p hp
theorem HX{k:SS->Nat->Option (ST×List SO)}:∀{fuel i:Nat} {hs outs H O:List SO} {ts:ST},Ml k fuel i hs outs=some (ts,H,O)->
  (∀j x,nth hs j=some x->nth H j=some x)/\(∀j x,nth outs j=some x->nth O j=some x)/\
  ∀j o,nth H (i+j)=some o->∃t os f,k o.S o.m=some (t,os)/\(∀ρ,dM G ts j ρ=dM G (.map f t) 0 ρ)/\∀l o',nth os l=some o'->∃c,nth f l=some c/\if o'.x=none then (∃j,c=2 * j/\nth H j=some o') else ∃j,c=2 * j+1/\nth O j=some o'
 |0,_,_,_,_,_,_,h=>by cases h
 |fuel+1,i,hs,outs,H,O,ts,h=>by
  simp only[Ml]at h
  split at h
  ·rename_i hn;cases h;refine⟨λ_ _ h=>h,λ_ _ h=>h,λj o ho=>?_⟩
   exfalso
   have h1:=xb ho;have h2:∀{l:List SO} {i:Nat},nth l i=none->l.length<=i:=by
    intro l
    induction l with
    |nil=>intro i _;exact qH _
    |cons x l ih=>
     intro i hi;cases i with
     |zero=>cases hi
     |succ i=>have:=ih (i:=i) hi;simp only[az];omega
   have:=h2 hn;omega
  ·rename_i o ho
   split at h
   ·rename_i t os hk;generalize hq:GW os hs outs=q at h;obtain⟨f,pj,outs'⟩:=q;simp only at h
    split at h
    ·rename_i ts' r hr;obtain⟨H',O'⟩:=r;cases h;obtain⟨h1,h2,h3⟩:=Ed hq;obtain⟨h4,h5,h6⟩:=HX hr;refine⟨λj x hx=>h4 j x (h1 j x hx),λj x hx=>h5 j x (h2 j x hx),λj p hp=>?_⟩;cases j with
     |zero=>
      rw[eD,h4 i o (h1 i o ho)]at hp;cases hp;refine⟨t,os,f,hk,λρ=>rfl,λl o' hl=>?_⟩;obtain⟨c,q1,q2⟩:=h3 l o' hl;refine⟨c,q1,?_⟩
      split at q2
      ·rename_i hx;rw[if_pos hx];obtain⟨j,q3,q4⟩:=q2;exact⟨j,q3,h4 j o' q4⟩
      ·rename_i hx;rw[if_neg hx];obtain⟨j,q3,q4⟩:=q2;exact⟨j,q3,h5 j o' q4⟩
     |succ j=>
      obtain⟨t',YR,f',g1,g2,g3⟩:=h6 j p (by rw[du,Nat.add_comm 1 j];exact hp);exact⟨t',YR,f',g1,λρ=>g2 ρ,g3⟩
    ·cases h
   ·cases h
theorem SV{g:St->Option (Ex×St)}{x:SX}{s:St}(h:x≠none):Cs g (some (Nt x,s))=some (Nt x,s):=by
 cases x with
 |none=>exact absurd rfl h
 |some y=>cases y<;>rfl
theorem aaJ{id:Nat}{o:SO}{s:St}:Pz id (some (Nt o.x,s))=some (Nt (GK id o).x,s):=by
 unfold GK;split
 ·rename_i h;rw[h];simp[Nt,Pz]
 ·rename_i h;rcases hx:o.x with _|_|i
  ·rfl
  ·rfl
  ·have:i≠id:=by rintro rfl;exact h hx
   simp[Nt,Pz,this]
theorem Ii{α β:Type}(f:α->β):∀{l:List α} {i:Nat} {x:α},nth l i=some x->nth (l.map f) i=some (f x)
 |_::_,0,_,h=>by cases h;rfl
 |_::l,i+1,_,h=>Ii f (l:=l) h
 |[],_,_,h=>by cases h
theorem BD:∀{rs:List Nat} {S S':SS},mR S rs=some S'->∀r∈rs,∃x y,look S.rw r=some x/\look S'.rw r=some y
 |[],_,_,_,r,hr=>by cases hr
 |q::rs,S,S',h,r,hr=>by
  simp only[mR]at h
  split at h
  ·rename_i x hx;have cH:∀{rs:List Nat} {S S':SS} {r:Nat} {y:SR},mR S rs=some S'->look S.rw r=some y->∃z,look S'.rw r=some z:=by
    intro rs
    induction rs with
    |nil=>intro S S' r y h hy;cases h;exact⟨y,hy⟩
    |cons a rs ih=>
     intro S S' r y h hy;simp only[mR]at h
     split at h
     ·rename_i z hz;by_cases ha:a=r
      ·exact ih h (y:=z.share) (by simp[SS.setRow,look,ha])
      ·exact ih h (y:=y) (by simp only[SS.setRow,look,if_neg ha,dN];exact hy)
     ·cases h
   rcases ay.1 hr with rfl|hr
   ·obtain⟨z,hz⟩:=cH h (r:=r) (y:=x.share) (by simp[SS.setRow,look]);exact⟨x,z,hx,hz⟩
   ·obtain⟨x',y,g1,g2⟩:=BD h r hr;by_cases ha:q=r
    ·exact⟨x,y,ha▸hx,g2⟩
    ·simp only[SS.setRow,look,if_neg ha,dN]at g1;exact⟨x',y,g1,g2⟩
  ·cases h
theorem Lg(h:Rel ρ S s):∀{xs:List SB} {cs:List C},(∀r∈ft xs,∃x,look S.rw r=some x)->dv ρ xs cs->dv ρ (xs.map (Xs S)) (cs.map (Ni s))
 |[],_,_,hx=>by simp only[dv]at hx;subst hx;rfl
 |x::xs,_,hr,⟨c,cs,h0,h1,h2⟩=>by
  subst h0;refine⟨_,_,rfl,?_,Lg h (λr hm=>hr r (by cases x<;>simp_all[ft])) h2⟩;cases x with
  |ref r=>
   obtain⟨y,hy⟩:=hr r (by simp[ft]);obtain⟨z,g1,es,g2,rfl⟩:=h.rw r y hy;simp only[iY]at h1;subst h1;simp only[Xs,hy,Ni,g1];exact⟨_,g2,rfl⟩
  |d e=>obtain⟨y,g1,rfl⟩:=h1;exact⟨y,g1,rfl⟩
  |nil k fl=>simp only[iY]at h1;subst h1;rfl
  |any=>trivial
theorem kz(hG:TU (db T) jC G):∀(k:K) {S:SS} {ρ:List D} {s:St} {t:ST} {outs:List SO},Rel ρ S s->nu hint jC k S ρ.length=some (t,outs)->Fits G t outs ρ (ev T mf k s)
 | .skip,S,ρ,s,t,outs,h,hs=>by
  simp only[nu,aa]at hs;rw[Lp];exact rY h rfl hs
 | .exit id,S,ρ,s,t,outs,h,hs=>by
  simp only[nu,aa]at hs;rw[Lo];exact rY h rfl hs
 | .ret,S,ρ,s,t,outs,h,hs=>by
  simp only[nu,aa]at hs;rw[Qz];exact rY h rfl hs
 | .cp ops kp,S,ρ,s,t,outs,h,hs=>by
  simp only[nu]at hs;rw[Qy];exact DP hG h rfl hs
 | .Lk ops kp,S,ρ,s,t,outs,h,hs=>by
  simp only[nu]at hs;rw[Qx];exact sF hG (λ_ hp=>hp) h rfl hs
 | .seq a b,S,ρ,s,t,outs,h,hs=>by
  simp only[nu]at hs
  split at hs
  ·rename_i ta oa hA
   split at hs
   ·rename_i ts outs' hf;cases hs;have hfa:=kz hG a h hA;obtain⟨_,h2⟩:=Lr (G:=G) hf;intro j σ hd;simp only[dM]at hd
    split at hd
    ·rename_i j0 σ0 h0;obtain⟨o,s',g1,g2,g3,g4⟩:=hfa j0 σ0 h0;obtain⟨t',YR,g5,g6⟩:=h2 j0 o g1;rw[QA,g2]
     split at g5
     ·rename_i hx;rw[<- g3]at g5;have hfb:=kz hG b g4 g5;rw[hx];exact g6 _ σ0 hfb j σ hd
     ·rename_i hx;simp only[aa]at g5;have hi:=Yp (G:=G) g3 g4;rw[g5]at hi;rw[SV hx];exact g6 _ σ0 hi j σ hd
    ·cases hd
   ·cases hs
  ·cases hs
 | .cond c a b,S,ρ,s,t,outs,h,hs=>by
  simp only[nu]at hs
  split at hs
  ·rename_i e ta oa tb ob hc hA hB;generalize hq:mW ob oa=q at hs;obtain⟨f,outs'⟩:=q;cases hs;obtain⟨q1,q2⟩:=nH hq;obtain⟨y,w1,w2⟩:=j8 h (gs:=[]) rfl hc;rw[El,w2];refine LA (λhg=>?_) λhg=>?_
   ·have:=lP hg (e,true) (by simp);simp only[w1,aa]at this;subst this;exact (kz hG a h hA).more q2
   ·obtain⟨p,hp,he⟩:=Ae hg;simp only[ct]at hp;subst hp;simp only[w1,aa]at he;subst he;exact (kz hG b h hB).map q1
  ·cases hs
 | .block id a,S,ρ,s,t,outs,h,hs=>by
  simp only[nu]at hs
  split at hs
  ·rename_i t' W3 hA;generalize hq:mW (W3.map (GK id)) []=q at hs;obtain⟨f,outs'⟩:=q;cases hs;obtain⟨q1,_⟩:=nH hq;have hfa:=kz hG a h hA;rw[Hf];refine Fits.map (outs:=W3.map (GK id)) ?_ q1;intro j σ hd;obtain⟨o,s',g1,g2,g3,g4⟩:=hfa j σ hd;refine⟨GK id o,s',Ii _ g1,by rw[g2,aaJ],?_,?_⟩
   ·rw[g3];unfold GK;split<;>rfl
   ·unfold GK;split<;>exact g4
  ·cases hs
 | .share r a,S,ρ,s,t,outs,h,hs=>by
  simp only[nu]at hs
  split at hs
  ·rename_i S' hS;rw[Hg];exact kz hG a (nF h hS) hs
  ·cases hs
 | .I0 d a,S,ρ,s,t,outs,h,hs=>by
  simp only[nu]at hs;rw[Qw];have key:∀{c:SC},look S.sl d=some ⟨[],c⟩->jQ ρ c (s.get d):=λhl=>by
   obtain⟨b,h1,h2,_⟩:=h.sl d _ hl;cases h1;exact h2 rfl
  split at hs
  ·rename_i r hl;have hr:=key hl;simp only[jQ,iY]at hr
   split at hs
   ·rename_i x hx;obtain⟨y,h1,es,h2,rfl⟩:=h.rw r x hx;have hd:qc s d=some ((dH s [r]).put (some d) (.d (.list x.k x.fl es))):=by simp only[qc,hr,h1]
    rw[hd,cO];refine kz hG a (Rel.put ?_ _ (pT.nil (c:=.b (.d x.e)) ⟨_,h2,rfl⟩)) hs;have:=nF (rs:=[r]) (S':=S.setRow r x.share) h (by simp[mR,hx]);exact this
   ·cases hs
  ·rename_i e hl;obtain⟨y,_,hr⟩:=key hl;have hd:qc s d=some s:=by simp only[qc,hr]
   rw[hd,cO];exact kz hG a h hs
  ·rename_i k fl hl;have hr:=key hl;simp only[jQ,iY]at hr;have hd:qc s d=some s:=by simp only[qc,hr]
   rw[hd,cO];exact kz hG a h hs
  ·rename_i b hl;have hr:=key hl;simp only[jQ]at hr
   split at hs
   ·rename_i xs hx
    split at hs
    ·rename_i S' hS
     split at hs
     ·rename_i hc;obtain⟨cs,h1,h2⟩:=h.bx b xs hx;have qW:=ma h2 hc;have hd:qc s d=some ((dH s (rowsOf cs)).eO b (cs.map (Ni s))):=by simp only[qc,hr,h1]
      rw[hd,cO,qW];refine kz hG a (Rel.eO (nF h hS) b ?_) hs;exact Lg h (λr hm=>by obtain⟨x,_,g,_⟩:=BD hS r hm;exact⟨x,g⟩) h2
     ·cases hs
    ·cases hs
   ·cases hs
  ·cases hs
 | .loop a,S,ρ,s,t,outs,h,hs=>by
  simp only[nu]at hs;generalize hq:Nb [] S=q at hs;obtain⟨S',es⟩:=q;simp only at hs
  split at hs
  ·rename_i ts H O hL;cases hs;obtain⟨h1,_,h3⟩:=HX (G:=G) hL;intro j σ hd;simp only[dM]at hd
   split at hd
   ·rename_i σ0 h0;have lQ:=JH hd;have step:∀{p:Nat×List D} {sg:Sg (Nat×List D) (Nat×List D)} {o:SO} {s:St},Ad (dM G ts p.1 p.2)=some sg->nth H p.1=some o->p.2.length=o.m->Rel p.2 o.S s->
      ∃o' s' j V7,ev T mf a s=some (Nt o'.x,s')/\V7.length=o'.m/\Rel V7 o'.S s'/\((o'.x=none/\sg=.go (j,V7)/\nth H j=some o')\/(o'.x≠none/\sg=.out (j,V7)/\nth outs j=some o')):=by
     intro p sg o s hb ho hl hR;obtain⟨t,os,f,g1,g2,g3⟩:=h3 p.1 o (by rw[bm];exact ho);rw[g2]at hb;simp only[dM]at hb;rw[<- hl]at g1;have hfa:=kz hG a hR g1
     split at hb
     ·rename_i l V7 h0;obtain⟨o',s',w1,w2,w3,w4⟩:=hfa l V7 h0;obtain⟨c,q1,q2⟩:=g3 l o' w1;rw[q1]at hb;simp only[aD,Ad,aa]at hb;refine⟨o',s',c / 2,V7,w2,w3,w4,?_⟩
      split at q2
      ·rename_i hx;obtain⟨j,rfl,q3⟩:=q2;rw[if_pos (by omega)]at hb;have e:2 * j / 2=j:=by omega
       exact .inl ⟨hx,hb.symm,by rw[e];exact q3⟩
      ·rename_i hx;obtain⟨j,rfl,q3⟩:=q2;rw[if_neg (by omega)]at hb;have e:(2 * j+1) / 2=j:=by omega
       exact .inr ⟨hx,hb.symm,by rw[e];exact q3⟩
     ·cases hb
    have main:∀{p r:Nat×List D},vX (λp=>Ad (dM G ts p.1 p.2)) p r->∀{o:SO} {s:St},nth H p.1=some o->p.2.length=o.m->Rel p.2 o.S s->∃o' s',nth outs r.1=some o'/\ev T mf (.loop a) s=some (Nt o'.x,s')/\r.2.length=o'.m/\Rel r.2 o'.S s':=by
     intro p r hr
     induction hr with
     |out hb=>
      intro o s ho hl hR;obtain⟨o',s',j,V7,w1,w2,w3,w4⟩:=step hb ho hl hR;rcases w4 with ⟨_,w5,_⟩|⟨w5,w6,w7⟩
      ·cases w5
      ·cases w6;exact⟨o',s',w7,by rw[fI,w1,SV w5],w2,w3⟩
     |go hb yQ ih=>
      intro o s ho hl hR;obtain⟨o',s',j,V7,w1,w2,w3,w4⟩:=step hb ho hl hR;rcases w4 with ⟨w5,w6,w7⟩|⟨_,w6,_⟩
      ·cases w6;obtain⟨o2,s2,v1,v2,v3⟩:=ih w7 w2 w3;refine⟨o2,s2,v1,?_,v3⟩;rw[fI,w1,w5];exact v2
      ·cases w6
    exact main lQ (h1 0 _ rfl) (ju h0) (Ld h rfl hq h0)
   ·cases hd
  ·cases hs
end
end
section
def tS:Nat->List SA->Nat->SS->Option SS
 |_,[],_,S=>some S
 |p,.val ag l::as,c,S=>match JW p 0 l c S with
  |(xs,S')=>if ag=true then tS (p+1) as (c+l.length) (S'.put (some p) ⟨[],.agg xs⟩) else match xs with
   |[x]=>tS (p+1) as (c+l.length) (S'.put (some p) ⟨[],.b x⟩)
   |_=>none
 |p,.box l::as,c,S=>match JW (p+500) 0 l c S with
  |(xs,S')=>tS (p+1) as (c+l.length) ((S'.jK (900+p) xs).put (some p) ⟨[],.ptr (900+p) 0⟩)
def wrA(S:SS)(ag:Bool)(xs:List SB):Option (SA×List SE×List Nat):=
 match fp (wrS S) xs with
 |some l=>some (.val ag (l.map (·.1)),l.map (·.2),ft xs)
 |none=>none
def MK(S:SS):KR->Option (SA×List SE×List Nat)
 | .t d=>match look S.sl d with
  |some ⟨[],c⟩=>match c.cells with
   |some xs=>wrA S c.isAgg xs
   |none=>none
  |_=>none
 | .c d n=>match look S.sl d with
  |some ⟨[],.ptr b 0⟩=>match look S.bx b with
   |some xs=>if n=0 then (match xs with
     |[x]=>wrA S false [x]
     |_=>none) else if xs.length=n then wrA S true xs else none
   |none=>none
  |_=>none
def FN(S:SS):List KR->Option (List SA×List SE×List Nat)
 |[]=>some ([],[],[])
 |r::rs=>match MK S r,FN S rs with
  |some (a,es,l),some (as,fs,l')=>some (a::as,es++fs,l++l')
  |_,_=>none
def xi(S:SS):Nat->List SA->Option (List SA×List SE×List Nat)
 |_,[]=>some ([],[],[])
 |p,.val _ _::as=>xi S (p+1) as
 |p,.box _::as=>match look S.bx (900+p) with
  |some xs=>match fp (wrS S) xs,xi S (p+1) as with
   |some l,some (bs,fs,l')=>some (.box (l.map (·.1))::bs,l.map (·.2)++fs,ft xs++l')
   |_,_=>none
  |none=>none
def idxOf{α:Type}[DecidableEq α](x:α):List α->Option Nat
 |[]=>none
 |y::l=>if y=x then some 0 else (idxOf x l).map (·+1)
def Fj(kf:KF)(sg:lF)(o:SO):Option ST:=
 if o.x=none\/o.x=some none then
  match FN o.S kf.res,xi o.S 0 sg.args with
  |some (rs,es,l),some (os,fs,l')=>if iU (l++l')=true then (match idxOf (rs,os) sg.res with
   |some j=>some (.leaf j (es++fs))
   |none=>none) else none
  |_,_=>none
 else none
def yS(kf:KF)(sg:lF):List SO->Option ST
 |[]=>some .nil
 |o::os=>match Fj kf sg o,yS kf sg os with
  |some t,some ts=>some (.cons t ts)
  |_,_=>none
def Sr(hint:List Nat)(jC:List (Nat×lF))(kf:KF)(sg:lF):Option ST:=
 match tS 0 sg.args 0 ⟨[],[],[]⟩ with
 |some S=>match nu hint jC kf.body S (uU sg.args) with
  |some (t,outs)=>match yS kf sg outs with
   |some ts=>some (.seq t ts)
   |none=>none
  |none=>none
 |none=>none
section
variable {ρ:List D} {S:SS} {s:St}
theorem sO:∀{l:List SA} {p c:Nat} {S S':SS} {s:St} {us:List D} {as:List A},Rel ρ S s->fZ l us=some as->Loc ρ c us->tS p l c S=some S'->Rel ρ S' (iD p as s)
 |[],p,c,S,S',s,us,as,h,he,hl,hs=>by
  cases us with
  |nil=>cases he;cases hs;exact h
  |cons u us=>cases he
 | .val ag l::as,p,c,S,S',s,us,rs,h,he,hl,hs=>by
  obtain⟨r,Cq,h1,h2,rfl⟩:=gB he;simp only[k8]at h1;obtain⟨vs,h3,rfl⟩:=ad.1 h1;simp only[tS]at hs;generalize hq:JW p 0 l c S=q at hs;obtain⟨xs,S1⟩:=q;simp only at hs
  obtain⟨cs,s1,w1,w2,w3⟩:=wK h h3 (hl.take _) hq;simp only[iD,wm,w1]
  split at hs
  ·rename_i sU;rw[if_pos sU];exact sO (w2.put (some p) (pT.nil (c:=.agg xs) ⟨cs,rfl,w3⟩)) h2 (hl.drop _) hs
  ·rename_i sU;rw[if_neg sU]
   split at hs
   ·obtain⟨c0,cs0,rfl,u1,u2⟩:=w3;exact sO (w2.put (some p) (pT.nil (c:=.b _) u1)) h2 (hl.drop _) hs
   ·cases hs
 | .box l::as,p,c,S,S',s,us,rs,h,he,hl,hs=>by
  obtain⟨r,Cq,h1,h2,rfl⟩:=gB he;simp only[k8]at h1;obtain⟨vs,h3,rfl⟩:=ad.1 h1;simp only[tS]at hs;generalize hq:JW (p+500) 0 l c S=q at hs;obtain⟨xs,S1⟩:=q;simp only at hs
  obtain⟨cs,s1,w1,w2,w3⟩:=wK h h3 (hl.take _) hq;simp only[iD,wm,w1];exact sO ((w2.jK (900+p) w3).put (some p) pT.ptr) h2 (hl.drop _) hs
theorem KZ(h:Rel ρ S s){xs:List SB}{vs:List C}{ag:Bool}{a:SA}{es:List SE}{l:List Nat}(hv:dv ρ xs vs)(hw:wrA S ag xs=some (a,es,l)) :
  ∃ws rs,gR ρ es=some ws/\fp (iK s) vs=some rs/\k8 a ws=some (.val ag rs)/\ws.length=a.n/\rowsOf vs=l:=by
 unfold wrA at hw
 split at hw
 ·rename_i ps hp;cases hw;obtain⟨ys,rs,h1,h2,h3⟩:=zm h hv hp;exact⟨ys,rs,h1,h2,by simp only[k8,h3,aD],lO h3,ma hv (pI (p:=SB.cell) (λ_ _=>vQ) hp)⟩
 ·cases hw
theorem Tj{xs:List SB}{ag:Bool}{r:SA×List SE×List Nat}(hw:wrA S ag xs=some r):xs.all SB.cell=true:=by
 unfold wrA at hw
 split at hw
 ·rename_i ps hp;exact pI (p:=SB.cell) (λ_ _=>vQ) hp
 ·cases hw
theorem Xj{c:SC}{v:C}{xs:List SB}(hv:jQ ρ c v)(hc:c.cells=some xs)(jU:xs.all SB.cell=true):v.isAgg=c.isAgg:=by
 cases c with
 |b x=>
  cases hc;have:=iY.cell hv (by simpa using jU);cases v<;>first|rfl|cases this
 |agg ys=>obtain⟨cs,rfl,_⟩:=hv;rfl
 |_=>cases hc
theorem Sh(h:Rel ρ S s){r:KR}{a:SA}{es:List SE}{l:List Nat}(hr:MK S r=some (a,es,l)):∃ws x,FM s r=some (x,l)/\gR ρ es=some ws/\k8 a ws=some x/\ws.length=a.n:=by
 cases r with
 |t d=>
  simp only[MK]at hr
  split at hr
  ·rename_i c hl;obtain⟨b,h1,h2,_⟩:=h.sl d _ hl;cases h1;have hv:=h2 rfl
   split at hr
   ·rename_i xs hc;have jU:=Tj hr;obtain⟨ws,rs,q1,q2,q3,q4,q5⟩:=KZ h (hv.cells hc jU) hr;have sU:=Xj hv hc jU;simp only at sU q2 q5
    exact⟨ws,_,by simp only[FM,q2,aD,sU,q5],q1,q3,q4⟩
   ·cases hr
  ·cases hr
 |c d n=>
  simp only[MK]at hr
  split at hr
  ·rename_i b hl;obtain⟨b',h1,h2,_⟩:=h.sl d _ hl;cases h1;have hv:=h2 rfl;simp only[jQ]at hv
   split at hr
   ·rename_i xs hb;obtain⟨cs,g1,g2⟩:=h.bx _ xs hb
    split at hr
    ·rename_i hn
     split at hr
     ·rename_i x;obtain⟨ws,rs,q1,q2,q3,q4,q5⟩:=KZ h g2 hr;obtain⟨c0,cs0,rfl,u1,u2⟩:=g2;simp only[dv]at u2;subst u2;exact⟨ws,_,by simp only[FM,hv,g1,hn,if_true,q2,aD,q5],q1,q3,q4⟩
     ·cases hr
    ·rename_i hn
     split at hr
     ·rename_i hlen;obtain⟨ws,rs,q1,q2,q3,q4,q5⟩:=KZ h g2 hr;exact⟨ws,_,by simp only[FM,hv,g1,if_neg hn];rw[if_pos (by rw[g2.len,hlen]),q2];simp only[aD,q5],q1,q3,q4⟩
     ·cases hr
   ·cases hr
  ·cases hr
theorem CT:∀{a:SA} {as:List SA} {ws us:List D} {x:A} {rs:List A},k8 a ws=some x->ws.length=a.n->fZ as us=some rs->fZ (a::as) (ws++us)=some (x::rs):=by
 intro a as ws us x rs h1 h2 h3;simp only[fZ,take_left' h2,drop_left' h2,h1,h3,aD]
theorem DI(h:Rel ρ S s):∀{rs:List KR} {as:List SA} {es:List SE} {l:List Nat},FN S rs=some (as,es,l)->∃ws xs,vC s rs=some (xs,l)/\gR ρ es=some ws/\fZ as ws=some xs
 |[],_,_,_,hr=>by cases hr;exact⟨[],[],rfl,rfl,rfl⟩
 |r::rs,as,es,l,hr=>by
  simp only[FN]at hr
  split at hr
  ·rename_i a Hd l1 K8 fs l2 h1 h2;cases hr;obtain⟨ws,x,q1,q2,q3,q4⟩:=Sh h h1;obtain⟨us,xs,w1,w2,w3⟩:=DI h h2;exact⟨ws++us,x::xs,by simp only[vC,q1,w1,aD],ox q2 w2,CT q3 q4 w3⟩
  ·cases hr
theorem xj(h:Rel ρ S s):∀{args:List SA} {as:List A} {us:List D} {p:Nat} {bs:List SA} {es:List SE} {l:List Nat},fZ args us=some as->xi S p args=some (bs,es,l)->∃ws xs,sr s p as=some (xs,l)/\gR ρ es=some ws/\fZ bs ws=some xs
 |[],as,us,p,bs,es,l,he,hr=>by
  cases us with
  |nil=>cases he;cases hr;exact⟨[],[],rfl,rfl,rfl⟩
  |cons u us=>cases he
 | .val ag l0::args,as,us,p,bs,es,l,he,hr=>by
  obtain⟨r,Cq,h1,h2,rfl⟩:=gB he;simp only[k8]at h1;obtain⟨vs,h3,rfl⟩:=ad.1 h1;simp only[xi]at hr;obtain⟨ws,xs,w1,w2,w3⟩:=xj h h2 hr;exact⟨ws,xs,by simp only[sr,Ov,w1,aD,ao],w2,w3⟩
 | .box l0::args,as,us,p,bs,es,l,he,hr=>by
  obtain⟨r,Cq,h1,h2,rfl⟩:=gB he;simp only[k8]at h1;obtain⟨vs,h3,rfl⟩:=ad.1 h1;simp only[xi]at hr
  split at hr
  ·rename_i xs hb
   split at hr
   ·rename_i ps bs' fs l' hp ho;cases hr;obtain⟨cs,g1,g2⟩:=h.bx _ xs hb;obtain⟨ys,rs,q1,q2,q3⟩:=zm h g2 hp;obtain⟨ws,zs,w1,w2,w3⟩:=xj h h2 ho;have abE:=ma g2 (pI (p:=SB.cell) (λ_ _=>vQ) hp);refine⟨ys++ws,.box rs::zs,?_,ox q1 w2,CT (by simp only[k8,q3,aD]) (lO q3) w3⟩;simp only[sr,Ov,g1,q2,w1,aD,abE,ai,ao]
   ·cases hr
  ·cases hr
theorem HH{α:Type}[DecidableEq α]{x:α}:∀{l:List α} {j:Nat},idxOf x l=some j->nth l j=some x
 |[],_,h=>by cases h
 |y::l,j,h=>by
  simp only[idxOf]at h
  split at h
  ·rename_i he;cases h;rw[he];rfl
  ·obtain⟨j',h1,rfl⟩:=ad.1 h;exact HH (l:=l) h1
theorem P8{v:List SA×List SA}{ws us:List D}{rs os:List A}(h1:fZ v.1 ws=some rs)(h2:fZ v.2 us=some os):u5 v (ws++us)=some (rs,os):=by
 have hl:=nA h1;simp only[u5,take_left' hl,drop_left' hl,h1,h2]
theorem Oh{G:Gf}{kf:KF}{sg:lF}{o:SO}{t:ST}{as:List A}{us:List D}(h:Rel ρ o.S s)(he:fZ sg.args us=some as)(hs:Fj kf sg o=some t){j:Nat}{σ:List D}(hd:dM G t 0 ρ=some (j,σ)) :
  ∃v r,nth sg.res j=some v/\u5 v σ=some r/\fin kf as (some (Nt o.x,s))=some r:=by
 unfold Fj at hs
 split at hs
 ·rename_i hx
  split at hs
  ·rename_i rs es l os fs l' h1 h2
   split at hs
   ·rename_i hn
    split at hs
    ·rename_i j0 hj;cases hs;obtain⟨ws,xs,q1,q2,q3⟩:=DI h h1;obtain⟨vs,ys,w1,w2,w3⟩:=xj h he h2;simp only[dM,ox q2 w2,aa,ak]at hd;obtain⟨rfl,rfl⟩:=hd;refine⟨(rs,os),(xs,ys),HH hj,P8 q3 w3,?_⟩;have:leave kf as s=some (xs,ys):=by simp only[leave,q1,w1,hn,if_true]
     rcases hx with hx|hx<;>(rw[hx];exact this)
    ·cases hs
   ·cases hs
  ·cases hs
 ·cases hs
theorem A3{G:Gf}{kf:KF}{sg:lF}:∀{outs:List SO} {ts:ST},yS kf sg outs=some ts->∀j o,nth outs j=some o->∃t,Fj kf sg o=some t/\∀ρ,dM G ts j ρ=dM G t 0 ρ
 |[],ts,h,j,o,ho=>by cases ho
 |p::outs,ts,h,j,o,ho=>by
  simp only[yS]at h
  split at h
  ·rename_i t ts' h1 h2;cases h;cases j with
   |zero=>cases ho;exact⟨t,h1,λρ=>rfl⟩
   |succ j=>
    obtain⟨t',g1,g2⟩:=A3 (G:=G) h2 j o ho;exact⟨t',g1,λρ=>g2 ρ⟩
  ·cases h
theorem VO{T:Nat->Option KF}{jC:List (Nat×lF)}{G:Gf}(hG:TU (db T) jC G){hint:List Nat}{f:Nat}{kf:KF}(hT:T f=some kf)(h9:kf.np≠999){sg:lF}(Q5:sg.args.length=kf.np){t:ST}(hs:Sr hint jC kf sg=some t)
  {ws us:List D} {as:List A} {j:Nat} (he:fZ sg.args ws=some as) (hd:dM G t 0 ws=some (j,us)):∃v r,nth sg.res j=some v/\u5 v us=some r/\db T f as=some r:=by
 have hlen:∀{l:List SA} {us:List D} {rs:List A},fZ l us=some rs->rs.length=l.length:=by
  intro l
  induction l with
  |nil=>intro us rs h;cases us<;>cases h;rfl
  |cons a l ih=>
   intro us rs h;obtain⟨r,Cq,_,h2,rfl⟩:=gB h;simp[ih h2]
 unfold Sr at hs
 split at hs
 ·rename_i S hS
  split at hs
  ·rename_i t0 outs hC
   split at hs
   ·rename_i ts hL;cases hs;have h0:Rel ws ⟨[],[],[]⟩ ⟨[],[],[]⟩:=⟨λ_ _ h=>(by cases h),λ_ _ h=>(by cases h),λ_ _ h=>(by cases h)⟩
    have hR:=sO h0 he (c:=0) (λi x hx=>by rw[bm];exact hx) hS;rw[<- nA he]at hC;have wG:=kz (mf:=tA) hG kf.body hR hC;simp only[dM]at hd
    split at hd
    ·rename_i j0 σ0 OZ;obtain⟨o,s',g1,g2,g3,g4⟩:=wG j0 σ0 OZ;obtain⟨t',g5,g6⟩:=A3 (G:=G) hL j0 o g1;rw[g6]at hd;obtain⟨v,r,w1,w2,w3⟩:=Oh g4 he g5 hd;refine⟨v,r,w1,w2,?_⟩;rw[Mk T hT h9];unfold run;rw[if_pos (by rw[hlen he,Q5]),g2];exact w3
    ·cases hd
   ·cases hs
  ·cases hs
 ·cases hs
end
end
def yl:RV->DZ×D
 | .d x=>(.d,x)
 | .row r=>(.row r.k r.fl r.deep r.app r.fz,.list r.k r.fl r.es)
def zH:A->SA×List D
 | .val ag l=>(.val ag (l.map λv=>(yl v).1),l.map λv=>(yl v).2)
 | .box l=>(.box (l.map λv=>(yl v).1),l.map λv=>(yl v).2)
def pr:List A->List SA×List D
 |[]=>([],[])
 |a::as=>((zH a).1::(pr as).1,(zH a).2++(pr as).2)
def Jr(r:List A×List A):(List SA×List SA)×List D:=(((pr r.1).1,(pr r.2).1),(pr r.1).2++(pr r.2).2)
theorem Qa(v:RV):zO (yl v).1 (yl v).2=some v:=by
 cases v with
 |d x=>rfl
 |row r=>simp[yl,zO]
theorem CU:∀(l:List RV),lL (l.map λv=>(yl v).1) (l.map λv=>(yl v).2)=some l
 |[]=>rfl
 |v::l=>by simp only[aQ,lL,Qa,CU l,aD]
theorem PI(a:A):(zH a).2.length=(zH a).1.n:=by cases a<;>simp[zH,SA.n]
theorem P7(a:A):k8 (zH a).1 (zH a).2=some a:=by cases a<;>simp only[zH,k8,CU,aD]
theorem wk:∀(as:List A),fZ (pr as).1 (pr as).2=some as
 |[]=>rfl
 |a::as=>by
  simp only[pr];unfold fZ;rw[List.take_left' (PI a),List.drop_left' (PI a),P7,wk as];rfl
theorem P9(r:List A×List A):u5 (Jr r).1 (Jr r).2=some r:=by
 have h:(pr r.1).2.length=uU (pr r.1).1:=nA (wk r.1);simp only[Jr,u5,List.take_left' h,List.drop_left' h,wk]
theorem PS{v:DZ}{x:D}{r:RV}(h:zO v x=some r):yl r=(v,x):=by
 unfold zO at h
 split at h
 ·cases h;rfl
 ·split at h
  ·rename_i hk;obtain⟨rfl,rfl⟩:=hk;cases h;rfl
  ·cases h
 ·cases h
theorem wb:∀{l:List DZ} {xs:List D} {vs:List RV},lL l xs=some vs->(vs.map λv=>(yl v).1)=l/\(vs.map λv=>(yl v).2)=xs
 |[],[],_,h=>by cases h;exact⟨rfl,rfl⟩
 |[],_::_,_,h=>by cases h
 |_::_,[],_,h=>by cases h
 |v::l,x::xs,vs,h=>by
  simp only[lL]at h
  split at h
  ·rename_i r hr;obtain⟨dZ,h1,rfl⟩:=ad.1 h;obtain⟨h2,h3⟩:=wb h1;simp only[aQ,h2,h3,PS hr];exact⟨trivial,trivial⟩
  ·cases h
theorem PN{a:SA}{xs:List D}{r:A}(h:k8 a xs=some r):zH r=(a,xs):=by
 cases a with
 |val ag l=>
  simp only[k8]at h;obtain⟨vs,h1,rfl⟩:=ad.1 h;obtain⟨h2,h3⟩:=wb h1;simp only[zH,h2,h3]
 |box l=>
  simp only[k8]at h;obtain⟨vs,h1,rfl⟩:=ad.1 h;obtain⟨h2,h3⟩:=wb h1;simp only[zH,h2,h3]
theorem v8:∀{l:List SA} {xs:List D} {rs:List A},fZ l xs=some rs->pr rs=(l,xs)
 |[],[],_,h=>by cases h;rfl
 |[],_::_,_,h=>by cases h
 |a::as,xs,rs,h=>by
  obtain⟨r,Cq,h1,h2,rfl⟩:=gB h;simp only[pr,PN h1,v8 h2,bc]
theorem PQ{v:List SA×List SA}{us:List D}{r:List A×List A}(h:u5 v us=some r):Jr r=(v,us):=by
 unfold u5 at h
 split at h
 ·rename_i rs outs h1 h2;cases h;simp only[Jr,v8 h1,v8 h2,bc]
 ·cases h
theorem LN{α:Type}[DecidableEq α]{x:α}:∀{l:List α} {j:Nat},idxOf x l=some j->nth l j=some x
 |y::l,j,h=>by
  simp only[idxOf]at h
  split at h
  ·rename_i hy;cases h;rw[hy];rfl
  ·obtain⟨i,h1,rfl⟩:=ad.1 h;exact (show nth l i=some x from LN h1)
theorem aT{α:Type}:∀{l:List α} {i:Nat} {x:α},nth l i=some x->x∈l
 |y::l,0,x,h=>by cases h;exact eu
 |y::l,i+1,x,h=>cz _ (aT (l:=l) h)
theorem Mw{α:Type}[DecidableEq α]{x:α}:∀{l:List α} {j:Nat},l.Nodup->nth l j=some x->idxOf x l=some j
 |y::l,0,hn,h=>by cases h;simp[idxOf]
 |y::l,j+1,hn,h=>by
  have hy:y≠x:=λe=>(cd.1 hn).1 (e▸aT (l:=l) h);simp only[idxOf,if_neg hy,Mw (cd.1 hn).2 h,aD]
noncomputable def GF(T:Nat->Option KF)(jC:List (Nat×lF)):Gf:=λi ws=>
 match look jC i with
 |some sg=>match fZ sg.args ws with
  |some as=>match db T sg.f as with
   |some r=>(idxOf (Jr r).1 sg.res).map (·,(Jr r).2)
   |none=>none
  |none=>none
 |none=>none
theorem Cw(T:Nat->Option KF)(jC:List (Nat×lF)):TU (db T) jC (GF T jC):=by
 intro i sg hl ws j us h;simp only[GF,hl]at h
 split at h
 ·rename_i as ha
  split at h
  ·rename_i r hr;obtain⟨j',h1,h2⟩:=ad.1 h;simp only[ak]at h2;obtain⟨rfl,rfl⟩:=h2;exact⟨as,r,_,ha,LN h1,P9 r,hr⟩
  ·cases h
 ·cases h
theorem tM{T:Nat->Option KF}{jC:List (Nat×lF)}{i:Nat}{sg:lF}(hl:look jC i=some sg){ws us:List D}{as:List A}{r:List A×List A}{v:List SA×List SA}{j:Nat}(he:fZ sg.args ws=some as)
  (hr:db T sg.f as=some r) (hv:u5 v us=some r) (hj:idxOf v sg.res=some j):GF T jC i ws=some (j,us):=by
 simp only[GF,hl,he,hr,PQ hv,hj,aD]
theorem aav{T:Nat->Option KF}{jC:List (Nat×lF)}{i:Nat}{sg:lF}{hint:List Nat}{kf:KF}{t:ST}(hl:look jC i=some sg)(hT:T sg.f=some kf)(hc:(sg.args.length ==kf.np && fk kf.np 999 && decide sg.res.Nodup)=true)
  (hs:Sr hint jC kf sg=some t) {ws us:List D} {as:List A} {j:Nat} (he:fZ sg.args ws=some as) (hd:dM (GF T jC) t 0 ws=some (j,us)):GF T jC i ws=some (j,us):=by
 simp only[ab,beq_iff_eq,decide_eq_true_eq,lE]at hc;obtain⟨⟨h1,h2⟩,h3⟩:=hc;obtain⟨v,r,q1,q2,q3⟩:=VO (Cw T jC) hT (by omega) h1 hs he hd;exact tM hl he q3 q2 (Mw h3 q1)
structure iH where
 lo:Int
 hi:Int
 deriving DecidableEq
structure lK where
 kind:Int
 ranges:List iH
 names:List ByteArray
 pattern:ByteArray
 path:ByteArray
 deriving DecidableEq
structure kg where
 name:ByteArray
 value:ByteArray
 deriving DecidableEq
structure uN where
 name:ByteArray
 fx:List kg
 deriving DecidableEq
structure mh where
 root:Bool
 oI:Int
 steps:List uN
 deriving DecidableEq
structure cN where
 op:Int
 num:Int
 text:ByteArray
 path:mh
 kids:List cN
structure af where
 kind:Int
 name:ByteArray
 type:lK
 keys:List ByteArray
 unique:List ByteArray
 default:ByteArray
 given:Bool
 dY:Bool
 cP:Bool
 fixed:Bool
 min:Int
 max:Int
 when:List cN
 hX:List cN
 kids:List af
structure aR where
 name:ByteArray
 value:ByteArray
 kids:List aR
structure cy where
 op:Int
 text:ByteArray
 kids:List cy
def fm(s:ByteArray):List D:=[.str s]
def xN(b:Bool):List D:=[.bool b]
def jG(x:iH):List D:=[.int .i64 x.lo,.int .i64 x.hi]
abbrev aN(l:List ByteArray):D:=.list 1 true (l.map fm)
abbrev aX(l:List Bool):D:=.list 1 true (l.map xN)
abbrev eS(l:List iH):D:=.list 2 true (l.map jG)
def ez(x:lK):List D:=[.int .i64 x.kind,eS x.ranges,aN x.names,.str x.pattern,.str x.path]
def nL(x:kg):List D:=[.str x.name,.str x.value]
abbrev ib(l:List kg):D:=.list 2 true (l.map nL)
def jY(x:uN):List D:=[.str x.name,ib x.fx]
abbrev eI(l:List uN):D:=.list 2 false (l.map jY)
def jF(x:mh):List D:=[.bool x.root,.int .i64 x.oI,eI x.steps]
theorem cN.JY{x y:cN}(h:y∈x.kids):ah y < ah x:=by
 have h1:=aW h;cases x;simp only[cN.mk.sizeOf_spec];dsimp only at h1;omega
def bM(x:cN):List D:=[.int .i64 x.op,.int .i64 x.num,.str x.text,.bool x.path.root,.int .i64 x.path.oI,eI x.path.steps,.list 7 false (x.kids.map λy=>bM y)]
termination_by ah x
decreasing_by exact cN.JY (by assumption)
abbrev cV(l:List cN):D:=.list 7 false (l.map bM)
theorem bg(x:cN):bM x=[.int .i64 x.op,.int .i64 x.num,.str x.text,.bool x.path.root,.int .i64 x.path.oI,eI x.path.steps,cV x.kids]:=by rw[bM]
theorem af.JY{x y:af}(h:y∈x.kids):ah y < ah x:=by
 have h1:=aW h;cases x;simp only[af.mk.sizeOf_spec];dsimp only at h1;omega
def ax(x:af):List D:=[.int .i64 x.kind,.str x.name,.int .i64 x.type.kind,eS x.type.ranges,aN x.type.names,.str x.type.pattern,.str x.type.path,aN x.keys,aN x.unique,.str x.default,.bool x.given,.bool x.dY,.bool x.cP,.bool x.fixed,.int .i64 x.min,.int .i64 x.max,cV x.when,cV x.hX,.list 19 false (x.kids.map λy=>ax y)]
termination_by ah x
decreasing_by exact af.JY (by assumption)
abbrev aB(l:List af):D:=.list 19 false (l.map ax)
theorem ae(x:af):ax x=[.int .i64 x.kind,.str x.name,.int .i64 x.type.kind,eS x.type.ranges,aN x.type.names,.str x.type.pattern,.str x.type.path,aN x.keys,aN x.unique,.str x.default,.bool x.given,.bool x.dY,.bool x.cP,.bool x.fixed,.int .i64 x.min,.int .i64 x.max,cV x.when,cV x.hX,aB x.kids]:=by rw[ax]
theorem aR.JY{x y:aR}(h:y∈x.kids):ah y < ah x:=by
 have h1:=aW h;cases x;simp only[aR.mk.sizeOf_spec];dsimp only at h1;omega
def bI(x:aR):List D:=[.str x.name,.str x.value,.list 3 false (x.kids.map λy=>bI y)]
termination_by ah x
decreasing_by exact aR.JY (by assumption)
abbrev bz(l:List aR):D:=.list 3 false (l.map bI)
theorem bu(x:aR):bI x=[.str x.name,.str x.value,bz x.kids]:=by rw[bI]
theorem cy.JY{x y:cy}(h:y∈x.kids):ah y < ah x:=by
 have h1:=aW h;cases x;simp only[cy.mk.sizeOf_spec];dsimp only at h1;omega
def gA(x:cy):List D:=[.int .i64 x.op,.str x.text,.list 3 false (x.kids.map λy=>gA y)]
termination_by ah x
decreasing_by exact cy.JY (by assumption)
abbrev bK(l:List cy):D:=.list 3 false (l.map gA)
theorem aF(x:cy):gA x=[.int .i64 x.op,.str x.text,bK x.kids]:=by rw[gA]
theorem MQ{α:Type}(f:α->List D):∀{xs:List α} {x:α},x∈xs->eV (f x)<=nw (xs.map f)
 |[],_,h=>by simp at h
 |y::ys,x,h=>by
  simp -implicitDefEqProofs only [aQ,nw]
  rcases ay.1 h with rfl|h
  ·omega
  ·have:=MQ f h;omega
abbrev cD{α:Type}(f:α->List D)(l:List α):Nat:=l.length+nw (l.map f)
theorem eo{α:Type}(f:α->List D){l:List α}{x:α}(h:x∈l):eV (f x) < cD f l:=by
 have h1:=MQ f h;have h2:0 < l.length:=by cases l with|nil=>cases h|cons a l=>simp
 simp only[cD];omega
theorem lC{α:Type}(f:α->List D)(x:α)(l:List α):cD f (x::l)=eV (f x)+cD f l+1:=by
 simp only[cD,az,aQ,nw];omega
theorem FY{α:Type}(f:α->List D)(l m:List α):cD f (l++m)=cD f l+cD f m:=by
 simp only[cD,aL,dd,BO];omega
theorem SQ{α:Type}(f:α->List D)(l:List α)(i:Nat):cD f (l.take i)<=cD f l:=by
 have:=FY f (l.take i) (l.drop i);rw[bc]at this;omega
theorem MR(l:List ByteArray){s:ByteArray}(h:s∈l):s.size < cD fm l:=by
 have:=eo fm h;simp only[fm,eV,D.sz]at this;omega
theorem pO(x:lK):eV (ez x)=cD jG x.ranges+cD fm x.names+x.pattern.size+x.path.size:=by
 simp only[ez,eV,D.sz,au,cD];omega
theorem IG(x:kg):eV (nL x)=x.name.size+x.value.size:=by simp only[nL,eV,D.sz];omega
theorem vI(x:uN):eV (jY x)=x.name.size+cD nL x.fx:=by simp only[jY,eV,D.sz,au,cD];omega
theorem BN(x:mh):eV (jF x)=cD jY x.steps:=by simp only[jF,eV,D.sz,au,cD];omega
theorem nV(x:cN):eV (bM x)=x.text.size+eV (jF x.path)+cD bM x.kids:=by simp only[bg,jF,eV,D.sz,au,cD];omega
theorem dK(x:af):eV (ax x)=x.name.size+eV (ez x.type)+cD fm x.keys+cD fm x.unique+x.default.size+cD bM x.when+cD bM x.hX+cD ax x.kids:=by
 simp only[ae,ez,eV,D.sz,au,cD];omega
theorem jL(x:aR):eV (bI x)=x.name.size+x.value.size+cD bI x.kids:=by simp only[bu,eV,D.sz,au,cD];omega
section
def Jn(i:Nat):Nat->Nat->List SE
 |_,0=>[]
 |j,n+1=>.c i j::Jn i (j+1) n
abbrev Y(i:Nat):SE:=.v i
abbrev N(n:Int):SE:=.k (.int .i64 n)
abbrev U(n:Int):SE:=.k (.int .u8 n)
abbrev B(b:Bool):SE:=.k (.bool b)
abbrev Tx(l:List UInt8):SE:=.k (.str ⟨l.toArray⟩)
abbrev L(k:Nat)(fl:Bool):SE:=.k (.nil k fl)
abbrev X(i j:Nat):SE:=.c i j
abbrev o_(o:PO)(es:List SE)(t:ST):ST:=.op [] o es t
abbrev p_(gs:Gs)(t:ST):ST:=.op gs .pl [] t
abbrev c1(t:ST):ST:=.cons t .nil
abbrev r_(i n:Nat):List SE:=BQ i n
abbrev t_(i:Nat)(o:PO)(es:List SE)(t:ST):ST:=.op [(.v i,true)] o es t
abbrev f_(i:Nat)(o:PO)(es:List SE)(t:ST):ST:=.op [(.v i,false)] o es t
abbrev d_(i:Nat)(a b:ST):ST:=.gd [(.v i,true)] a b
abbrev e_(i:Nat)(a b:ST):ST:=.gd [(.v i,false)] a b
abbrev L_(es:List SE):ST:=.leaf 0 es
abbrev M1(t:ST):ST:=.map [1] t
abbrev b_(a b:ST):ST:=.seq a (.cons b .nil)
abbrev k_(a b:ST):ST:=.cons a b
abbrev h_(a b:ST):ST:=.seq a b
abbrev dJ(i j:Nat)(t:ST):ST:=.op [] .ite [.v i,.v j,.k (.bool false)] t
abbrev fN(i j:Nat)(t:ST):ST:=.op [] .ite [.v i,.k (.bool true),.v j] t
abbrev cC(i:Nat)(t:ST):ST:=.op [(.v i,true)] .pl [] t
abbrev eg(i:Nat)(t:ST):ST:=.op [(.v i,false)] .pl [] t
abbrev z_(t:ST):ST:=.seq t (.cons (.leaf 0 [.v 0]) .nil)
abbrev c_(i:Nat)(es:List SE)(t:ST):ST:=.call i es (.cons t .nil)
abbrev iP(i j n:Nat):List SE:=Jn i j n
abbrev E2:PO:=.bin .eql
abbrev N2:PO:=.bin .neq
abbrev L2:PO:=.bin .lss
abbrev G2:PO:=.bin .gtr
abbrev K2:PO:=.bin .leq
abbrev H2:PO:=.bin .geq
abbrev A2:PO:=.bin .add
abbrev S2:PO:=.bin .sub
abbrev zI(n:Int):SK:=.int .i64 n
abbrev zB(b:Bool):SK:=.bool b
abbrev zS(l:List UInt8):SK:=.str ⟨l.toArray⟩
abbrev zL(k:Nat)(fl:Bool):SK:=.nil k fl
abbrev R:=Option (Nat×List D)
noncomputable def YQ(r:Option D)(G:Gf)(t:ST)(ρ:List D):R:=match r with
 |some x=>dM G t 0 (ρ++[x])
 |none=>none
def YU(o:PO):Option (List D)->Option D
 |some xs=>aJ o xs
 |none=>none
noncomputable def RX(g:Option Bool)(G:Gf)(o:PO)(es:List SE)(t:ST)(ρ:List D):R:=match g with
 |some true=>YQ (YU o (gR ρ es)) G t ρ
 |some false=>dM G t 0 (ρ++[.bool false])
 |none=>none
noncomputable def OX(g:Option Bool)(G:Gf)(a b:ST)(ρ:List D):R:=match g with
 |some true=>dM G a 0 ρ
 |some false=>dM G b 0 ρ
 |none=>none
noncomputable def clR(r:R)(G:Gf)(ts:ST)(ρ:List D):R:=match r with
 |some (j,ws)=>dM G ts j (ρ++ws)
 |none=>none
noncomputable def clT(r:Option (List D))(G:Gf)(i:Nat)(ts:ST)(ρ:List D):R:=match r with
 |some xs=>clR (G i xs) G ts ρ
 |none=>none
def lfT(j:Nat):Option (List D)->R
 |some xs=>some (j,xs)
 |none=>none
def mpT(f:List Nat):R->R
 |some (j,σ)=>(nth f j).map (·,σ)
 |none=>none
noncomputable def sqT(r:R)(G:Gf)(ts:ST):R:=match r with
 |some (j,σ)=>dM G ts j σ
 |none=>none
noncomputable def lB(G:Gf)(bs:ST)(p:Nat×List D):Option (Sg (Nat×List D) (Nat×List D)):=Ad (dM G bs p.1 p.2)
noncomputable def lpT(r:Option (List D))(G:Gf)(h:Nat)(bs:ST):R:=match r with
 |some σ=>bR (lB G bs) (h,σ)
 |none=>none
def gsT(w:Bool):Option D->Option Bool->Option Bool
 |some (.bool b),some c=>some (if b=w then c else false)
 |_,_=>none
def elT(j:Nat):Option D->Option D
 |some x=>match XA x with
  |some cs=>nth cs j
  |none=>none
 |none=>none
def csT:Option D->Option (List D)->Option (List D)
 |some x,some xs=>some (x::xs)
 |_,_=>none
section
variable (G:Gf) (ρ:List D)
theorem aaZ(o:PO)(es:List SE)(t:ST)(j:Nat):dM G (.op [] o es t) j ρ=YQ (YU o (gR ρ es)) G t ρ:=by
 simp only[dM,gN,YQ,YU];cases gR ρ es<;>rfl
theorem aaY(p:SE×Bool)(gs:Gs)(o:PO)(es:List SE)(t:ST)(j:Nat):dM G (.op (p::gs) o es t) j ρ=RX (gN ρ (p::gs)) G o es t ρ:=by
 simp only[dM,RX,YQ,YU];generalize gN ρ (p::gs)=g;rcases g with _|_|_
 ·rfl
 ·rfl
 ·cases gR ρ es<;>rfl
theorem aaU(gs:Gs)(a b:ST)(j:Nat):dM G (.gd gs a b) j ρ=OX (gN ρ gs) G a b ρ:=(rfl)
theorem aaS(i:Nat)(es:List SE)(ts:ST)(j:Nat):dM G (.call i es ts) j ρ=clT (gR ρ es) G i ts ρ:=(rfl)
theorem aaV(j:Nat)(es:List SE)(k:Nat):dM G (.leaf j es) k ρ=lfT j (gR ρ es):=(rfl)
theorem aaX(f:List Nat)(t:ST)(k:Nat):dM G (.map f t) k ρ=mpT f (dM G t 0 ρ):=(rfl)
theorem aa0(t ts:ST)(k:Nat):dM G (.seq t ts) k ρ=sqT (dM G t 0 ρ) G ts:=(rfl)
theorem aaW(h:Nat)(es:List SE)(bs:ST)(k:Nat):dM G (.loop h es bs) k ρ=lpT (gR ρ es) G h bs:=(rfl)
theorem aaQ(a b:ST)(k:Nat):dM G (.both a b) k ρ=CB (dM G a 0 ρ) (dM G b 0 ρ):=(rfl)
theorem aaR(a b:ST):dM G (.cons a b) 0 ρ=dM G a 0 ρ:=(rfl)
theorem aaT(a b:ST)(j:Nat):dM G (.cons a b) (j+1) ρ=dM G b j ρ:=(rfl)
theorem acC(x:D)(t:ST):YQ (some x) G t ρ=dM G t 0 (ρ++[x]):=(rfl)
theorem acR(o:PO)(xs:List D):YU o (some xs)=aJ o xs:=(rfl)
theorem ack(o:PO)(es:List SE)(t:ST):RX (some true) G o es t ρ=YQ (YU o (gR ρ es)) G t ρ:=(rfl)
theorem acj(o:PO)(es:List SE)(t:ST):RX (some false) G o es t ρ=dM G t 0 (ρ++[.bool false]):=(rfl)
theorem abe(a b:ST):OX (some true) G a b ρ=dM G a 0 ρ:=(rfl)
theorem abd(a b:ST):OX (some false) G a b ρ=dM G b 0 ρ:=(rfl)
theorem aaL(xs:List D)(i:Nat)(ts:ST):clT (some xs) G i ts ρ=clR (G i xs) G ts ρ:=(rfl)
theorem aaK(j:Nat)(ws:List D)(ts:ST):clR (some (j,ws)) G ts ρ=dM G ts j (ρ++ws):=(rfl)
theorem ab0(j:Nat)(xs:List D):lfT j (some xs)=some (j,xs):=(rfl)
theorem ab_(f:List Nat)(j:Nat)(σ:List D):mpT f (some (j,σ))=(nth f j).map (·,σ):=(rfl)
theorem afq(j:Nat)(σ:List D)(ts:ST):sqT (some (j,σ)) G ts=dM G ts j σ:=(rfl)
theorem ab3(σ:List D)(h:Nat)(bs:ST):lpT (some σ) G h bs=bR (lB G bs) (h,σ):=(rfl)
theorem d_v(i:Nat):SE.d ρ (.v i)=nth ρ i:=(rfl)
theorem d_k(x:SK):SE.d ρ (.k x)=some x.d:=(rfl)
theorem d_c(i j:Nat):SE.d ρ (.c i j)=elT j (nth ρ i):=by
 simp only[SE.d,elT];cases nth ρ i<;>rfl
theorem aa3(j k:Nat)(fl:Bool)(cs:List D):elT j (some (.list k fl [cs]))=nth cs j:=(rfl)
theorem aa2:gR ρ []=some []:=(rfl)
theorem Xz(e:SE)(es:List SE):gR ρ (e::es)=csT (e.d ρ) (gR ρ es):=by
 simp only[gR];cases e.d ρ with
 |none=>rfl
 |some x=>cases gR ρ es<;>rfl
theorem aaO(x:D)(xs:List D):csT (some x) (some xs)=some (x::xs):=(rfl)
theorem bl(bs:ST)(h:Nat)(σ:List D):lB G bs (h,σ)=Ad (dM G bs h σ):=(rfl)
theorem gO(j:Nat)(σ:List D):Ad (some (j,σ))=some (if j % 2=0 then .go (j / 2,σ) else .out (j / 2,σ)):=(rfl)
end
theorem ya(op:BinOp)(k:IntKind)(a b:Int):aJ (.bin op) [.int k a,.int k b]=Pw op k a b:=by
 simp only[aJ,M_,if_true];cases Pw op k a b<;>rfl
theorem R2(op:BinOp)(a b:ByteArray):aJ (.bin op) [.str a,.str b]=Px op a b:=by
 simp only[aJ,M_];cases Px op a b<;>rfl
theorem acS(op:BinOp)(a b:Bool):aJ (.uG op) [.bool a,.bool b]=Pv op a b:=(rfl)
theorem Y0(b:Bool):aJ .not [.bool b]=some (.bool (!b)):=(rfl)
theorem Vo(k k':IntKind)(a:Int):aJ (.conv k) [.int k' a]=some (.int k (k.wrap a)):=(rfl)
theorem YZ(k:IntKind)(a:Int):aJ .neg [.int k a]=some (.int k (k.wrap (-a))):=(rfl)
theorem YX(k:Nat)(fl:Bool)(es:List (List D)):aJ .len [.list k fl es]=some (.int .i64 es.length):=(rfl)
theorem Y2(t:ByteArray):aJ .kJ [.str t]=some (.int .i64 t.size):=(rfl)
theorem Vr(b y:Bool):aJ .ite [.bool b,.bool true,.bool y]=some (.bool (b ||y)):=by cases b<;>rfl
theorem Vq(b y:Bool):aJ .ite [.bool b,.bool y,.bool false]=some (.bool (b && y)):=by cases b<;>rfl
theorem YV(o k:Nat)(fl:Bool)(cs:List D):aJ (.eP o) [.list k fl [cs]]=nth cs o:=(rfl)
theorem Bv(n k:Nat)(fl:Bool)(cs:List D):aJ (.has n) [.list k fl [cs]]=if n<=cs.length then some (.bool false) else none:=(rfl)
theorem acT(k:Nat)(fl:Bool)(es:List (List D))(n:Int)(h:0<=n):aJ (.el k) [.list k fl es,.int .i64 n]=(nth es n.toNat).map λe=>.list 0 false [e]:=by simp only[aJ,h,and_self,if_true]
theorem xk(k:Nat)(fl:Bool)(es:List (List D))(n:Nat):aJ (.el k) [.list k fl es,.int .i64 (n:Int)]=(nth es n).map λe=>.list 0 false [e]:=by
 rw[acT k fl es n (by omega),cE]
theorem YW(k:Nat)(fl:Bool)(es:List (List D)):aJ (.el k) [.list k fl es,.int .i64 0]=(nth es 0).map λe=>.list 0 false [e]:=xk k fl es 0
theorem lu(k:Nat)(fl:Bool)(es:List (List D))(n:Nat)(h:n < es.length):aJ .kQ [.list k fl es,.int .i64 (n:Int)]=some (.bool false):=by
 simp only[aJ,cE];rw[if_pos ⟨by omega,h⟩]
theorem ek(t:ByteArray)(n:Nat)(h:n < t.size):aJ .kV [.str t,.int .i64 (n:Int)]=some (.int .u8 (da t n)):=by
 simp only[aJ,cE];rw[if_pos ⟨by omega,h⟩]
theorem Y1:aJ .pl []=some (.bool false):=(rfl)
theorem Kh(k by_:Nat)(fl:Bool)(es ja:List (List D))(h:(es.length+ja.length) * by_<=room/\es.length+ja.length<=maxLen):aJ (.app k by_) [.list k fl es,.list k fl ja]=some (.list k fl (es++ja)):=by
 simp only[aJ,h.1,h.2,and_self,if_true]
theorem YY(a b:Int):aJ .max [.int .i64 a,.int .i64 b]=some (.int .i64 (if a < b then b else a)):=(rfl)
theorem tj(k:Nat)(fl:Bool):aJ (.dV k fl) []=some (.list k fl []):=by
 simp only[aJ,aK,Nat.zero_mod,if_true,Nat.zero_div,chunk];simp
theorem ZT(k:IntKind)(n:Int):SK.d (.int k n)=.int k n:=(rfl)
theorem VI(b:Bool):SK.d (.bool b)=.bool b:=(rfl)
theorem ZV(t:ByteArray):SK.d (.str t)=.str t:=(rfl)
theorem ZU(k:Nat)(fl:Bool):SK.d (.nil k fl)=.list k fl []:=(rfl)
theorem abg(ρ:List D)(e:SE)(w:Bool)(gs:Gs)(c:Bool)(hg:gN ρ gs=some c):gN ρ ((e,w)::gs)=gsT w (e.d ρ) (some c):=by
 simp only[gN];cases e.d ρ with
 |none=>rfl
 |some x=>cases x<;>simp only[gsT,hg]<;>split<;>rfl
theorem XK(ρ:List D)(e:SE)(w:Bool):gN ρ [(e,w)]=gsT w (e.d ρ) (some true):=abg ρ e w [] true rfl
theorem abi(b:Bool):gsT true (some (.bool b)) (some true)=some b:=by cases b<;>rfl
theorem abh(b:Bool):gsT false (some (.bool b)) (some true)=some (!b):=by cases b<;>rfl
attribute [go_sem] ya R2 acS Y0 Vo YZ YX Y2 Vr Vq YV Bv xk YW Y1 YY tj ZT VI ZV ZU XK abi abh
attribute [go_sem] aaZ aaY aaU aaS aaV aaX aa0 aaW aaQ aaR aaT acC acR ack acj abe abd aaL aaK ab0 ab_ afq ab3 d_v d_k d_c aa3 aa2 Xz aaO Jl
attribute [go_sem] Jn
attribute [go_sem] bD Nat.reduceMod Nat.reduceDiv aw reduceIte Int.reduceEq Int.reduceLT Int.reduceLE Int.reduceAdd Int.reduceSub Int.reduceNeg
end
end Go.Proofs.YtcdjbelccndadaaGreatDoor
