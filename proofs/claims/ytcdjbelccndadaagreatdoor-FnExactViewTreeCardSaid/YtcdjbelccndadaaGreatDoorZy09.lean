/- Part of the proof. Condition: none. -/
import Derived.Test.YtcdjbelccndadaaGreatDoorZy07
import Derived.Test.YtcdjbelccndadaaGreatDoorZy08
set_option linter.unusedVariables false
set_option linter.unusedSimpArgs false
open Bool renaming and_eq_true->ab,false_eq_true->av,and_self_left->br,false_ne_true->ck,not_eq_true'->cq,true_and->cB,eq_false_iff->cT,eq_iff_iff->dC,false_and->er,and_true->fo,and_assoc->fq,not_not->fS,or_assoc->fT,and_self->iL,false_or->iM,or_false->iN,and_false->iW,or_true->jr,not_false->kb,not_true->nb,true_or->sI
open Int renaming toNat_natCast->cE,natCast_nonneg->cW,lt_irrefl->eA,zero_add->oK
open List renaming cons_append->ai,nil_append->ao,length_map->au,length_cons->az,replicate->aE,append_nil->aG,length_nil->aK,length_append->aL,mem_append->aM,map_cons->aQ,all_eq_true->aS,take_length->aU,drop_zero->aV,sizeOf_lt_of_mem->aW,length_take->a_,take_zero->ba,append_assoc->bh,range->bE,all_cons->bT,mem_singleton->ct,drop_length->cu,take_succ_cons->cx,mem_cons_of_mem->cz,length_eq_one_iff->cJ,map_append->dd,map_id'->dz,map_nil->dB,mem_cons_self->eu,drop_of_length_le->eB,replicate_succ->fu,isEmpty_nil->gK,isEmpty_cons->iA,getElem?_eq_getElem->iO,any_eq_true->kv,any_cons->kS,map_take->nc,map_const'->nY,flatMap_cons->pU,getElem_append_left->qF,foldl_cons->tq,length_filter_le->tC,foldl_nil->uE
open Nat renaming le_refl->aj,lt_irrefl->aq,reduceEqDiff->aw,le_trans->aA,lt_succ_self->aO,reduceLeDiff->aY,reduceBNe->aZ,zero_add->bm,reduceAdd->bD,mul_one->nG,reduceLT->oL
open Option renaming map_eq_some_iff->ad,map_some->aD,isSome_none->eh,isSome_some->gP,getD_some->mH
open Option.some renaming injEq->aa,inj->eM
open SizeOf renaming sizeOf->ah
open UInt8 renaming ofNat->cL
namespace Go.Proofs.YtcdjbelccndadaaGreatDoor
set_option maxRecDepth 100000
set_option maxHeartbeats 4000000
section
attribute [go_sem] Cs Pz QG Ih Uc rsl
section
variable (T:Nat->Option KF)(cf:Cf)(mf:Mf)(a b:K)(s:St)(d:Option Nat)(o:KO)(x y:Option (Ex×St))
@[go_sem] theorem y1:cnd T mf (.d (.bool true)) a b s=ev T mf a s:=rfl
@[go_sem] theorem y2:cnd T mf (.d (.bool false)) a b s=ev T mf b s:=rfl
@[go_sem] theorem y3:WJ (.d (.bool true)) x y=x:=rfl
@[go_sem] theorem y4:WJ (.d (.bool false)) x y=y:=rfl
@[go_sem] theorem y5:Wl cf mf s d o true (.d (.bool true))=yn cf mf s d o:=rfl
@[go_sem] theorem y6:Wl cf mf s d o false (.d (.bool false))=yn cf mf s d o:=rfl
@[go_sem] theorem y7:Wl cf mf s d o true (.d (.bool false))=some (s.put d .qZ):=rfl
@[go_sem] theorem y8:Wl cf mf s d o false (.d (.bool true))=some (s.put d .qZ):=rfl
@[go_sem] theorem y9(w:Bool):Wl cf mf s d o w .qZ=some (s.put d .qZ):=rfl
end
theorem n8(a:Int)(t:ByteArray)(l:List cy):aJ (.dV 3 false) [.int .i64 a,.str t,bK l]=some (.list 3 false [[.int .i64 a,.str t,bK l]]):=kH 3 _ rfl (by decide)
theorem On(a b:Int)(t u:ByteArray)(l m:D):aJ (.dV 3 false) [.int .i64 a,.str t,l,.int .i64 b,.str u,m]=some (.list 3 false [[.int .i64 a,.str t,l],[.int .i64 b,.str u,m]]):=by
 simp[aJ,chunk]
theorem D0{l:List cy}(h:l.length<=mg)(op:Int)(t:ByteArray)(ks:List cy):aJ (.app 3 48) [bK l,.list 3 false [[.int .i64 op,.str t,bK ks]]]=some (bK (l++[⟨op,t,ks⟩])):=by
 have h:=fj 3 48 false (l.map gA) [[.int .i64 op,.str t,bK ks]] (by decide) (by simp only[mg,au,az,aK]at *;omega);rw[h];simp[bK,aF]
theorem P1(a:Int)(t:ByteArray)(ks:List cy):D.list 3 false [[.int .i64 a,.str t,bK ks]]=bK [⟨a,t,ks⟩]:=by simp[bK,aF]
theorem P2(a b:Int)(t u:ByteArray)(ks ms:List cy):D.list 3 false [[.int .i64 a,.str t,bK ks],[.int .i64 b,.str u,bK ms]]=bK [⟨a,t,ks⟩,⟨b,u,ms⟩]:=by simp[bK,aF]
theorem Pk{l:List cy}(h:l.length<=mg)(x:cy):aJ (.app 3 48) [bK l,bK [x]]=some (bK (l++[x])):=by
 have:=D0 h x.op x.text x.kids;rw[P1]at this;cases x;exact this
theorem aaB(op:Int)(t:ByteArray)(ks:List cy):aJ (.app 3 48) [.list 3 false [],.list 3 false [[.int .i64 op,.str t,bK ks]]]=some (bK [⟨op,t,ks⟩]):=D0 (l:=[]) (by decide) op t ks
theorem bO(p:cy):(⟨p.op,p.text,p.kids⟩:cy)=p:=by cases p;rfl
theorem Zi(n:Nat):∀p:cy,ah p < n->uv 64 p=true->G 224 (gA p)=some (0,gA p):=by
 induction n with
 |zero=>intro p h;omega
 |succ n ih=>
  intro p hz hp;have hlen:=ze hp;have hk:∀k∈p.kids,G 224 (gA k)=some (0,gA k):=λk hk=>ih k (by have:=cy.JY hk;omega) (zd hp hk);refine bY aee (by rw[aF];rfl) ?_;have hl:=sT (b:=lB G wQ) p.kids (λe=>e) (λi=>(0,[.int .i64 (i:Int),.int .i64 p.op,.str p.text,bK p.kids,.int .i64 0,.str ⟨#[]⟩,.int .i64 p.op,.str p.text]))
   (λi a=>(1,[.int .i64 (i:Int),.int .i64 p.op,.str p.text,bK p.kids,.int .i64 0,.str ⟨#[]⟩,.int .i64 p.op,.str p.text,bK a]))
   (0,[.int .i64 0,.bool false,.int .i64 p.op,.str p.text,bK p.kids,.int .i64 0,.str ⟨#[]⟩,.int .i64 p.op,.str p.text])
   (λa=>(1,[.int .i64 p.kids.length,.bool false,.int .i64 p.op,.str p.text,bK p.kids,.int .i64 0,.str ⟨#[]⟩,.int .i64 p.op,.str p.text,bK a])) (by
    intro k hn;have hi:=aP hn;have hw:=wj (i:=0) (n:=p.kids.length) hi (by simp only[mg];omega);have e1:=hk k (aT hn);have e2:=G7 hn;rw[n0]at e2;have hw1:IntKind.i64.wrap 1=1:=wrap_i64 (by decide);rw[aF]at e1;have oU:(0:Int) < p.kids.length:=by omega
    simp only[go_sem,bl,wQ,n0,oU,e2,oD];simp only[go_sem,aF k,e1,Gu,n8,aaB,bO,hw1]) (by
    intro i k hn Gq;have hi:=aP hn;have hw:=wj (i:=i) (n:=p.kids.length) hi (by simp only[mg];omega);have e1:=hk k (aT hn);have e2:=G7 hn;have e3:=λ(op:Int) (t:ByteArray) (ks:List cy)=>D0 (l:=p.kids.take i) (by rw[a_];simp only[mg];omega) op t ks;rw[aF]at e1;simp only[go_sem,bl,wQ,dz,hi,e2,oD];simp only[go_sem,aF k,e1,Gu,n8,e3,bO,hw]) (by
    intro h;simp only[go_sem,bl,wQ,h,n0,aK,eA]) (by
    intro h;simp only[go_sem,bl,wQ,aq,dz])
  rw[n0]at hl;simp only[go_sem,t224,aF p,hl];cases Cm:p.kids with
  |nil=>simp only[go_sem,gK];rfl
  |cons s l=>simp only[go_sem,iA,dz]
theorem ahH{p:cy}(hp:uv 64 p=true):G 224 (gA p)=some (0,gA p):=Zi _ p (aO _) hp
section
variable {s:ByteArray} {alt:Nat->PR}
theorem NZ(tt:s.size<=30){i:Nat}{l:List cy}(hl:l.length<=100)(hM:sv s i=true)(agw:zt 222 s i 1 3 false (tK alt s i)) :
  ∃(p:cy) (k:Nat) (b:Bool),lB G gU (0,[.int .i64 0,.str ⟨#[]⟩,.str s,.int .i64 (i:Int),.bool false,bK l])=some (.go (0,[.int .i64 0,.str ⟨#[]⟩,.str s,.int .i64 (k:Int),.bool b,bK (l++[p])]))/\PA s i 1 (pN alt s i) p k b:=by
 have hs:s.size<=mg:=by simp only[mg];omega
 have C7:l.length<=mg:=by simp only[mg];omega
 simp only[sv,ab,decide_eq_true_eq,cq,decide_eq_false_iff_not]at hM;obtain⟨hi,m1,m2⟩:=hM;have f4:=ek s i hi;have fa:=λop t ks=>D0 C7 op t ks;have fb:=λx=>Pk C7 x;obtain⟨j,p,k,b,hj,hg,p1,p2,p3,p4⟩:=agw;simp only[aF,ai,ao]at hg;cases b with
 |true=>
  have f2:=λc=>FI (s:=s) (i:=(k:Int)) (c:=c);have hr:pN alt s i=none:=by
   unfold pN;cases hr:tK alt s i with
   |none=>rfl
   |some q=>rw[hr]at p4;cases p4.1
  rw[hr];refine⟨p,k,true,?_,p1,p2,p3,rfl⟩
  match j,hj with
  |0,_=>simp only[go_sem,hi,m1,m2,f4,hg,Gu,n8,fa,bO,bl,gU,f2]
  |1,_=>simp only[go_sem,hi,m1,m2,f4,hg,qY,n8,fa,bO,bl,gU,f2]
  |2,_=>simp only[go_sem,hi,m1,m2,f4,hg,n8,fa,bO,bl,gU,f2]
 |false=>
  cases hr:tK alt s i with
  |none=>rw[hr]at p4;cases p4
  |some q=>
   rw[hr]at p4;obtain⟨_,rfl,p5⟩:=p4;have NA:pN alt s i=some (Bt s p k):=by rw[pN,hr];rfl
   have g1:=MD (n:=64) (by decide) (s:=s) k p1;have g2:=MB s p k;have q4:=ahH p1;rw[aF]at q4;have h3:gA ⟨4,eT,[p]⟩=[.int .i64 4,.str ⟨#[]⟩,bK [p]]:=aF _;rw[NA];unfold Bt at g1 g2 ⊢;cases c1:fW s k 42 with
   |true=>
    have f2:=o7 hs c1;have hk:=lj c1;rw[c1]at g1 g2;refine⟨⟨4,eT,[p]⟩,k+1,false,?_,g1,by omega,by omega,rfl,rfl,by omega⟩
    match j,hj with
    |0,_=>simp only[go_sem,hi,m1,m2,f4,hg,Gu,n8,fb,bO,eT,bl,gU,f2,P1]
    |1,_=>simp only[go_sem,hi,m1,m2,f4,hg,qY,n8,fb,bO,eT,bl,gU,f2,P1]
    |2,_=>simp only[go_sem,hi,m1,m2,f4,hg,n8,fb,bO,eT,bl,gU,f2,P1]
   |false=>
    have f2:=o6 c1;rw[c1]at g1 g2;cases c2:fW s k 43 with
    |true=>
     have f3:=o7 hs c2;have hk:=lj c2;rw[c2]at g1 g2;refine⟨⟨2,eT,[p,⟨4,eT,[p]⟩]⟩,k+1,false,?_,g1,by omega,by omega,rfl,rfl,by omega⟩
     match j,hj with
     |0,_=>simp only[go_sem,hi,m1,m2,f4,hg,Gu,n8,fb,bO,eT,bl,gU,f2,f3,q4,P1,On,P2]
     |1,_=>simp only[go_sem,hi,m1,m2,f4,hg,Gu,qY,n8,fb,bO,eT,bl,gU,f2,f3,q4,P1,On,P2]
     |2,_=>simp only[go_sem,hi,m1,m2,f4,hg,Gu,n8,fb,bO,eT,bl,gU,f2,f3,q4,P1,On,P2]
    |false=>
     have f3:=o6 c2;rw[c2]at g1 g2;cases c3:fW s k 63 with
     |true=>
      have f5:=o7 hs c3;have hk:=lj c3;rw[c3]at g1 g2;refine⟨⟨5,eT,[p]⟩,k+1,false,?_,g1,by omega,by omega,rfl,rfl,by omega⟩
      match j,hj with
      |0,_=>simp only[go_sem,hi,m1,m2,f4,hg,Gu,n8,fb,bO,eT,bl,gU,f2,f3,f5,P1]
      |1,_=>simp only[go_sem,hi,m1,m2,f4,hg,qY,n8,fb,bO,eT,bl,gU,f2,f3,f5,P1]
      |2,_=>simp only[go_sem,hi,m1,m2,f4,hg,n8,fb,bO,eT,bl,gU,f2,f3,f5,P1]
     |false=>
      have f5:=o6 c3;refine⟨p,k,false,?_,p1,p2,p3,rfl,rfl,p5⟩
      match j,hj with
      |0,_=>simp only[go_sem,hi,m1,m2,f4,hg,Gu,n8,fa,bO,bl,gU,f2,f3,f5]
      |1,_=>simp only[go_sem,hi,m1,m2,f4,hg,qY,n8,fa,bO,bl,gU,f2,f3,f5]
      |2,_=>simp only[go_sem,hi,m1,m2,f4,hg,n8,fa,bO,bl,gU,f2,f3,f5]
def TV(l:List cy)(n:Nat):Prop:=l.length<=n/\∀q∈l,uv 64 q=true
theorem ng{l:List cy}{n m:Nat}{p:cy}(h:TV l n)(hp:uv 64 p=true)(hm:n+1<=m):TV (l++[p]) m:=by
 refine⟨by rw[aL];have:=h.1;simp;omega,λq hq=>?_⟩;rcases aM.1 hq with hq|hq
 ·exact h.2 q hq
 ·rw[ct.1 hq];exact hp
def RdL(i:Nat)(s:ByteArray)(l:List cy)(r:Option (List cy×Nat))(l':List cy)(k:Nat)(b:Bool):Prop:=TV l' 40/\i<=k/\k<=s.size/\match r with
 |some q=>b=false/\l'=l++q.1/\k=q.2
 |none=>b=true
theorem uM{i j:Nat}{l l':List cy}{p:cy}{k:Nat}{b:Bool}{r:Option (List cy×Nat)}(hij:i<=j)(h:RdL j s (l++[p]) r l' k b):RdL i s l (r.map λq=>(p::q.1,q.2)) l' k b:=by
 obtain⟨h1,h2,h3,h4⟩:=h;refine⟨h1,by omega,h3,?_⟩;cases r with
 |none=>exact h4
 |some q=>
  obtain⟨h5,h6,h7⟩:=h4;exact⟨h5,by rw[h6,bh];rfl,h7⟩
theorem UU(tt:s.size<=30){i0:Nat}(hA:∀j,i0 < j->j<=s.size->zt 223 s j 0 2 false (alt j)):∀(g i:Nat) (l:List cy),i0<=i->i<=s.size->s.size+1 - i<=g->TV l i->
  ∃(l':List cy) (k:Nat) (b:Bool),bR (lB G gU) (0,[.int .i64 0,.str ⟨#[]⟩,.str s,.int .i64 (i:Int),.bool false,bK l])=some (0,[.bool false,.int .i64 0,.str ⟨#[]⟩,.str s,.int .i64 (k:Int),.bool b,bK l'])/\RdL i s l (su alt s g i) l' k b:=by
 have hs:s.size<=mg:=by simp only[mg];omega
 intro g
 induction g with
 |zero=>intro i l _ h1 h2;omega
 |succ g ih=>
  intro i l h0 h1 h2 hl;simp only[su];cases hM:sv s i with
  |false=>
   simp only[av,if_false];refine⟨l,i,false,bk ?_,⟨by have:=hl.1;omega,hl.2⟩,aj _,h1,rfl,by rw[aG],rfl⟩;by_cases hi:i < s.size
   ·have f4:=ek s i hi;simp only[sv,hi,decide_true,cB]at hM;by_cases m1:da s i=124
    ·simp only[go_sem,bl,gU,hi,m1,f4]
    ·have m2:da s i=41:=by
      by_cases m2:da s i=41
      ·exact m2
      ·simp[m1,m2]at hM
     have m3:¬(41:Int)=124:=by decide
     simp only[go_sem,bl,gU,hi,m2,m3,f4]
   ·simp only[go_sem,bl,gU,hi]
  |true=>
   have hi:i < s.size:=by simp only[sv,ab,decide_eq_true_eq]at hM;exact hM.1
   simp only[if_true];obtain⟨p,k,b,e1,p1,p2,p3,p4⟩:=NZ tt (l:=l) (by have:=hl.1;omega) hM (ahG hs hi λj hj LK=>hA j (by omega) LK);cases hr:pN alt s i with
   |none=>
    rw[hr]at p4;subst p4;refine⟨l++[p],k,true,(cF e1).trans (bk ?_),ng (n:=30) ⟨by have:=hl.1;omega,hl.2⟩ p1 (by decide),p2,p3,rfl⟩;simp only[go_sem,bl,gU]
   |some q=>
    rw[hr]at p4;obtain⟨rfl,rfl,p5⟩:=p4;obtain⟨l',k',b',e2,e3⟩:=ih k (l++[p]) (by omega) p3 (by omega) (ng hl p1 (by omega));exact⟨l',k',b',(cF e1).trans e2,uM (by omega) e3⟩
theorem CP{k:cy}:aJ (.nk 3 0 3 false) [bK [k],.int .i64 0]=some (.list 0 false [gA k]):=by
 have h:nth ([k].map gA) 0=some (gA k):=rfl;simp only[aJ,Int.toNat_zero,h,G6];simp
theorem CJ{k:cy}:aJ .kQ [bK [k],.int .i64 0]=some (.bool false):=(rfl)
theorem Dk{l:List cy}:decide ((l.length:Int)=1)=decide (l.length=1):=by apply decide_eq_decide.2;omega
theorem F9{op:Int}{l:List cy}(h:l.length≠1):pR op l=⟨op,eT,l⟩:=by
 unfold pR;split
 ·exact absurd rfl h
 ·rfl
theorem ac2(tt:s.size<=30){i:Nat}(h1:i<=s.size)(hA:∀j,i < j->j<=s.size->zt 223 s j 0 2 false (alt j)):zt 225 s i 0 2 false (yz alt s i):=by
 obtain⟨l',k,b,e1,e2,e3,e4,e5⟩:=UU tt hA (s.size+1) i [] (aj _) h1 (by omega) ⟨by simp,by simp⟩;have m0:aJ (.dV 3 false) []=some (bK []):=tj 3 false;have hP:PA s i 0 (yz alt s i) (pR 2 l') k b:=by
  refine⟨sG (by have:=e2.1;omega) e2.2,e3,e4,?_⟩;unfold yz;cases hr:su alt s (s.size+1) i with
  |none=>rw[hr]at e5;exact e5
  |some q=>
   rw[hr]at e5;obtain⟨h5,h6,h7⟩:=e5;subst h6 h7;exact⟨h5,rfl,by omega⟩
 by_cases hl:l'.length=1
 ·obtain⟨p,rfl⟩:=cJ.1 hl;have hw:pR 2 [p]=p:=rfl;rw[hw]at hP;refine⟨0,p,k,b,by decide,bY ZO rfl ?_,hP⟩;simp only[go_sem,t225,m0,e1,CP,CJ,aF p]
 ·rw[F9 hl]at hP;refine⟨1,_,k,b,by decide,bY ZO rfl ?_,hP⟩;simp only[go_sem,t225,m0,e1,Dk,hl,aF,eT]
theorem UT(tt:s.size<=30){i0:Nat}(hA:∀j,i0 < j->j<=s.size->zt 223 s j 0 2 false (alt j)):∀(g i:Nat) (l:List cy),i0<=i->i<=s.size->s.size+1 - i<=g->TV l (i+1)->
  ∃(l':List cy) (k:Nat) (b:Bool),bR (lB G qj) (0,[.int .i64 0,.str ⟨#[]⟩,.str s,.int .i64 (i:Int),.bool false,bK l])=some (0,[.bool false,.int .i64 0,.str ⟨#[]⟩,.str s,.int .i64 (k:Int),.bool b,bK l'])/\RdL i s l (xZ alt s g i) l' k b:=by
 have hs:s.size<=mg:=by simp only[mg];omega
 intro g
 induction g with
 |zero=>intro i l _ h1 h2;omega
 |succ g ih=>
  intro i l h0 h1 h2 hl;simp only[xZ];cases hM:fW s i 124 with
  |false=>
   have f1:=o6 hM;simp only[av,if_false];refine⟨l,i,false,bk ?_,⟨by have:=hl.1;omega,hl.2⟩,aj _,h1,rfl,by rw[aG],rfl⟩;simp only[go_sem,bl,qj,f1]
  |true=>
   have f1:=o7 hs hM;have hi:=lj hM;have C7:l.length<=mg:=by have:=hl.1;simp only[mg];omega
   have fb:=λx=>Pk C7 x;have fa:=λop t ks=>D0 C7 op t ks;simp only[if_true];obtain⟨j,p,k,b,hj,hg,p1,p2,p3,p4⟩:=ac2 tt (i:=i+1) (by omega) λj hj LK=>hA j (by omega) LK;simp only[aF,ai,ao]at hg;have go:lB G qj (0,[.int .i64 0,.str ⟨#[]⟩,.str s,.int .i64 (i:Int),.bool false,bK l])=some (.go (0,[.int .i64 0,.str ⟨#[]⟩,.str s,.int .i64 (k:Int),.bool b,bK (l++[p])])):=by
    match j,hj with
    |0,_=>simp only[go_sem,bl,qj,f1,hg,qY,n8,fa,bO]
    |1,_=>simp only[go_sem,bl,qj,f1,hg,n8,fa,bO]
   cases hr:yz alt s (i+1) with
   |none=>
    rw[hr]at p4;subst p4;have f2:=λc=>FI (s:=s) (i:=(k:Int)) (c:=c);refine⟨l++[p],k,true,(cF go).trans (bk ?_),ng (n:=32) ⟨by have:=hl.1;omega,hl.2⟩ p1 (by decide),by omega,p3,rfl⟩;simp only[go_sem,bl,qj,f2]
   |some q=>
    rw[hr]at p4;obtain⟨rfl,rfl,p5⟩:=p4;obtain⟨l',k',b',e2,e3⟩:=ih k (l++[p]) (by omega) p3 (by omega) (ng hl p1 (by omega));exact⟨l',k',b',(cF go).trans e2,uM (by omega) e3⟩
theorem Zh(tt:s.size<=30){i:Nat}(h1:i<=s.size)(hA:∀j,i < j->j<=s.size->zt 223 s j 0 2 false (alt j)):zt 223 s i 0 2 false (Br alt s i):=by
 obtain⟨j,p,k,b,hj,hg,p1,p2,p3,p4⟩:=ac2 tt h1 hA;simp only[aF,ai,ao]at hg;have he:∃(l':List cy) (k':Nat) (b':Bool),bR (lB G qj) (0,[.int .i64 0,.str ⟨#[]⟩,.str s,.int .i64 (k:Int),.bool b,bK [p]])=some (0,[.bool false,.int .i64 0,.str ⟨#[]⟩,.str s,.int .i64 (k':Int),.bool b',bK l'])/\PA s i 0 (Br alt s i) (pR 3 l') k' b':=by
  unfold Br;cases hr:yz alt s i with
  |none=>
   rw[hr]at p4;subst p4;have f2:=λc=>FI (s:=s) (i:=(k:Int)) (c:=c);exact⟨[p],k,true,bk (by simp only[go_sem,bl,qj,f2]),p1,p2,p3,rfl⟩
  |some q=>
   rw[hr]at p4;obtain⟨rfl,rfl,p5⟩:=p4;obtain⟨l',k',b',e1,e2,e3,e4,e5⟩:=UT tt hA (s.size+1) k [p] p2 p3 (by omega) ⟨by simp,by simpa using p1⟩;refine⟨l',k',b',e1,sG (by have:=e2.1;omega) e2.2,by omega,e4,?_⟩;dsimp only;cases Ew:xZ alt s (s.size+1) k with
   |none=>rw[Ew]at e5;exact e5
   |some q=>
    rw[Ew]at e5;obtain⟨h5,h6,h7⟩:=e5;subst h6 h7;exact⟨h5,rfl,by omega⟩
 obtain⟨l',k',b',e1,hP⟩:=he;have hg':∀(t:Nat×List D) (h:dM G (t223) 0 [.str s,.int .i64 (i:Int),.bool false]=some t),True:=λ_ _=>trivial;by_cases hl:l'.length=1
 ·obtain⟨q,rfl⟩:=cJ.1 hl;have hw:pR 3 [q]=q:=rfl;rw[hw]at hP;refine⟨0,q,k',b',by decide,bY ZN rfl ?_,hP⟩
  match j,hj with
  |0,_=>simp only[go_sem,t223,hg,qY,n8,P1,bO,e1,CP,CJ,aF q]
  |1,_=>simp only[go_sem,t223,hg,n8,P1,bO,e1,CP,CJ,aF q]
 ·rw[F9 hl]at hP;refine⟨1,_,k',b',by decide,bY ZN rfl ?_,hP⟩
  match j,hj with
  |0,_=>simp only[go_sem,t223,hg,qY,n8,P1,bO,e1,Dk,hl,aF,eT]
  |1,_=>simp only[go_sem,t223,hg,n8,P1,bO,e1,Dk,hl,aF,eT]
theorem R6(tt:s.size<=30):∀(g i:Nat),i<=s.size->s.size+1 - i<=g->zt 223 s i 0 2 false (Ow s g i)
 |0,i,h1,h2=>by omega
 |g+1,i,h1,h2=>Zh tt h1 λj hj LK=>R6 tt g j LK (by omega)
end
theorem vf(n:Nat):decide ((30:Int) < (n:Int))=decide (30 < n):=by apply decide_eq_decide.2;omega
theorem Mr(a b:Nat):decide ((a:Int)=(b:Int))=decide (a=b):=by apply decide_eq_decide.2;omega
theorem ac3{s:ByteArray}:∃j p,j < 3/\G 226 [.str s]=some (j,gA p++[.bool (ll s)])/\∀q,x_ s=some q->p=q/\uv 64 p=true:=by
 unfold ll x_;by_cases h:30 < s.size
 ·refine⟨0,⟨0,eT,[]⟩,by decide,bY Sl rfl ?_,λq hq=>by rw[if_pos h]at hq;cases hq⟩;rw[if_pos h];simp only[go_sem,t226,vf,h,aF,eh];rfl
 ·rw[if_neg h];obtain⟨j,p,k,b,hj,hg,p1,p2,p3,p4⟩:=R6 (s:=s) (by omega) (s.size+1) 0 (by omega) (by omega);simp only[aF,ai,ao,n0]at hg;cases hr:Ow s (s.size+1) 0 with
  |none=>
   rw[hr]at p4;subst p4;refine⟨0,⟨0,eT,[]⟩,by decide,bY Sl rfl ?_,λq hq=>by cases hq⟩
   match j,hj with
   |0,_=>simp only[go_sem,t226,vf,h,hg,aF,eh];rfl
   |1,_=>simp only[go_sem,t226,vf,h,hg,aF,eh];rfl
  |some q=>
   rw[hr]at p4;obtain⟨rfl,rfl,p5⟩:=p4;dsimp only;by_cases hk:k=s.size
   ·rw[if_pos hk];refine⟨j+1,p,by omega,bY Sl rfl ?_,λq hq=>by cases hq;exact⟨rfl,p1⟩⟩
    match j,hj with
    |0,_=>simp only[go_sem,t226,vf,h,hg,hk,aF,gP]
    |1,_=>simp only[go_sem,t226,vf,h,hg,hk,aF,gP]
   ·rw[if_neg hk];refine⟨0,⟨0,eT,[]⟩,by decide,bY Sl rfl ?_,λq hq=>by cases hq⟩
    match j,hj with
    |0,_=>simp only[go_sem,t226,vf,Mr,h,hg,hk,aF,eh];rfl
    |1,_=>simp only[go_sem,t226,vf,Mr,h,hg,hk,aF,eh];rfl
theorem ac4(s:ByteArray):G 227 [.str s]=some (0,[.bool (ll s)]):=by
 obtain⟨j,p,hj,hg,_⟩:=ac3 (s:=s);simp only[aF,ai,ao]at hg;refine bY aef rfl ?_
 match j,hj with
 |0,_=>simp only[go_sem,t227,hg]
 |1,_=>simp only[go_sem,t227,hg]
 |2,_=>simp only[go_sem,t227,hg]
theorem ac7{t s:ByteArray}(hs:s.size<=mg):G 236 [.str t,.str s]=some (0,[.bool (Fw t s)]):=by
 obtain⟨j,p,hj,hg,hq⟩:=ac3 (s:=t);simp only[aF,ai,ao]at hg;have Iu:∀b,aJ .pl [.bool b]=some (.bool false):=λb=>rfl;refine bY aeo rfl ?_;unfold Fw;cases hp:x_ t with
 |none=>
  have hi:ll t=false:=by rw[ll,hp];rfl
  rw[hi]at hg
  match j,hj with
  |0,_=>simp only[go_sem,t236,hg]
  |1,_=>simp only[go_sem,t236,hg]
  |2,_=>simp only[go_sem,t236,hg]
 |some q=>
  have hi:ll t=true:=by rw[ll,hp];rfl
  obtain⟨rfl,bZ⟩:=hq q hp;have h5:=ahK hs bZ;simp only[aF,ai,ao]at h5;rw[hi]at hg
  match j,hj with
  |0,_=>simp only[go_sem,t236,hg,h5,Iu]
  |1,_=>simp only[go_sem,t236,hg,h5]
  |2,_=>simp only[go_sem,t236,hg,h5,Iu]
end
section
def bC(f:Nat->Bool):List C:=(bE 256).map λx=>.d (.bool (f x))
def bV(f:Nat->Bool):List RV:=(bE 256).map λx=>.d (.bool (f x))
def eL(f:Nat->Bool)(n:Nat):List (List D):=((bE n).filter f).map λx:Nat=>[D.int .u8 (x:Int)]
def T7(f:Nat->Bool):ByteArray:=⟨(((bE 256).filter f).map cL).toArray⟩
theorem mz:((0:Nat):Int)=0:=(rfl)
theorem LO(f:Nat->Bool)(d:Nat):∀(l:List Nat) (j:Nat) (s:St),dU d j (l.map λx=>RV.d (.bool (f x))) s=(l.map λx=>C.d (.bool (f x)),s)
 |[],j,s=>rfl
 |x::l,j,s=>by
  simp only[aQ,dU,LO f d l (j+1) s]
theorem abK(f:Nat->Bool)(d j:Nat)(s:St):dU d j (bV f) s=(bC f,s):=LO f d _ j s
theorem Da(f:Nat->Bool)(i:Nat):∀(l:List Nat),C.jf i (l.map λx=>C.d (.bool (f x)))=l.map λx=>C.d (.bool (f x))
 |[]=>rfl
 |x::l=>by simp only[aQ,C.jf,C.kill,Da f i l]
theorem oA(f:Nat->Bool)(i:Nat):C.jf i (bC f)=bC f:=Da f i _
theorem pY(f:Nat->Bool):(bC f).all C.cell=true:=by rw[bC,List.all_map];exact aS.2 λx _=>rfl
theorem pq(f:Nat->Bool):(bC f).all C.const=true:=by rw[bC,List.all_map];exact aS.2 λx _=>rfl
theorem mL(f:Nat->Bool):(bC f).length=256:=by simp[bC]
theorem Vg{α:Type}{f:Nat->α}{n x:Nat}(h:x < n):nth ((bE n).map f) x=some (f x):=by
 rw[cU];simp[h]
theorem Xl(f:Nat->Bool){x:Nat}(h:x < 256):nth (bC f) x=some (.d (.bool (f x))):=Vg h
theorem Ua(f:Nat->Bool)(n:Nat):eL f (n+1)=eL f n++(if f n=true then [[D.int .u8 (n:Int)]] else []):=by
 simp only[eL,List.range_succ,List.filter_append,dd]
 congr 1
 by_cases h:f n=true<;>simp[h]
theorem Xy(f:Nat->Bool)(n:Nat):(eL f n).length<=n:=by
 have:=tC f (bE n)
 simpa [eL] using this
theorem CE:∀(l:List Nat),bytesOf (l.map λx:Nat=>[D.int .u8 (x:Int)])=some (l.map λx:Nat=>(x:Int))
 |[]=>rfl
 |x::l=>by simp only[aQ,bytesOf,CE l,aD]
abbrev sw:List C:=[.d (.int .i64 0),.d (.str ⟨#[]⟩),.nil 3 false]
def DN(f:Nat->Bool)(i:Nat):St:=⟨[(1,.ptr 1 0),(2,.ptr 2 0),(3,.ref 5),(6,.d (.int .i64 (i:Int)))],[(1,bC f),(2,sw)],[(5,⟨eL f i,1,true,true,true,false⟩)]⟩
theorem UZ(f:Nat->Bool):ev T tA (.loop vq) (DN f 0)=some (.exit 0,⟨[(1,.ptr 1 0),(2,.ptr 2 0),(3,.ref 5),(6,.d (.int .i64 256)),(7,.d (.bool false))],[(1,bC f),(2,sw)],[(5,⟨eL f 256,1,true,true,true,false⟩)]⟩):=by
 refine WR (DN f) 256 (λh=>by cases h) ?_ ?_
 ·simp only[go_sem,aw,Int.reduceLT,vq,DN,show ((256:Nat):Int)=256 from rfl]
 ·intro i hi;have h1:((i:Int) < 256)=True:=by simp;omega
  have hw:IntKind.i64.wrap ((i:Int)+1)=((i+1:Nat):Int):=wi hi (by decide);have hu:IntKind.u8.wrap (i:Int)=(i:Int):=wrap_u8 (by omega);have hn:=Xl f hi;have he:=Ua f i;have hl:=Xy f i;have r1:((eL f i).length+1<=room)=True:=eq_true (by simp only[room];omega);have r2:((eL f i).length+1<=maxLen)=True:=eq_true (by simp only[maxLen];omega);cases hf:f i with
  |true=>
   rw[hf,if_pos rfl]at he;rw[hf]at hn;simp only[go_sem,aw,aZ,oL,vq,DN,h1,hw,hu,hn,hi,oA,nG,r1,r2,he,cW]
  |false=>
   rw[hf,if_neg ck,aG]at he;rw[hf]at hn;simp only[go_sem,aw,vq,DN,h1,hw,hn,hi,nG,he,cW]
theorem adf(f:Nat->Bool):db T 276 [.val true (bV f)]=some ([.val true [.d (.int .i64 1),.d (.str (T7 f)),.row ⟨[],3,false,true,true,false⟩]],[]):=by
 have hl:=UZ f;have h0:eL f 0=[]:=rfl;have hb:bytesOf (eL f 256)=some (((bE 256).filter f).map λx:Nat=>(x:Int)):=CE _;have hm:(((bE 256).filter f).map λx:Nat=>(x:Int)).map (λn=>cL n.toNat)=((bE 256).filter f).map cL:=by
  rw[List.map_map];rfl
 generalize hq:(((bE 256).filter f).map λx:Nat=>(x:Int))=q at hb hm;have hc:(⟨(q.map λn=>cL n.toNat).toArray⟩:ByteArray)=T7 f:=by rw[hm];rfl
 rw[rZ (f:=276) rfl rfl];simp only[DN,h0,sw,show ((0:Nat):Int)=0 from rfl]at hl;simp only[go_sem,bD,aw,aY,aZ,oL,abK,pY,oA,hl,hb,hc]
abbrev mgK:Nat:=1048576
abbrev kU(s:ByteArray)(i:Int)(b:Bool):A:=.box [.d (.str s),.d (.int .i64 i),.d (.bool b)]
abbrev bt(c:Int):A:=.val false [.d (.int .u8 c)]
abbrev ys(b:Bool):A:=.val false [.d (.bool b)]
theorem Ey{s:ByteArray}{i i1 k k1:Int}{b b1 t:Bool}{op:Int}{tx:ByteArray}{kd:RV}(hk:(∃es,kd=.d (.list 3 false es))\/∃es,kd=.row ⟨es,3,false,false,true,true⟩)
  (h1:db T 275 [kU s i b,bt 40]=some ([ys true],[kU s i1 b])) (h2:db T 280 [kU s i1 b]=some ([.val true [.d (.int .i64 op),.d (.str tx),kd]],[kU s k b1]))
  (h3:db T 275 [kU s k b1,bt 41]=some ([ys t],[kU s k1 b1])):db T 279 [kU s i b]=some ([.val true [.d (.int .i64 op),.d (.str tx),kd]],[kU s k1 (b1 ||!t)]):=by
 have hz:(aE 256 (C.d (.bool false)))=bC λ_=>false:=by rw[bC,nY];simp
 rw[rZ (f:=279) rfl rfl,hz];rcases hk with ⟨es,rfl⟩|⟨es,rfl⟩<;>cases t<;>cases b1<;>simp only[go_sem,bD,aw,Nat.reduceMul,aY,aZ,pY,pq,oA,mL,h1,h2,h3,aY]
theorem Po(f:Nat->Bool){x:Nat}(h:x < 256):List.take x (bC f)++[C.d (.bool true)]++List.drop (x+1) (bC f)=bC λy=>f y ||decide (x=y):=by
 apply List.ext_getElem
 ·simp[bC];omega
 intro i h1 h2;simp only[mL]at h2;have e:∀g:Nat->Bool,(bC g)[i]'(by rw[mL];exact h2)=C.d (.bool (g i)):=λg=>by simp[bC]
 rw[e];have hl:((bC f).take x).length=x:=by simp[bC];omega
 by_cases hx:i < x
 ·rw[qF (by simp[hl];omega),qF (by omega),List.getElem_take,e];have:¬x=i:=by omega
  simp[this]
 ·by_cases hx2:i=x
  ·subst hx2;rw[qF (by simp[hl]),List.getElem_append_right (by omega)];simp[hl]
  ·rw[List.getElem_append_right (by simp[hl];omega),List.getElem_drop];have e2:x+1+(i - (List.take x (bC f)++[C.d (D.bool true)]).length)=i:=by simp[hl];omega
   simp only[e2];rw[e];have:¬x=i:=by omega
   simp[this]
theorem uR(f:Nat->Bool):List.drop 256 (bC f)=[]:=eB (by rw[mL];exact aj _)
theorem La(f:Nat->Bool):List.take 256 (bC f)=bC f:=List.take_of_length_le (by rw[mL];exact aj _)
theorem Sa(f:Nat->Bool)(s:St):∀(l:List Nat),fp (kI s) (l.map λx=>C.d (.bool (f x)))=some (l.map λx=>RV.d (.bool (f x)))
 |[]=>rfl
 |x::l=>by simp only[aQ,fp,kI,Sa f s l,aD]
theorem adB(f:Nat->Bool)(s:St):fp (kI s) (bC f)=some (bV f):=Sa f s _
theorem Ix(f:Nat->Bool):∀(l:List Nat),rowsOf (l.map λx=>C.d (.bool (f x)))=[]
 |[]=>rfl
 |x::l=>by simp only[aQ,rowsOf,Ix f l]
theorem Sj(f:Nat->Bool):rowsOf (bC f)=[]:=Ix f _
abbrev rB(x:Nat):Nat->Bool:=λy=>decide (32<=y) && decide (y < x)
def ZY(c:List C)(x:Nat):St:=⟨[(0,.ptr 900 0),(2,.ptr 2 0),(3,.ptr 3 0),(5,.d (.int .i64 (x:Int)))],[(2,sw),(3,bC (rB x)),(900,c)],[]⟩
theorem Xk{x:Nat}(h:32<=x):(λy=>rB x y ||decide (x=y))=rB (x+1):=by
 funext y
 simp only[rB];by_cases h1:32<=y
 ·by_cases h2:y < x
  ·have:y < x+1:=by omega
   simp[h1,h2,this]
  ·by_cases h3:x=y
   ·subst h3;simp[h1]
   ·have:¬y < x+1:=by omega
    simp[h1,h2,h3,this]
 ·have:¬x=y:=by omega
  simp[h1,this]
theorem N7(c:List C):ev T tA (.loop tc) (ZY c 32)=some (.exit 1,⟨[(0,.ptr 900 0),(2,.ptr 2 0),(3,.ptr 3 0),(5,.d (.int .i64 127)),(28,.d (.bool false))],[(2,sw),(3,bC (rB 127)),(900,c)],[]⟩):=by
 have h:∀m x,x+m=127->32<=x->ev T tA (.loop tc) (ZY c x)=some (.exit 1,⟨[(0,.ptr 900 0),(2,.ptr 2 0),(3,.ptr 3 0),(5,.d (.int .i64 127)),(28,.d (.bool false))],[(2,sw),(3,bC (rB 127)),(900,c)],[]⟩):=by
  intro m
  induction m with
  |zero=>
   intro x hx _;obtain rfl:x=127:=by omega
   rw[fI];simp only[go_sem,aw,Int.reduceLE,tc,ZY,show ((127:Nat):Int)=127 from rfl]
  |succ m ih=>
   intro x hx h32;have h1:((x:Int)<=126)=True:=eq_true (by omega);have hw:IntKind.i64.wrap ((x:Int)+1)=((x+1:Nat):Int):=wi (n:=127) (by omega) (by decide);have h2:(x < 256)=True:=eq_true (by omega);have h3:(x+1<=256)=True:=eq_true (by omega);have hs:=Po (rB x) (x:=x) (by omega);rw[Xk h32]at hs;have hb:ev T tA tc (ZY c x)=some (.norm,ZY c (x+1)):=by
    simp only[go_sem,aw,aZ,tc,ZY,h1,hw,h2,h3,hs,mL,nG,bm,cW]
   rw[fI,hb];exact ih (x+1) (by omega) (by omega)
 exact h 95 32 rfl (by omega)
theorem Yy{s:ByteArray}{i i1:Int}{b:Bool}(h1:db T 275 [kU s i b,bt 40]=some ([ys false],[kU s i b]))(h2:db T 275 [kU s i b,bt 46]=some ([ys true],[kU s i1 b])) :
  db T 279 [kU s i b]=some ([.val true [.d (.int .i64 1),.d (.str (T7 (rB 127))),.row ⟨[],3,false,true,true,false⟩]],[kU s i1 b]):=by
 have hz:(aE 256 (C.d (.bool false)))=bC (rB 32):=by
  have:rB 32=λ_=>false:=by funext y;simp[rB]
  rw[this,bC,nY];simp
 have hl:=N7 [.d (.str s),.d (.int .i64 i1),.d (.bool b)];simp only[ZY,sw,show ((32:Nat):Int)=32 from rfl]at hl;have hc:=adf (rB 127);rw[rZ (f:=279) rfl rfl,hz];simp only[go_sem,bD,aw,Nat.reduceMul,aY,aZ,pY,pq,oA,mL,uR,La,adB,Sj,h1,h2,hl,hc,aY]
theorem Rm{s:ByteArray}{i i1 a:Int}{b b1:Bool}(h1:db T 275 [kU s i b,bt 40]=some ([ys false],[kU s i b]))(h2:db T 275 [kU s i b,bt 46]=some ([ys false],[kU s i b]))(h3:db T 275 [kU s i b,bt 91]=some ([ys false],[kU s i b]))
  (h4:db T 278 [kU s i b]=some ([.val false [.d (.int .u8 a)]],[kU s i1 b1])) :
  db T 279 [kU s i b]=some ([.val true [.d (.int .i64 1),.d (.str ⟨[cL a.toNat].toArray⟩),.row ⟨[],3,false,true,true,false⟩]],[kU s i1 (b1 ||(decide (a=95) ||decide (a=46)))]):=by
 have hz:(aE 256 (C.d (.bool false)))=bC (rB 32):=by
  have:rB 32=λ_=>false:=by funext y;simp[rB]
  rw[this,bC,nY];simp
 rw[rZ (f:=279) rfl rfl,hz];by_cases c1:a=95
 ·have e1:(a=95)=True:=eq_true c1;simp only[go_sem,bD,aw,aY,aZ,oL,pY,pq,oA,mL,uR,h1,h2,h3,h4,e1,bytesOf,aY]
 ·have e1:(a=95)=False:=eq_false c1;by_cases c2:a=46
  ·have e2:(a=46)=True:=eq_true c2;simp only[go_sem,bD,aw,aY,aZ,oL,pY,pq,oA,mL,uR,h1,h2,h3,h4,e1,e2,bytesOf,aY]
  ·have e2:(a=46)=False:=eq_false c2;simp only[go_sem,bD,aw,aY,aZ,oL,pY,pq,oA,mL,uR,h1,h2,h3,h4,e1,e2,bytesOf,aY]
abbrev rC(s:ByteArray)(i:Int)(b:Bool):List C:=[.d (.str s),.d (.int .i64 i),.d (.bool b)]
def Sp(c:List C)(n:Nat)(z x:Nat)(f:Nat->Bool):St:=⟨[(0,.ptr 900 0),(2,.ptr 2 0),(3,.ptr 3 0),(6,.d (.int .i64 (n:Int))),(8,.d (.int .u8 (z:Int))),(9,.d (.int .i64 (x:Int)))],[(2,sw),(3,bC f),(900,c)],[]⟩
def rg(f:Nat->Bool)(x z:Nat):Nat->Bool:=λy=>f y ||(decide (x<=y) && decide (y<=z))
theorem W5{f:Nat->Bool}{x z:Nat}(h:z < x):rg f x z=f:=by
 funext y
 unfold rg;by_cases h1:x<=y
 ·have:¬y<=z:=by omega
  simp[this]
 ·simp[h1]
theorem aiu{f:Nat->Bool}{x z:Nat}(h:x<=z):rg (λy=>f y ||decide (x=y)) (x+1) z=rg f x z:=by
 funext y
 unfold rg;by_cases h1:x=y
 ·subst h1;simp[h]
 ·by_cases h2:x<=y
  ·have:x+1<=y:=by omega
   simp[h1,h2,this]
  ·have:¬x+1<=y:=by omega
   simp[h1,h2,this]
theorem Dd(c:List C)(n z:Nat)(hz:z < 256):∀(m x:Nat) (f:Nat->Bool),x+m=z+1->∃x':Int,ev T tA (.loop oB) (Sp c n z x f)=some (.exit 5,⟨[(0,.ptr 900 0),(2,.ptr 2 0),(3,.ptr 3 0),(6,.d (.int .i64 (n:Int))),(8,.d (.int .u8 (z:Int))),(9,.d (.int .i64 x')),(72,.d (.bool false))],[(2,sw),(3,bC (rg f x z)),(900,c)],[]⟩)
 |0,x,f,hx=>by
  have h1:((x:Int)<=(z:Int))=False:=eq_false (by omega);have hw:IntKind.i64.wrap (z:Int)=(z:Int):=bJ (by omega);refine⟨x,?_⟩;rw[W5 (by omega),fI];simp only[go_sem,aw,oB,Sp,h1,hw]
 |m+1,x,f,hx=>by
  have h1:((x:Int)<=(z:Int))=True:=eq_true (by omega);have hwz:IntKind.i64.wrap (z:Int)=(z:Int):=bJ (by omega);have hw:IntKind.i64.wrap ((x:Int)+1)=((x+1:Nat):Int):=wi (n:=256) (by omega) (by decide);have h2:(x < 256)=True:=eq_true (by omega);have h3:(x+1<=256)=True:=eq_true (by omega);have hs:=Po f (x:=x) (by omega);obtain⟨x',ih⟩:=Dd c n z hz m (x+1) (λy=>f y ||decide (x=y)) (by omega);rw[aiu (by omega)]at ih;have hb:ev T tA oB (Sp c n z x f)=some (.norm,Sp c n z (x+1) (λy=>f y ||decide (x=y))):=by
   simp only[go_sem,aw,aZ,oB,Sp,h1,hw,hwz,h2,h3,hs,mL,nG,bm,cW]
  refine⟨x',?_⟩;rw[fI,hb];exact ih
theorem AO(c:List C)(n z x:Nat)(f:Nat->Bool)(hz:z < 256)(hx:x < 256):∃x':Int,ev T tA (.loop oB) (Sp c n z x f)=some (.exit 5,⟨[(0,.ptr 900 0),(2,.ptr 2 0),(3,.ptr 3 0),(6,.d (.int .i64 (n:Int))),(8,.d (.int .u8 (z:Int))),(9,.d (.int .i64 x')),(72,.d (.bool false))],[(2,sw),(3,bC (rg f x z)),(900,c)],[]⟩):=by
 by_cases h:x<=z+1
 ·exact Dd c n z hz (z+1 - x) x f (by omega)
 ·have h1:((x:Int)<=(z:Int))=False:=eq_false (by omega);have hw:IntKind.i64.wrap (z:Int)=(z:Int):=bJ (by omega);refine⟨x,?_⟩;rw[W5 (by omega),fI];simp only[go_sem,aw,oB,Sp,h1,hw]
def B4(s:ByteArray)(i:Int)(b:Bool)(n:Nat)(f:Nat->Bool):St:=⟨[(0,.ptr 900 0),(2,.ptr 2 0),(3,.ptr 3 0),(6,.d (.int .i64 (n:Int)))],[(2,sw),(3,bC f),(900,rC s i b)],[]⟩
theorem Al{s:ByteArray}{i i1 i2 i3:Int}{b1 b3 t:Bool}{n a z0:Nat}{f:Nat->Bool}(hn:n<=mgK)(ha:a < 256)(hz:z0 < 256)(h0:n=0\/db T 275 [kU s i false,bt 93]=some ([ys false],[kU s i false]))
  (h1:db T 278 [kU s i false]=some ([.val false [.d (.int .u8 (a:Int))]],[kU s i1 b1]))
  (h2:db T 275 [kU s i1 b1,bt 126]=some ([ys t],[kU s i2 b1]))
  (h3:t=true->db T 278 [kU s i2 b1]=some ([.val false [.d (.int .u8 (z0:Int))]],[kU s i3 b3])) :
  ev T tA gh (B4 s i false n f)=some (.norm,B4 s (if t then i3 else i2) ((if t then b3 else b1) ||(t && decide (z0 < a))) (n+1) (rg f a (if t then z0 else a))):=by
 have hw:IntKind.i64.wrap ((n:Int)+1)=((n+1:Nat):Int):=wi (n:=mgK+1) (by omega) (by decide);have hwa:IntKind.i64.wrap (a:Int)=(a:Int):=bJ (by omega);have QW:∀(P:Prop),(n=0->P)->(¬n=0->db T 275 [kU s i false,bt 93]=some ([ys false],[kU s i false])->P)->P:=λP p1 p2=>by
  by_cases h:n=0
  ·exact p1 h
  ·rcases h0 with h0|h0
   ·exact absurd h0 h
   ·exact p2 h h0
 cases t with
 |false=>
  obtain⟨x',hl⟩:=AO (rC s i2 b1) n a a f ha ha;have ig:((a:Int) < (a:Int))=False:=eq_false (by omega);simp only[Sp]at hl;refine QW _ (λAi=>?_) (λAi kl=>?_)
  ·subst Ai;simp only[show ((0:Nat):Int)=0 from rfl,bm,oK]at hl hw ⊢;simp only[go_sem,bD,aw,aY,aZ,gh,B4,mz,h1,h2,ig,hwa,hl,hw,oK]
  ·have vU:((n:Int)=0)=False:=eq_false (by omega);simp only[go_sem,bD,aw,aY,aZ,gh,B4,h1,h2,kl,vU,ig,hwa,hl,hw]
 |true=>
  have h3':=h3 rfl;have fin:∀(b4:Bool),b4=(b3 ||decide (z0 < a))->∃x':Int,ev T tA (.loop oB) (Sp (rC s i3 b4) n z0 a f)=some (.exit 5,⟨[(0,.ptr 900 0),(2,.ptr 2 0),(3,.ptr 3 0),(6,.d (.int .i64 (n:Int))),(8,.d (.int .u8 (z0:Int))),(9,.d (.int .i64 x')),(72,.d (.bool false))],[(2,sw),(3,bC (rg f a z0)),(900,rC s i3 b4)],[]⟩):=λb4 _=>AO _ n z0 a f hz ha;by_cases ig:z0 < a
  ·obtain⟨x',hl⟩:=fin true (by simp[ig]);have Q2:((z0:Int) < (a:Int))=True:=eq_true (by omega);simp only[Sp]at hl;simp only[ig,decide_true,iL,jr,if_true];refine QW _ (λAi=>?_) (λAi kl=>?_)
   ·subst Ai;simp only[show ((0:Nat):Int)=0 from rfl,bm,oK]at hl hw ⊢;simp only[go_sem,bD,aw,aY,aZ,gh,B4,mz,h1,h2,h3',Q2,hwa,hl,hw,oK]
   ·have vU:((n:Int)=0)=False:=eq_false (by omega);simp only[go_sem,bD,aw,aY,aZ,gh,B4,h1,h2,h3',kl,vU,Q2,hwa,hl,hw]
  ·obtain⟨x',hl⟩:=fin b3 (by simp[ig]);have Q2:((z0:Int) < (a:Int))=False:=eq_false (by omega);simp only[Sp]at hl;simp only[ig,decide_false,iW,iN,if_true];refine QW _ (λAi=>?_) (λAi kl=>?_)
   ·subst Ai;simp only[show ((0:Nat):Int)=0 from rfl,bm,oK]at hl hw ⊢;simp only[go_sem,bD,aw,aY,aZ,gh,B4,mz,h1,h2,h3',Q2,hwa,hl,hw,oK]
   ·have vU:((n:Int)=0)=False:=eq_false (by omega);simp only[go_sem,bD,aw,aY,aZ,gh,B4,h1,h2,h3',kl,vU,Q2,hwa,hl,hw]
theorem C9{s:ByteArray}{i:Int}{n:Nat}{f:Nat->Bool}:ev T tA (.loop gh) (B4 s i true n f)=some (.exit 3,⟨[(0,.ptr 900 0),(2,.ptr 2 0),(3,.ptr 3 0),(6,.d (.int .i64 (n:Int))),(51,.d (.bool false))],[(2,sw),(3,bC f),(900,rC s i true)],[]⟩):=by
 rw[fI];simp only[go_sem,bD,aw,aY,gh,B4]
theorem NQ{s:ByteArray}{i i1:Int}{n:Nat}{f:Nat->Bool}(h0:n≠0)(h1:db T 275 [kU s i false,bt 93]=some ([ys true],[kU s i1 false])) :
  ev T tA (.loop gh) (B4 s i false n f)=some (.exit 3,⟨[(0,.ptr 900 0),(2,.ptr 2 0),(3,.ptr 3 0),(6,.d (.int .i64 (n:Int))),(51,.d (.bool false))],[(2,sw),(3,bC f),(900,rC s i1 false)],[]⟩):=by
 have vU:((n:Int)=0)=False:=eq_false (by omega);rw[fI];simp only[go_sem,bD,aw,aY,aZ,gh,B4,h1,vU]
theorem Rl{s:ByteArray}{i i1 k:Int}{b b1:Bool}{n:Int}{f:Nat->Bool}(h1:db T 275 [kU s i b,bt 40]=some ([ys false],[kU s i b]))(h2:db T 275 [kU s i b,bt 46]=some ([ys false],[kU s i b]))(h3:db T 275 [kU s i b,bt 91]=some ([ys true],[kU s i1 b]))
  (hl:ev T tA (.loop gh) (B4 s i1 b 0 λ_=>false)=some (.exit 3,⟨[(0,.ptr 900 0),(2,.ptr 2 0),(3,.ptr 3 0),(6,.d (.int .i64 n)),(51,.d (.bool false))],[(2,sw),(3,bC f),(900,rC s k b1)],[]⟩)) :
  db T 279 [kU s i b]=some ([.val true [.d (.int .i64 1),.d (.str (T7 f)),.row ⟨[],3,false,true,true,false⟩]],[kU s k b1]):=by
 have hz:(aE 256 (C.d (.bool false)))=bC λ_=>false:=by rw[bC,nY];simp
 have hc:=adf f;simp only[B4,mz]at hl;rw[rZ (f:=279) rfl rfl,hz];simp only[go_sem,bD,aw,Nat.reduceMul,aY,aZ,pY,pq,oA,mL,uR,La,adB,Sj,h1,h2,h3,hl,hc,aY]
end
section
theorem lx{s:ByteArray}{i:Nat}{c:Int}{b:Bool}(hs:s.size<=mg)(h:fW s i c=true):G 275 [.str s,.int .i64 (i:Int),.bool b,.int .u8 c]=some (0,[.bool true,.str s,.int .i64 ((i+1:Nat):Int),.bool b]):=by
 obtain⟨hi,hb⟩:=kq.1 h;have hw:=wj hi hs;refine bY ZP rfl ?_;simp only[go_sem,VS,hi,hb,ek _ _ hi,hw]
theorem lV{s:ByteArray}{i:Nat}{c:Int}{b:Bool}(h:fW s i c=false):G 275 [.str s,.int .i64 (i:Int),.bool b,.int .u8 c]=some (0,[.bool false,.str s,.int .i64 (i:Int),.bool b]):=by
 refine bY ZP rfl ?_;by_cases hi:i < s.size
 ·have hb:=LR h hi;simp only[go_sem,VS,hi,hb,ek _ _ hi]
 ·simp only[go_sem,VS,hi]
theorem adg(b:Int):G 277 [.int .u8 b]=some (0,[.bool (Jp b)]):=by
 refine bY aeX rfl ?_;unfold Jp;cases hx:fg 97 122 b<;>cases hy:fg 48 57 b<;>simp only[go_sem,afL,Zs,ada,hx,hy]
 by_cases h1:b=95
 ·simp only[go_sem,h1]
 ·by_cases h2:b=45
  ·simp only[go_sem,h2]
  ·by_cases h3:b=46
   ·simp only[go_sem,h3]
   ·simp only[go_sem,h1,h2,h3]
def xf(s:ByteArray)(i:Nat):Bool:=decide (i < s.size) && Jp (da s i)
theorem FJ{s:ByteArray}{i:Nat}{b:Bool}(hs:s.size<=mg)(h:xf s i=true):G 278 [.str s,.int .i64 (i:Int),.bool b]=some (0,[.int .u8 (da s i),.str s,.int .i64 ((i+1:Nat):Int),.bool b]):=by
 simp only[xf,ab,decide_eq_true_eq]at h;obtain⟨hi,hc⟩:=h;have hw:=wj hi hs;have h1:=adg (da s i);have h2:=ek s i hi;have h3:=afs i (by omega);have yq:¬s.size<=i:=by omega
 rw[hc]at h1;refine bY ZQ rfl ?_;simp only[go_sem,VT,mw,yq,h1,h2,h3,hw]
theorem Bw{s:ByteArray}{i:Nat}{b:Bool}(h:xf s i=false):G 278 [.str s,.int .i64 (i:Int),.bool b]=some (0,[.int .u8 0,.str s,.int .i64 (i:Int),.bool true]):=by
 refine bY ZQ rfl ?_;by_cases hi:i < s.size
 ·simp only[xf,hi,decide_true,cB]at h;have h1:=adg (da s i);have h2:=ek s i hi;have yq:¬s.size<=i:=by omega
  rw[h]at h1;simp only[go_sem,VT,mw,yq,h1,h2]
 ·have yq:s.size<=i:=by omega
  simp only[go_sem,VT,mw,yq]
theorem Zx(n:Nat):∀p:cy,ah p < n->uv 64 p=true->G 281 (gA p)=some (0,gA p):=by
 induction n with
 |zero=>intro p h;omega
 |succ n ih=>
  intro p hz hp;have hlen:=ze hp;have hk:∀k∈p.kids,G 281 (gA k)=some (0,gA k):=λk hk=>ih k (by have:=cy.JY hk;omega) (zd hp hk);refine bY aeY (by rw[aF];rfl) ?_;have hl:=ej (b:=lB G E8) p.kids (λi (a:List cy)=>(0,[bK p.kids,.int .i64 p.kids.length,.int .i64 (i:Int),.int .i64 p.op,.str p.text,bK p.kids,.int .i64 0,.str ⟨#[]⟩,bK a])) (λi=>p.kids.take i) (0,[bK p.kids,.int .i64 p.kids.length,.int .i64 p.kids.length,.bool false,.int .i64 p.op,.str p.text,bK p.kids,.int .i64 0,.str ⟨#[]⟩,bK p.kids]) (by
   intro i k hn;have hi:=aP hn;have hw:=wj (i:=i) (n:=p.kids.length) hi (by simp only[mg];omega);have e1:=hk k (aT hn);have e2:=G7 hn;have e3:=λ(op:Int) (t:ByteArray) (ks:List cy)=>D0 (l:=p.kids.take i) (by rw[a_];simp only[mg];omega) op t ks;rw[aF]at e1;rw[cn _ _ _ hn];simp only[go_sem,bl,E8,hi,e2,oD];simp only[go_sem,aF k,e1,Gu,n8,e3,bO,hw]) (by
   rw[aU];simp only[go_sem,bl,E8,aq]) p.kids.length 0 (by omega)
  have m0:aJ (.dV 3 false) []=some (bK []):=tj 3 false;rw[n0,ba]at hl;simp only[go_sem,afM,aF p,m0,hl]
theorem ah8{p:cy}(hp:uv 64 p=true):G 281 (gA p)=some (0,gA p):=Zx _ p (aO _) hp
theorem sc{s:ByteArray}{i i':Nat}{c:Int}{b t:Bool}(h:G 275 [.str s,.int .i64 (i:Int),.bool b,.int .u8 c]=some (0,[.bool t,.str s,.int .i64 (i':Int),.bool b])):db T 275 [kU s i b,bt c]=some ([ys t],[kU s i' b]):=by
 obtain⟨a,r,v,h1,h2,h3,h4⟩:=Cw T GB 275 _ rfl _ _ _ h;cases h1;cases h2;cases h3
 exact h4
theorem Fq{s:ByteArray}{i i':Nat}{a:Int}{b b':Bool}(h:G 278 [.str s,.int .i64 (i:Int),.bool b]=some (0,[.int .u8 a,.str s,.int .i64 (i':Int),.bool b'])):db T 278 [kU s i b]=some ([.val false [.d (.int .u8 a)]],[kU s i' b']):=by
 obtain⟨a',r,v,h1,h2,h3,h4⟩:=Cw T GB 278 _ rfl _ _ _ h;cases h1;cases h2;cases h3
 exact h4
theorem RO{s:ByteArray}{i k:Nat}{p:cy}{b b':Bool}(h:G 280 [.str s,.int .i64 (i:Int),.bool b]=some (0,gA p++[.str s,.int .i64 (k:Int),.bool b'])) :
  db T 280 [kU s i b]=some ([.val true [.d (.int .i64 p.op),.d (.str p.text),.d (.list 3 false (p.kids.map gA))]],[kU s k b']):=by
 rw[aF]at h;obtain⟨a',r,v,h1,h2,h3,h4⟩:=Cw T GB 280 _ rfl _ _ _ h;cases h1;cases h2;cases h3
 exact h4
theorem RP{s:ByteArray}{i k:Nat}{p:cy}{b b':Bool}(h:G 280 [.str s,.int .i64 (i:Int),.bool b]=some (1,gA p++[.str s,.int .i64 (k:Int),.bool b'])) :
  db T 280 [kU s i b]=some ([.val true [.d (.int .i64 p.op),.d (.str p.text),.row ⟨p.kids.map gA,3,false,false,true,true⟩]],[kU s k b']):=by
 rw[aF]at h;obtain⟨a',r,v,h1,h2,h3,h4⟩:=Cw T GB 280 _ rfl _ _ _ h;cases h1;cases h2;cases h3
 exact h4
theorem QJ{s:ByteArray}{i k:Nat}{p:cy}{b b':Bool}(h:db T 279 [kU s i b]=some ([.val true [.d (.int .i64 p.op),.d (.str p.text),.d (.list 3 false (p.kids.map gA))]],[kU s k b'])) :
  G 279 [.str s,.int .i64 (i:Int),.bool b]=some (0,gA p++[.str s,.int .i64 (k:Int),.bool b']):=by
 rw[aF];exact tM (i:=279) (sg:=⟨279,[.box [.d,.d,.d]],_⟩) (v:=([.val true [.d,.d,.d]],[.box [.d,.d,.d]])) rfl rfl h rfl rfl
theorem QK{s:ByteArray}{i k:Nat}{p:cy}{b b':Bool}(h:db T 279 [kU s i b]=some ([.val true [.d (.int .i64 p.op),.d (.str p.text),.row ⟨p.kids.map gA,3,false,false,true,true⟩]],[kU s k b'])) :
  G 279 [.str s,.int .i64 (i:Int),.bool b]=some (1,gA p++[.str s,.int .i64 (k:Int),.bool b']):=by
 rw[aF];exact tM (i:=279) (sg:=⟨279,[.box [.d,.d,.d]],_⟩) (v:=([.val true [.d,.d,.row 3 false false true true]],[.box [.d,.d,.d]])) rfl rfl h rfl rfl
theorem wD{s:ByteArray}{i k:Nat}{t:ByteArray}{op:Int}{b b':Bool}(h:db T 279 [kU s i b]=some ([.val true [.d (.int .i64 op),.d (.str t),.row ⟨[],3,false,true,true,false⟩]],[kU s k b'])) :
  G 279 [.str s,.int .i64 (i:Int),.bool b]=some (2,gA ⟨op,t,[]⟩++[.str s,.int .i64 (k:Int),.bool b']):=by
 rw[aF];exact tM (i:=279) (sg:=⟨279,[.box [.d,.d,.d]],_⟩) (v:=([.val true [.d,.d,.row 3 false true true false]],[.box [.d,.d,.d]])) rfl rfl h rfl rfl
theorem PF(f:Nat->Bool):T7 f=T5 f:=(rfl)
theorem any_eq:T7 (rB 127)=M8:=by
 rw[PF,M8]
 congr 1
 funext x
 simp only[rB]
 congr 1
 apply decide_eq_decide.2
 omega
theorem abL(f:Nat->Bool)(a z:Nat)(l:List (Int×Int)):(λy:Nat=>rg f a z y ||nn l y)=λy=>f y ||nn (((a:Int),(z:Int))::l) y:=Rd f a z l
def eC(s:ByteArray)(k:Nat)(b:Bool)(n:Int)(f:Nat->Bool):Option (Ex×St):=some (.exit 3,⟨[(0,.ptr 900 0),(2,.ptr 2 0),(3,.ptr 3 0),(6,.d (.int .i64 n)),(51,.d (.bool false))],[(2,sw),(3,bC f),(900,rC s k b)],[]⟩)
theorem N8{s:ByteArray}(hs:s.size<=30):∀(g i n:Nat) (f:Nat->Bool),i<=s.size->s.size+1 - i<=g->n<=i->(n=0->fW s i 93=false)->
  ∃(k:Nat) (b:Bool) (f':Nat->Bool) (n':Int),ev T tA (.loop gh) (B4 s i false n f)=eC s k b n' f'/\i<=k/\k<=s.size/\(match gm s g i with
   |some q=>b=false/\k=q.2/\f'=λy=>f y ||nn q.1 y
   |none=>b=true):=by
 have hm:s.size<=mg:=by simp only[mg];omega
 intro g
 induction g with
 |zero=>intro i n f h1 h2;omega
 |succ g ih=>
  intro i n f hi hg hn h0;cases kl:fW s i 93 with
  |true=>
   have ig:=lj kl;have e:=NQ (f:=f) (n:=n) (λh=>by rw[h0 h]at kl;cases kl) (sc (lx (b:=false) hm kl));refine⟨i+1,false,f,n,e,by omega,by omega,?_⟩;have:gm s (g+1) i=some ([],i+1):=by simp only[gm,kl,if_true]
   rw[this];exact⟨rfl,rfl,by funext y;simp[nn]⟩
  |false=>
   have c0:n=0\/db T 275 [kU s i false,bt 93]=some ([ys false],[kU s i false]):=.inr (sc (lV kl));have hnK:n<=mgK:=by simp only[mgK];omega
   have bad:∀(k a z:Nat),i<=k->k<=s.size->oY s i=none->ev T tA gh (B4 s i false n f)=some (.norm,B4 s k true (n+1) (rg f a z))->
     ∃(k:Nat) (b:Bool) (f':Nat->Bool) (n':Int),ev T tA (.loop gh) (B4 s i false n f)=eC s k b n' f'/\i<=k/\k<=s.size/\(match gm s (g+1) i with
      |some q=>b=false/\k=q.2/\f'=λy=>f y ||nn q.1 y
      |none=>b=true):=by
    intro k a z k1 k2 hp he;have hx:=C9 (s:=s) (i:=(k:Int)) (n:=n+1) (f:=rg f a z);refine⟨k,true,rg f a z,((n+1:Nat):Int),?_,k1,k2,?_⟩
    ·rw[fI,he];exact hx
    ·have:gm s (g+1) i=none:=by simp only[gm,kl,av,if_false,hp]
     rw[this]
   have QN:∀(k a z:Nat) (rs:Int×Int),i < k->k<=s.size->oY s i=some (rs,k)->rs=((a:Int),(z:Int))->ev T tA gh (B4 s i false n f)=some (.norm,B4 s k false (n+1) (rg f a z))->
     ∃(k:Nat) (b:Bool) (f':Nat->Bool) (n':Int),ev T tA (.loop gh) (B4 s i false n f)=eC s k b n' f'/\i<=k/\k<=s.size/\(match gm s (g+1) i with
      |some q=>b=false/\k=q.2/\f'=λy=>f y ||nn q.1 y
      |none=>b=true):=by
    intro k a z rs k1 k2 hp qW he;obtain⟨k',b',f',n',e1,e2,e3,e4⟩:=ih k (n+1) (rg f a z) k2 (by omega) (by omega) (λh=>by omega);refine⟨k',b',f',n',?_,by omega,e3,?_⟩
    ·rw[fI,he];exact e1
    ·have:gm s (g+1) i=(gm s g k).map λp=>(rs::p.1,p.2):=by simp only[gm,kl,av,if_false,hp]
     rw[this];cases hr:gm s g k with
     |none=>rw[hr]at e4;exact e4
     |some q=>
      rw[hr]at e4;obtain⟨h5,h6,h7⟩:=e4;refine⟨h5,h6,?_⟩;rw[h7,qW];exact abL f a z q.1
   cases hc:xf s i with
   |false=>
    have hp:oY s i=none:=by
     have LG:(decide (i < s.size) && Jp (da s i))=false:=hc;simp only[oY,LG,av,if_false]
    have f1:=Fq (Bw (b:=false) hc);cases ht:fW s i 126 with
    |false=>
     have he:=Al (a:=0) (z0:=0) (f:=f) (i3:=0) (b3:=false) hnK (by decide) (by decide) c0 f1 (sc (lV (b:=true) ht)) (λh=>by cases h);exact bad i 0 0 (aj _) hi hp (by simpa using he)
    |true=>
     have ig:=lj ht;cases nO:xf s (i+1) with
     |false=>
      have he:=Al (a:=0) (z0:=0) (f:=f) hnK (by decide) (by decide) c0 f1 (sc (lx (b:=true) hm ht)) (λ_=>Fq (Bw (b:=true) nO));exact bad (i+1) 0 0 (by omega) (by omega) hp (by simpa using he)
     |true=>
      obtain⟨z,hz,QU⟩:=uQ s (i+1);have f3:=Fq (FJ (b:=true) hm nO);rw[QU]at f3;have abx:i+1 < s.size:=by simp only[xf,ab,decide_eq_true_eq]at nO;exact nO.1
      have he:=Al (a:=0) (z0:=z) (f:=f) hnK (by decide) hz c0 f1 (sc (lx (b:=true) hm ht)) (λ_=>f3);exact bad (i+1+1) 0 z (by omega) (by omega) hp (by simpa using he)
   |true=>
    obtain⟨a,ha,TK⟩:=uQ s i;have f1:=Fq (FJ (b:=false) hm hc);rw[TK]at f1;have LG:(decide (i < s.size) && Jp (da s i))=true:=hc;have ig:i < s.size:=by simp only[ab,decide_eq_true_eq]at LG;exact LG.1
    cases ht:fW s (i+1) 126 with
    |false=>
     have he:=Al (a:=a) (z0:=0) (f:=f) (i3:=0) (b3:=false) hnK ha (by decide) c0 f1 (sc (lV (b:=false) ht)) (λh=>by cases h);exact QN (i+1) a a (da s i,da s i) (by omega) (by omega) (by simp only[oY,LG,ht,if_true,av,if_false]) (by rw[TK]) (by simpa using he)
    |true=>
     have abx:=lj ht;cases nO:xf s (i+1+1) with
     |false=>
      have hp:oY s i=none:=by
       have Nw:(decide (i+2 < s.size) && Jp (da s (i+2)))=false:=nO;simp only[oY,LG,ht,if_true,<- fq,Nw,er,av,if_false]
      have he:=Al (a:=a) (z0:=0) (f:=f) hnK ha (by decide) c0 f1 (sc (lx (b:=false) hm ht)) (λ_=>Fq (Bw (b:=false) nO));exact bad (i+1+1) a 0 (by omega) (by omega) hp (by simpa using he)
     |true=>
      obtain⟨z,hz,QU⟩:=uQ s (i+1+1);have f3:=Fq (FJ (b:=false) hm nO);rw[QU]at f3;have Nw:(decide (i+2 < s.size) && Jp (da s (i+2)))=true:=nO;have aiG:i+1+1 < s.size:=by simp only[ab,decide_eq_true_eq]at Nw;exact Nw.1
      have he:=Al (a:=a) (z0:=z) (f:=f) hnK ha hz c0 f1 (sc (lx (b:=false) hm ht)) (λ_=>f3);by_cases hza:z < a
      ·have hle:¬da s i<=da s (i+2):=by rw[TK,QU];omega
       have hp:oY s i=none:=by simp only[oY,LG,ht,if_true,<- fq,Nw,cB,hle,decide_false,av,if_false]
       exact bad (i+1+1+1) a z (by omega) (by omega) hp (by simpa [hza] using he)
      ·have hle:da s i<=da s (i+2):=by rw[TK,QU];omega
       exact QN (i+1+1+1) a z (da s i,da s (i+2)) (by omega) (by omega) (by simp only[oY,LG,ht,if_true,<- fq,Nw,cB,hle,decide_true]) (by rw[TK,QU]) (by simpa [hza] using he)
end
section
def ixB(t:ByteArray)(c:Int):Int:=Lib.indexByte t.data.toList c.toNat.toUInt8
theorem adx(t:ByteArray)(c:Int):G 9002 [.str t,.int .u8 c]=some (0,[.int .i64 (ixB t c)]):=
 tM (i:=9002) (sg:=⟨9002,[.val false [.d],.val false [.d]],[([.val false [.d]],[])]⟩) (v:=([.val false [.d]],[])) (j:=0) (r:=([.val false [.d (.int .i64 (ixB t c))]],[])) (ws:=[.str t,.int .u8 c]) rfl rfl ((RJ T rfl [.val false [.d (.str t)],.val false [.d (.int .u8 c)]]).trans rfl) rfl rfl
theorem Ri:∀(l:List UInt8) (c:UInt8),-1<=Lib.indexByte l c
 |[],c=>by simp[Lib.indexByte]
 |b::l,c=>by
  have ih:=Ri l c;simp only[Lib.indexByte];split
  ·omega
  ·split<;>omega
theorem WK:∀(l:List UInt8) (c:UInt8),decide (0<=Lib.indexByte l c)=l.any λx=>x ==c
 |[],c=>by simp[Lib.indexByte]
 |b::l,c=>by
  have ih:=WK l c;have key:Lib.indexByte (b::l) c=if (b ==c)=true then 0 else if (Lib.indexByte l c == -1)=true then -1 else Lib.indexByte l c+1:=rfl
  rw[kS,<- ih];have h2:=Ri l c;by_cases h:(b ==c)=true
  ·rw[h,sI,decide_eq_true_eq,key,if_pos h];exact Int.le_refl 0
  ·rw[cT.2 h,iM]
   apply decide_eq_decide.2
   rw[key,if_neg h];split
   ·rename_i h1;rw[beq_iff_eq]at h1;omega
   ·rename_i h1;have h3:¬Lib.indexByte l c=-1:=by simpa using h1
    omega
theorem UN(t:ByteArray){s:ByteArray}{i:Nat}:decide (0<=ixB t (da s i))=hasB t (da s i):=by
 rw[ixB,WK,dC,kv,hasB,kv];have e0:∀k,da t k=(((t.data.toList)[k]?.getD 0).toNat:Int):=λk=>by
  unfold da
  congr 2
  simp only[Array.getElem?_toList];rfl
 have hb:(da s i).toNat.toUInt8=s[i]?.getD 0:=by unfold da;simp
 have Af:da s i=((s[i]?.getD 0).toNat:Int):=rfl;rw[hb]
 constructor
 ·rintro⟨x,hx,hxc⟩
  obtain⟨k,hk,hkx⟩:=List.getElem_of_mem hx;refine⟨k,?_,?_⟩
  ·rw[List.mem_range];simpa using hk
  ·rw[decide_eq_true_eq,e0,Af,iO hk,hkx];rw[beq_iff_eq]at hxc;rw[hxc];rfl
 ·rintro⟨k,hk,hkc⟩
  rw[List.mem_range]at hk;have gf:k < t.data.toList.length:=by simpa using hk
  rw[decide_eq_true_eq,e0,Af,iO gf]at hkc;refine⟨_,List.getElem_mem gf,?_⟩;rw[beq_iff_eq];simp only[mH]at hkc;exact UInt8.toNat_inj.1 (by omega)
theorem vY:∀(l:List Bool),jt (l.map xN)=some l
 |[]=>rfl
 |b::l=>by
  have:=vY l;simp only[aQ,xN,jt,this,aD]
theorem Jk{a b:List Bool}(h:b.length=a.length)(h0:0 < b.length):aJ .Rk [aX a,aX b]=some (aX (cG a b)):=by
 simp only[aJ,vY,au,h];rw[if_pos ⟨trivial,trivial,trivial,trivial,λh'=>by rw[List.map_eq_nil_iff]at h';rw[h']at h0;exact absurd h0 (by simp)⟩];rfl
theorem Jj(a b:List Bool):aJ .Rj [aX a,aX b]=some (.bool (lb a b)):=by
 simp only[aJ,vY]
theorem N_{s t:ByteArray}{a:List Bool}{op ks:D}(hs:s.size<=mg)(ha:a.length=s.size+1) :
  bR (lB G wV) (0,[.str s,aX a,.int .i64 0,op,.str t,ks,aX (aE (s.size+1) false)])=some (0,[.str s,aX a,.int .i64 s.size,.bool false,op,.str t,ks,aX (IZ t s a)]):=by
 have hJ:=D6 t s a;have hl:=Hq (b:=lB G wV) (λi=>(0,[.str s,aX a,.int .i64 (i:Int),op,.str t,ks,aX (jv (IZ t s a) (i+1))])) s.size (fin:=(0,[.str s,aX a,.int .i64 s.size,.bool false,op,.str t,ks,aX (jv (IZ t s a) (s.size+1))])) (by
  intro i hi;have hw:IntKind.i64.wrap ((i:Int)+1)=((i+1:Nat):Int):=Co (by omega);have h1:nth a i=some (a[i]'(by omega)):=dr (by omega);have h3:=Mu (t:=t) hi h1;have e1:=Lc h1;have Q1:i+1 < (jv (IZ t s a) (i+1)).length:=by rw[vc _ _ (by omega)];omega
  have e2:=pZ Q1;have e3:=λc=>zz (c:=c) Q1;have e4:=wv h3;have e5:=ek s i hi;have e6:=adx t (da s i);have e7:=UN t (s:=s) (i:=i);generalize (a[i]'(by omega))=x at *;cases x with
  |false=>
   rw[er]at e4;simp only[go_sem,bl,wV,hi,hw,e1,e2,e3,e4]
  |true=>
   rw[cB]at e4;simp only[go_sem,bl,wV,hi,hw,e1,e2,e3,e4,e5,e6,e7]) (by
  simp only[go_sem,bl,wV,aq])
 have h0:jv (IZ t s a) (0+1)=aE (s.size+1) false:=by
  rw[jv,hJ];simp[IZ,fu]
 rw[h0,n0]at hl;rw[hl]
 congr 9
 rw[<- hJ,JG]
theorem U3:RA=qk:=(rfl)
section
variable {s:ByteArray} {k:cy} {f:List Bool->List Bool} (hf:∀x:List Bool,x.length=s.size+1->(f x).length=s.size+1)
 (ih:∀x:List Bool,x.length=s.size+1->G 308 (gA k++[.str s,aX x])=some (0,[aX (f x)]))
include hf ih
theorem Ob{t:ByteArray}:∀(m:Nat) (x:List Bool) (h:Nat) (z:D),h < 2->outs x < m->x.length=s.size+1->
  bR (lB G qk) (h,[.str s,z,.int .i64 4,.str t,bK [k],aX x])=some (0,[.str s,.bool false,.int .i64 4,.str t,bK [k],aX (yf f m x)]):=by
 intro m
 induction m with
 |zero=>intro x h z h0 h1;omega
 |succ m im=>
  intro x h z h0 h1 hx;have e1:=ih x hx;rw[aF]at e1;simp only[ai,ao]at e1;have hfx:=hf x hx;have e2:=Jk (a:=x) (b:=f x) (by rw[hfx,hx]) (by omega);have e3:=Jj x (f x);have hj:=iI x (f x);have e4:=C3 x (f x);simp only[yf];by_cases hc:cG x (f x)=x
  ·rw[if_pos hc];rw[decide_eq_true hc,nb]at e4;rw[e4]at e3;rw[hc]at e2;refine bk ?_
   match h,h0 with
   |0,_=>simp only[go_sem,bl,qk,tG,aF k,e1,e2,e3]
   |1,_=>simp only[go_sem,bl,qk,tG,aF k,e1,e2,e3]
  ·rw[if_neg hc];rw[decide_eq_false hc,kb]at e4;rw[e4]at e3;refine (cF (s':=(1,[.str s,.bool true,.int .i64 4,.str t,bK [k],aX (cG x (f x))])) ?_).trans (im _ 1 (.bool true) (by decide) (by have:=(ud x (f x)).2 hc;omega) (by rw[hj];exact hx))
   match h,h0 with
   |0,_=>simp only[go_sem,bl,qk,tG,aF k,e1,e2,e3]
   |1,_=>simp only[go_sem,bl,qk,tG,aF k,e1,e2,e3]
theorem Oa{t:ByteArray}{x:List Bool}{z:D}(hx:x.length=s.size+1) :
  bR (lB G qk) (0,[.str s,z,.int .i64 5,.str t,bK [k],aX x])=some (0,[.str s,.bool false,.int .i64 5,.str t,bK [k],aX (cG x (f x))]):=by
 have e1:=ih x hx;rw[aF]at e1;simp only[ai,ao]at e1;have hfx:=hf x hx;have e2:=Jk (a:=x) (b:=f x) (by rw[hfx,hx]) (by omega);have e3:=Jj x (f x);refine bk ?_;cases hg:lb x (f x)<;>rw[hg]at e3<;>simp only[go_sem,bl,qk,tG,aF k,e1,e2,e3]
end
def BG(h:Option D)(s:ByteArray)(l:List cy)(i:Nat)(x:List Bool):Nat×List D:=match h with
 |none=>(0,[.str s,bK l,.int .i64 l.length,.int .i64 (i:Int),aX x])
 |some z=>(1,[.str s,bK l,.int .i64 l.length,.int .i64 (i:Int),z,aX x])
def Hn(h:Option D)(s:ByteArray)(l:List cy)(x:List Bool):Nat×List D:=match h with
 |none=>(0,[.str s,bK l,.int .i64 l.length,.int .i64 l.length,.bool false,aX x])
 |some z=>(1,[.str s,bK l,.int .i64 l.length,.int .i64 l.length,.bool false,z,aX x])
theorem Df{s:ByteArray}{l:List cy}{f:cy->List Bool->List Bool}(hl:l.length<=mg)(hf:∀(k:cy) (x:List Bool),x.length=s.size+1->(f k x).length=s.size+1)
  (ih:∀k∈l,∀x:List Bool,x.length=s.size+1->G 308 (gA k++[.str s,aX x])=some (0,[aX (f k x)])):∀(m i:Nat) (x:List Bool) (h:Option D),i+m=l.length->x.length=s.size+1->
  ∃h',bR (lB G wW) (BG h s l i x)=some (Hn h' s l ((l.drop i).foldl (λo k=>f k o) x))
 |0,i,x,h,hi,hx=>by
  obtain rfl:i=l.length:=by omega
  refine⟨h,bk ?_⟩;rw[cu,uE];cases h with
  |none=>simp only[go_sem,bl,wW,BG,Hn,aq]
  |some z=>simp only[go_sem,bl,wW,BG,Hn,aq]
 |m+1,i,x,h,hi,hx=>by
  have hn:nth l i=some (l[i]'(by omega)):=dr (by omega);have h1:i < l.length:=by omega
  have hw:=wj h1 hl;have e1:=ih _ (aT hn) x hx;have e2:=G7 hn;obtain⟨h',hh⟩:=Df hl hf ih m (i+1) (f (l[i]'(by omega)) x) (some (h.getD (aX x))) (by omega) (hf _ x hx);refine⟨h',(cF (s':=BG (some (h.getD (aX x))) s l (i+1) (f (l[i]'(by omega)) x)) ?_).trans (hh.trans ?_)⟩
  ·generalize (l[i]'(by omega))=k at *;rw[aF]at e1;simp only[ai,ao]at e1;cases h with
   |none=>
    simp only[go_sem,bl,wW,BG,h1,e2,oD];simp only[go_sem,aF k,e1,hw]
   |some z=>
    simp only[go_sem,bl,wW,BG,h1,e2,oD];simp only[go_sem,aF k,e1,hw]
  ·rw[gX l i _ hn,tq]
theorem Zz{s:ByteArray}(hs:s.size<=mg)(n:Nat):∀(p:cy) (a:List Bool),ah p < n->uv 64 p=true->a.length=s.size+1->G 308 (gA p++[.str s,aX a])=some (0,[aX (gC s n p a)]):=by
 induction n with
 |zero=>intro p a h;omega
 |succ n ih=>
  intro p a hz hp ha;have hlen:=px (s:=s) n;have hk:∀k∈p.kids,∀x:List Bool,x.length=s.size+1->G 308 (gA k++[.str s,aX x])=some (0,[aX (gC s n k x)]):=λk hk x hx=>ih k x (by have:=cy.JY hk;omega) (zd hp hk) hx;have hw:=Co hs;have hm:=uS (n:=s.size+1) (by simp only[mg]at hs;omega);have Hy:=ze hp;have hc:=PB (l:=aE (s.size+1) false) (m:=a) (by simpa using ha);refine bY ae4 (by rw[aF];rfl) ?_;simp only[gC];unfold G_;by_cases o1:p.op=1
  ·have hl:=N_ (s:=s) (t:=p.text) (a:=a) (op:=.int .i64 1) (ks:=bK p.kids) hs ha;rw[if_pos o1];simp only[go_sem,hw,hm,Cr,aF p,o1,hl]
  rw[if_neg o1];by_cases o2:p.op=2
  ·rw[if_pos o2];obtain⟨h',hl⟩:=Df (s:=s) (l:=p.kids) (f:=gC s n) (by simp only[mg];omega) hlen hk p.kids.length 0 a none (by omega) ha;rw[aV]at hl;simp only[BG,n0]at hl;cases h' with
   |none=>
    simp only[Hn]at hl;simp only[go_sem,hw,hm,hc,Cr,aF p,o2,hl]
   |some z=>
    simp only[Hn]at hl;simp only[go_sem,hw,hm,hc,Cr,aF p,o2,hl]
  rw[if_neg o2];by_cases o3:p.op=3
  ·rw[if_pos o3];have hl:=ej (b:=lB G E_) p.kids (λi (x:List Bool)=>(0,[.str s,aX a,bK p.kids,.int .i64 p.kids.length,.int .i64 (i:Int),aX x])) (λi=>(p.kids.take i).foldl (λo k=>cG o (gC s n k a)) (aE (s.size+1) false)) (0,[.str s,aX a,bK p.kids,.int .i64 p.kids.length,.int .i64 p.kids.length,.bool false,aX (p.kids.foldl (λo k=>cG o (gC s n k a)) (aE (s.size+1) false))]) (by
    intro i k hn;have hi:=aP hn;have hwi:=wj (i:=i) (n:=p.kids.length) hi (by simp only[mg];omega);have e1:=hk k (aT hn) a ha;have sV:=wC (s:=s) (g:=λk=>gC s n k a) (p.kids.take i) (aE (s.size+1) false) (by simp);have e2:=Jk (a:=(p.kids.take i).foldl (λo k=>cG o (gC s n k a)) (aE (s.size+1) false)) (b:=gC s n k a) (by rw[hlen k a ha,sV]) (by rw[hlen k a ha];omega);have e3:=Jj ((p.kids.take i).foldl (λo k=>cG o (gC s n k a)) (aE (s.size+1) false)) (gC s n k a);rw[aF]at e1;simp only[ai,ao]at e1;rw[tV _ _ _ _ _ hn];simp only[go_sem,bl,E_,hi,G7 hn,oD];simp only[go_sem,aF k,e1,e2,e3,hwi]) (by
    rw[aU];simp only[go_sem,bl,E_,aq]) p.kids.length 0 (by omega)
   rw[n0,ba,uE]at hl;simp only[go_sem,hw,hm,Cr,aF p,o3,hl]
  rw[if_neg o3];by_cases o4:p.op=4
  ·rw[if_pos o4];have o5:¬(4:Int)=5:=by decide
   by_cases h1:p.kids.length=1
   ·obtain⟨k,Ck⟩:=cJ.1 h1;have pj:=Ob (t:=p.text) (hlen k) (λx hx=>hk k (by rw[Ck];simp) x hx) (s.size+2) a 0 (.bool false) (by decide) (by have:=FF a;omega) ha;rw[Ck,FD];simp only[go_sem,hw,hm,hc,Cr,aF p,o4,o5,Ck,U3,pj]
   ·rw[FE h1];have h2:=Vf h1;simp only[go_sem,hw,hm,hc,Cr,aF p,o4,o5,h2]
  rw[if_neg o4];by_cases o5:p.op=5
  ·rw[if_pos o5];by_cases h1:p.kids.length=1
   ·obtain⟨k,Ck⟩:=cJ.1 h1;have pj:=Oa (t:=p.text) (z:=.bool false) (hlen k) (λx hx=>hk k (by rw[Ck];simp) x hx) ha;rw[Ck,FD];simp only[go_sem,hw,hm,hc,Cr,aF p,o5,Ck,pj]
   ·rw[FE h1];have h2:=Vf h1;simp only[go_sem,hw,hm,hc,Cr,aF p,o5,h2]
  rw[if_neg o5];simp only[go_sem,hw,hm,Cr,aF p,o1,o2,o3,o4,o5]
theorem aib{s:ByteArray}{p:cy}(hs:s.size<=mg)(hp:uv 64 p=true):G 309 (gA p++[.str s])=some (0,[.bool (J4 p s)]):=by
 have hw:=Co hs;have hm:=uS (n:=s.size+1) (by simp only[mg]at hs;omega);have h1:=Zz hs (ah p+1) p (true::aE s.size false) (aO _) hp (by simp);have hl:=px (s:=s) (ah p+1) p (true::aE s.size false) (by simp);rw[aF]at h1;simp only[ai,ao]at h1;have e1:=pZ (l:=aE (s.size+1) false) (i:=0) (by simp);have e2:=zz (l:=aE (s.size+1) false) (i:=0) (c:=true) (by simp);have e3:(aE (s.size+1) false).set 0 true=true::aE s.size false:=by rw[fu];rfl
 rw[e3]at e2;rw[n0]at e1 e2;have e4:=pZ (l:=gC s (ah p+1) p (true::aE s.size false)) (i:=s.size) (by rw[hl];omega);obtain⟨b,hb⟩:∃b,nth (gC s (ah p+1) p (true::aE s.size false)) s.size=some b:=⟨_,dr (by rw[hl];omega)⟩
 have e5:=zy hb;refine bY ae5 (by rw[aF];rfl) ?_;have e6:J4 p s=b:=by rw[J4,hb];rfl
 rw[e6];generalize gC s (ah p+1) p (true::aE s.size false)=z at *;simp only[go_sem,afR,aF p,hw,hm,e1,e2,h1,e4,e5]
end
section
section
variable {s:ByteArray} {alt:Nat->PR}
theorem ah7(tt:s.size<=30){i:Nat}(hi:i < s.size)(hA:∀j,i < j->j<=s.size->zt 280 s j 0 2 false (alt j)):zt 279 s i 1 3 false (tK alt s i):=by
 have hs:s.size<=mg:=by simp only[mg];omega
 unfold tK;cases h40:fW s i 40 with
 |true=>
  have f1:=sc (lx (b:=false) hs h40);obtain⟨j,p,k,b,hj,hg,p1,p2,p3,p4⟩:=hA (i+1) (by omega) (by omega);rw[if_pos rfl];cases Un:fW s k 41 with
  |true=>
   have f3:=sc (lx (b:=b) hs Un);have hk:=lj Un;have hP:PA s i 1 (match alt (i+1) with
     |some (p,j)=>if fW s j 41=true then some (p,j+1) else none
     |none=>none) p (k+1) b:=by
    refine⟨p1,by omega,by omega,?_⟩;cases hr:alt (i+1) with
    |none=>rw[hr]at p4;exact p4
    |some q=>
     rw[hr]at p4;obtain⟨h5,rfl,p5⟩:=p4;simp only[Un,if_true];exact⟨h5,trivial,by omega⟩
   match j,hj with
   |0,_=>
    have:=Ey (.inl ⟨_,rfl⟩) f1 (RO hg) f3;rw[nb,iN]at this;exact⟨0,p,k+1,b,by decide,QJ this,hP⟩
   |1,_=>
    have:=Ey (.inr ⟨_,rfl⟩) f1 (RP hg) f3;rw[nb,iN]at this;exact⟨1,p,k+1,b,by decide,QK this,hP⟩
  |false=>
   have f3:=sc (lV (b:=b) Un);have hP:PA s i 1 (match alt (i+1) with
     |some (p,j)=>if fW s j 41=true then some (p,j+1) else none
     |none=>none) p k true:=by
    refine⟨p1,by omega,p3,?_⟩;cases hr:alt (i+1) with
    |none=>rfl
    |some q=>
     rw[hr]at p4;obtain⟨h5,rfl,p5⟩:=p4;simp only[Un,av,if_false]
   match j,hj with
   |0,_=>
    have:=Ey (.inl ⟨_,rfl⟩) f1 (RO hg) f3;rw[kb,jr]at this;exact⟨0,p,k,true,by decide,QJ this,hP⟩
   |1,_=>
    have:=Ey (.inr ⟨_,rfl⟩) f1 (RP hg) f3;rw[kb,jr]at this;exact⟨1,p,k,true,by decide,QK this,hP⟩
 |false=>
  have f1:=sc (lV (b:=false) h40);rw[if_neg ck];cases Wn:fW s i 46 with
  |true=>
   have f3:=sc (lx (b:=false) hs Wn);have XN:fW s i 91=false:=by
    rw[cT];intro h;have a1:=(kq.1 h).2;have a2:=(kq.1 Wn).2;omega
   have:=Yy f1 f3;rw[any_eq]at this;rw[XN,if_neg ck,if_pos rfl];exact⟨2,⟨1,M8,[]⟩,i+1,false,by decide,wD this,jh _ _ (v7 _),by omega,by omega,rfl,rfl,by omega⟩
  |false=>
   have f3:=sc (lV (b:=false) Wn);cases XN:fW s i 91 with
   |true=>
    have f2:=sc (lx (b:=false) hs XN);rw[if_pos rfl];cases kl:fW s (i+1) 93 with
    |false=>
     obtain⟨k,b,f',n',e1,e2,e3,e4⟩:=N8 tt (s.size+1) (i+1) 0 (λ_=>false) (by omega) (by omega) (by omega) (λ_=>kl);have:=Rl f1 f3 f2 e1;refine⟨2,⟨1,T7 f',[]⟩,k,b,by decide,wD this,jh _ _ (v7 _),by omega,e3,?_⟩;unfold Ir;cases hr:gm s (s.size+1) (i+1) with
     |none=>rw[hr]at e4;exact e4
     |some q=>
      obtain⟨l,k0⟩:=q;rw[hr]at e4;obtain⟨h5,h6,h7⟩:=e4;dsimp only at h6;subst h5 h6;cases l with
      |nil=>
       exfalso
       simp only[gm,kl,av,if_false]at hr
       split at hr
       ·obtain⟨p,_,h⟩:=ad.1 hr;simp at h
       ·cases hr
      |cons r l=>
       have hf:T7 f'=ZJ (r::l):=by
        rw[PF,ZJ,h7]
        congr 1
       rw[hf];exact⟨rfl,rfl,by omega⟩
    |true=>
     obtain⟨Wy,hb3⟩:=kq.1 kl;have hc:xf s (i+1)=false:=by
      simp only[xf,hb3];rw[Bool.and_eq_false_iff];exact .inr (by decide)
     have ht:fW s (i+1) 126=false:=by
      rw[cT];intro h;have a1:=(kq.1 h).2;omega
     have he:=Al (a:=0) (z0:=0) (f:=λ_=>false) (i3:=0) (b3:=false) (n:=0) (by decide) (by decide) (by decide) (.inl rfl) (Fq (Bw (b:=false) hc)) (sc (lV (b:=true) ht)) (λh=>by cases h);have hx:=C9 (s:=s) (i:=((i+1:Nat):Int)) (n:=1) (f:=rg (λ_=>false) 0 0);have hl:ev T tA (.loop gh) (B4 s ((i+1:Nat):Int) false 0 λ_=>false)=some (.exit 3,⟨[(0,.ptr 900 0),(2,.ptr 2 0),(3,.ptr 3 0),(6,.d (.int .i64 ((1:Nat):Int))),(51,.d (.bool false))],[(2,sw),(3,bC (rg (λ_=>false) 0 0)),(900,rC s ((i+1:Nat):Int) true)],[]⟩):=by
      rw[fI,he];exact hx
     have:=Rl f1 f3 f2 hl;refine⟨2,⟨1,T7 _,[]⟩,i+1,true,by decide,wD this,jh _ _ (v7 _),by omega,by omega,?_⟩;have hr:gm s (s.size+1) (i+1)=some ([],i+1+1):=by simp only[gm,kl,if_true]
     have:Ir s (i+1)=none:=by rw[Ir,hr]
     rw[this]
   |false=>
    have f2:=sc (lV (b:=false) XN);rw[if_neg ck,if_neg ck];cases hc:xf s i with
    |false=>
     have:=Rm f1 f3 f2 (Fq (Bw (b:=false) hc));have hp:(decide (i < s.size) && YS (da s i))=false:=by
      simp only[xf,hi,decide_true,cB,Jp]at hc;simp only[hi,decide_true,cB,YS];generalize fg 97 122 (da s i)=x at *;generalize fg 48 57 (da s i)=y at *;generalize decide (da s i=45)=z at *;cases x<;>cases y<;>cases z<;>simp_all
     rw[hp,if_neg ck];exact⟨2,⟨1,_,[]⟩,i,true,by decide,wD this,jh _ _ (by decide),by omega,by omega,rfl⟩
    |true=>
     have:=Rm f1 f3 f2 (Fq (FJ (b:=false) hs hc));have abk:¬da s i=46:=λh=>by rw[kq.2 ⟨hi,h⟩]at Wn;cases Wn
     have e1:([cL (da s i).toNat].toArray:Array UInt8)=(Bm (da s i)).data:=rfl;have sz1:(Bm (da s i)).size<=256:=by rw[Bm,oh];simp
     have hp:(decide (i < s.size) && YS (da s i))=!decide (da s i=95):=by
      simp only[xf,hi,decide_true,cB,Jp]at hc;simp only[hi,decide_true,cB,YS];by_cases JK:da s i=95
      ·rw[JK];decide
      ·simp only[JK,abk,decide_false,iM,iN]at hc;rw[hc];simp[JK]
     rw[hp];by_cases JK:da s i=95
     ·rw[decide_eq_true JK,sI,jr]at this;rw[decide_eq_true JK,nb,if_neg ck];exact⟨2,⟨1,Bm (da s i),[]⟩,i+1,true,by decide,wD this,jh _ _ sz1,by omega,by omega,rfl⟩
     ·rw[decide_eq_false JK,decide_eq_false abk,iN,iN]at this;rw[decide_eq_false JK,kb,if_pos rfl];exact⟨2,⟨1,Bm (da s i),[]⟩,i+1,false,by decide,wD this,jh _ _ sz1,by omega,by omega,rfl,rfl,by omega⟩
theorem ah9(tt:s.size<=30){i:Nat}(agy:zt 279 s i 1 3 false (tK alt s i)):zt 282 s i 1 4 false (pN alt s i):=by
 have hs:s.size<=mg:=by simp only[mg];omega
 obtain⟨j,p,k,b,hj,hg,p1,p2,p3,p4⟩:=agy;simp only[aF,ai,ao]at hg;have q1:=ah8 p1;rw[aF]at q1;have g1:=MD (n:=64) (by decide) (s:=s) k p1;have g2:=MB s p k;have hP:PA s i 1 (pN alt s i) (Bt s p k).1 (Bt s p k).2 b:=by
  refine⟨g1,by omega,g2.2 p3,?_⟩;unfold pN;cases hr:tK alt s i with
  |none=>rw[hr]at p4;exact p4
  |some q=>
   rw[hr]at p4;obtain⟨h5,rfl,p5⟩:=p4;exact⟨h5,rfl,by omega⟩
 unfold Bt at hP;cases c1:fW s k 42 with
 |true=>
  have f2:=lx (b:=b) hs c1;rw[c1,if_pos rfl]at hP
  match j,hj with
  |0,_=>exact⟨0,_,_,b,by decide,bY xp rfl (by simp only[go_sem,hg,qY,n8,P1,bO,eT,xx,f2,aF]),hP⟩
  |1,_=>exact⟨0,_,_,b,by decide,bY xp rfl (by simp only[go_sem,hg,n8,P1,bO,eT,xx,f2,aF]),hP⟩
  |2,_=>exact⟨3,_,_,b,by decide,bY xp rfl (by simp only[go_sem,hg,Gu,n8,P1,bO,eT,xx,f2,aF]),hP⟩
 |false=>
  have f2:=lV (b:=b) c1;rw[c1,if_neg ck]at hP;cases c2:fW s k 43 with
  |true=>
   have f3:=lx (b:=b) hs c2;rw[c2,if_pos rfl]at hP
   match j,hj with
   |0,_=>exact⟨0,_,_,b,by decide,bY xp rfl (by simp only[go_sem,hg,qY,n8,On,P1,P2,q1,bO,eT,xx,f2,f3,aF]),hP⟩
   |1,_=>exact⟨0,_,_,b,by decide,bY xp rfl (by simp only[go_sem,hg,qY,n8,On,P1,P2,q1,bO,eT,xx,f2,f3,aF]),hP⟩
   |2,_=>exact⟨0,_,_,b,by decide,bY xp rfl (by simp only[go_sem,hg,qY,n8,On,P1,P2,q1,bO,eT,xx,f2,f3,aF]),hP⟩
  |false=>
   have f3:=lV (b:=b) c2;rw[c2,if_neg ck]at hP;cases c3:fW s k 63 with
   |true=>
    have f5:=lx (b:=b) hs c3;rw[c3,if_pos rfl]at hP
    match j,hj with
    |0,_=>exact⟨0,_,_,b,by decide,bY xp rfl (by simp only[go_sem,hg,qY,n8,P1,bO,eT,xx,f2,f3,f5,aF]),hP⟩
    |1,_=>exact⟨0,_,_,b,by decide,bY xp rfl (by simp only[go_sem,hg,n8,P1,bO,eT,xx,f2,f3,f5,aF]),hP⟩
    |2,_=>exact⟨3,_,_,b,by decide,bY xp rfl (by simp only[go_sem,hg,Gu,n8,P1,bO,eT,xx,f2,f3,f5,aF]),hP⟩
   |false=>
    have f5:=lV (b:=b) c3;rw[c3,if_neg ck]at hP
    match j,hj with
    |0,_=>exact⟨1,_,_,b,by decide,bY xp rfl (by simp only[go_sem,hg,xx,f2,f3,f5,aF]),hP⟩
    |1,_=>exact⟨2,_,_,b,by decide,bY xp rfl (by simp only[go_sem,hg,xx,f2,f3,f5,aF]),hP⟩
    |2,_=>exact⟨3,_,_,b,by decide,bY xp rfl (by simp only[go_sem,hg,xx,f2,f3,f5,aF]),hP⟩
end
end
section
section
variable {s:ByteArray} {alt:Nat->PR}
theorem N9(tt:s.size<=30){i:Nat}{l:List cy}(hl:l.length<=100)(hM:sv s i=true)(agz:zt 282 s i 1 4 false (pN alt s i)) :
  ∃(p:cy) (k:Nat) (b:Bool),lB G lT (0,[.int .i64 0,.str ⟨#[]⟩,.str s,.int .i64 (i:Int),.bool false,bK l])=some (.go (0,[.int .i64 0,.str ⟨#[]⟩,.str s,.int .i64 (k:Int),.bool b,bK (l++[p])]))/\PA s i 1 (pN alt s i) p k b:=by
 have C7:l.length<=mg:=by simp only[mg];omega
 simp only[sv,ab,decide_eq_true_eq,cq,decide_eq_false_iff_not]at hM;obtain⟨hi,m1,m2⟩:=hM;have f4:=ek s i hi;have fa:=λop t ks=>D0 C7 op t ks;obtain⟨j,p,k,b,hj,hg,hP⟩:=agz;simp only[aF,ai,ao]at hg;refine⟨p,k,b,?_,hP⟩
 match j,hj with
 |0,_=>simp only[go_sem,hi,m1,m2,f4,hg,n8,fa,bO,bl,lT]
 |1,_=>simp only[go_sem,hi,m1,m2,f4,hg,qY,n8,fa,bO,bl,lT]
 |2,_=>simp only[go_sem,hi,m1,m2,f4,hg,n8,fa,bO,bl,lT]
 |3,_=>simp only[go_sem,hi,m1,m2,f4,hg,Gu,n8,fa,bO,bl,lT]
theorem U1(tt:s.size<=30){i0:Nat}(hA:∀j,i0 < j->j<=s.size->zt 280 s j 0 2 false (alt j)):∀(g i:Nat) (l:List cy),i0<=i->i<=s.size->s.size+1 - i<=g->TV l i->
  ∃(l':List cy) (k:Nat) (b:Bool),bR (lB G lT) (0,[.int .i64 0,.str ⟨#[]⟩,.str s,.int .i64 (i:Int),.bool false,bK l])=some (0,[.bool false,.int .i64 0,.str ⟨#[]⟩,.str s,.int .i64 (k:Int),.bool b,bK l'])/\RdL i s l (su alt s g i) l' k b:=by
 have hs:s.size<=mg:=by simp only[mg];omega
 intro g
 induction g with
 |zero=>intro i l _ h1 h2;omega
 |succ g ih=>
  intro i l h0 h1 h2 hl;simp only[su];cases hM:sv s i with
  |false=>
   simp only[av,if_false];refine⟨l,i,false,bk ?_,⟨by have:=hl.1;omega,hl.2⟩,aj _,h1,rfl,by rw[aG],rfl⟩;by_cases hi:i < s.size
   ·have f4:=ek s i hi;simp only[sv,hi,decide_true,cB]at hM;by_cases m1:da s i=124
    ·simp only[go_sem,bl,lT,hi,m1,f4]
    ·have m2:da s i=41:=by
      by_cases m2:da s i=41
      ·exact m2
      ·simp[m1,m2]at hM
     have m3:¬(41:Int)=124:=by decide
     simp only[go_sem,bl,lT,hi,m2,m3,f4]
   ·simp only[go_sem,bl,lT,hi]
  |true=>
   have hi:i < s.size:=by simp only[sv,ab,decide_eq_true_eq]at hM;exact hM.1
   simp only[if_true];obtain⟨p,k,b,e1,p1,p2,p3,p4⟩:=N9 tt (l:=l) (by have:=hl.1;omega) hM (ah9 tt (ah7 tt hi λj hj LK=>hA j (by omega) LK));cases hr:pN alt s i with
   |none=>
    rw[hr]at p4;subst p4;refine⟨l++[p],k,true,(cF e1).trans (bk ?_),ng (n:=30) ⟨by have:=hl.1;omega,hl.2⟩ p1 (by decide),p2,p3,rfl⟩;simp only[go_sem,bl,lT]
   |some q=>
    rw[hr]at p4;obtain⟨rfl,rfl,p5⟩:=p4;obtain⟨l',k',b',e2,e3⟩:=ih k (l++[p]) (by omega) p3 (by omega) (ng hl p1 (by omega));exact⟨l',k',b',(cF e1).trans e2,uM (by omega) e3⟩
theorem adh(tt:s.size<=30){i:Nat}(h1:i<=s.size)(hA:∀j,i < j->j<=s.size->zt 280 s j 0 2 false (alt j)):zt 283 s i 0 2 false (yz alt s i):=by
 obtain⟨l',k,b,e1,e2,e3,e4,e5⟩:=U1 tt hA (s.size+1) i [] (aj _) h1 (by omega) ⟨by simp,by simp⟩;have m0:aJ (.dV 3 false) []=some (bK []):=tj 3 false;have hP:PA s i 0 (yz alt s i) (pR 2 l') k b:=by
  refine⟨sG (by have:=e2.1;omega) e2.2,e3,e4,?_⟩;unfold yz;cases hr:su alt s (s.size+1) i with
  |none=>rw[hr]at e5;exact e5
  |some q=>
   rw[hr]at e5;obtain⟨h5,h6,h7⟩:=e5;subst h6 h7;exact⟨h5,rfl,by omega⟩
 by_cases hl:l'.length=1
 ·obtain⟨p,rfl⟩:=cJ.1 hl;have hw:pR 2 [p]=p:=rfl;rw[hw]at hP;refine⟨0,p,k,b,by decide,bY VD rfl ?_,hP⟩;simp only[go_sem,VU,m0,e1,CP,CJ,aF p]
 ·rw[F9 hl]at hP;refine⟨1,_,k,b,by decide,bY VD rfl ?_,hP⟩;simp only[go_sem,VU,m0,e1,Dk,hl,aF,eT]
theorem Zy{i:Nat}(h1:i<=s.size):zt 283 s i 0 2 true none:=by
 have m0:aJ (.dV 3 false) []=some (bK []):=tj 3 false;have hl:bR (lB G lT) (0,[.int .i64 0,.str ⟨#[]⟩,.str s,.int .i64 (i:Int),.bool true,bK []])=some (0,[.bool false,.int .i64 0,.str ⟨#[]⟩,.str s,.int .i64 (i:Int),.bool true,bK []]):=by
  refine bk ?_;simp only[go_sem,bl,lT]
 refine⟨1,⟨2,eT,[]⟩,i,true,by decide,bY VD rfl ?_,uw xO (by simp) (by simp),aj _,h1,rfl⟩;simp only[go_sem,VU,n0,m0,hl,aF,eT]
theorem HL(tt:s.size<=30):∀(g i:Nat) (l:List cy),i<=s.size->s.size+1 - i<=g->TV l (i+2)->
  ∃(l':List cy) (k:Nat),bR (lB G mO) (0,[.int .i64 0,.str ⟨#[]⟩,.str s,.int .i64 (i:Int),.bool true,bK l])=some (0,[.bool false,.int .i64 0,.str ⟨#[]⟩,.str s,.int .i64 (k:Int),.bool true,bK l'])/\TV l' 40/\i<=k/\k<=s.size:=by
 have hs:s.size<=mg:=by simp only[mg];omega
 intro g
 induction g with
 |zero=>intro i l h1 h2;omega
 |succ g ih=>
  intro i l h1 h2 hl;cases hM:fW s i 124 with
  |false=>
   have f1:=lV (b:=true) hM;exact⟨l,i,bk (by simp only[go_sem,bl,mO,f1]),⟨by have:=hl.1;omega,hl.2⟩,aj _,h1⟩
  |true=>
   have f1:=lx (b:=true) hs hM;have hi:=lj hM;have C7:l.length<=mg:=by have:=hl.1;simp only[mg];omega
   have fa:=λop t ks=>D0 C7 op t ks;obtain⟨j,p,k,b,hj,hg,p1,p2,p3,p4⟩:=Zy (s:=s) (i:=i+1) (by omega);simp only[aF,ai,ao]at hg;have p4':b=true:=p4;subst p4';have go:lB G mO (0,[.int .i64 0,.str ⟨#[]⟩,.str s,.int .i64 (i:Int),.bool true,bK l])=some (.go (0,[.int .i64 0,.str ⟨#[]⟩,.str s,.int .i64 (k:Int),.bool true,bK (l++[p])])):=by
    match j,hj with
    |0,_=>simp only[go_sem,bl,mO,f1,hg,qY,n8,fa,bO]
    |1,_=>simp only[go_sem,bl,mO,f1,hg,n8,fa,bO]
   obtain⟨l',k',e1,e2,e3,e4⟩:=ih k (l++[p]) p3 (by omega) (ng hl p1 (by omega));exact⟨l',k',(cF go).trans e1,e2,by omega,e4⟩
theorem U0(tt:s.size<=30){i0:Nat}(hA:∀j,i0 < j->j<=s.size->zt 280 s j 0 2 false (alt j)):∀(g i:Nat) (l:List cy),i0<=i->i<=s.size->s.size+1 - i<=g->TV l (i+1)->
  ∃(l':List cy) (k:Nat) (b:Bool),bR (lB G mO) (0,[.int .i64 0,.str ⟨#[]⟩,.str s,.int .i64 (i:Int),.bool false,bK l])=some (0,[.bool false,.int .i64 0,.str ⟨#[]⟩,.str s,.int .i64 (k:Int),.bool b,bK l'])/\RdL i s l (xZ alt s g i) l' k b:=by
 have hs:s.size<=mg:=by simp only[mg];omega
 intro g
 induction g with
 |zero=>intro i l _ h1 h2;omega
 |succ g ih=>
  intro i l h0 h1 h2 hl;simp only[xZ];cases hM:fW s i 124 with
  |false=>
   have f1:=lV (b:=false) hM;simp only[av,if_false];refine⟨l,i,false,bk ?_,⟨by have:=hl.1;omega,hl.2⟩,aj _,h1,rfl,by rw[aG],rfl⟩;simp only[go_sem,bl,mO,f1]
  |true=>
   have f1:=lx (b:=false) hs hM;have hi:=lj hM;have C7:l.length<=mg:=by have:=hl.1;simp only[mg];omega
   have fb:=λx=>Pk C7 x;have fa:=λop t ks=>D0 C7 op t ks;simp only[if_true];obtain⟨j,p,k,b,hj,hg,p1,p2,p3,p4⟩:=adh tt (i:=i+1) (by omega) λj hj LK=>hA j (by omega) LK;simp only[aF,ai,ao]at hg;have go:lB G mO (0,[.int .i64 0,.str ⟨#[]⟩,.str s,.int .i64 (i:Int),.bool false,bK l])=some (.go (0,[.int .i64 0,.str ⟨#[]⟩,.str s,.int .i64 (k:Int),.bool b,bK (l++[p])])):=by
    match j,hj with
    |0,_=>simp only[go_sem,bl,mO,f1,hg,qY,n8,fa,bO]
    |1,_=>simp only[go_sem,bl,mO,f1,hg,n8,fa,bO]
   cases hr:yz alt s (i+1) with
   |none=>
    rw[hr]at p4;subst p4;obtain⟨l',k',e1,e2,e3,e4⟩:=HL tt (s.size+1) k (l++[p]) p3 (by omega) (ng hl p1 (by omega));exact⟨l',k',true,(cF go).trans e1,e2,by omega,e4,rfl⟩
   |some q=>
    rw[hr]at p4;obtain⟨rfl,rfl,p5⟩:=p4;obtain⟨l',k',b',e2,e3⟩:=ih k (l++[p]) (by omega) p3 (by omega) (ng hl p1 (by omega));exact⟨l',k',b',(cF go).trans e2,uM (by omega) e3⟩
theorem Zw(tt:s.size<=30){i:Nat}(h1:i<=s.size)(hA:∀j,i < j->j<=s.size->zt 280 s j 0 2 false (alt j)):zt 280 s i 0 2 false (Br alt s i):=by
 obtain⟨j,p,k,b,hj,hg,p1,p2,p3,p4⟩:=adh tt h1 hA;simp only[aF,ai,ao]at hg;have he:∃(l':List cy) (k':Nat) (b':Bool),bR (lB G mO) (0,[.int .i64 0,.str ⟨#[]⟩,.str s,.int .i64 (k:Int),.bool b,bK [p]])=some (0,[.bool false,.int .i64 0,.str ⟨#[]⟩,.str s,.int .i64 (k':Int),.bool b',bK l'])/\PA s i 0 (Br alt s i) (pR 3 l') k' b':=by
  unfold Br;cases hr:yz alt s i with
  |none=>
   rw[hr]at p4;subst p4;obtain⟨l',k',e1,e2,e3,e4⟩:=HL tt (s.size+1) k [p] p3 (by omega) ⟨by simp,by simpa using p1⟩;exact⟨l',k',true,e1,sG (by have:=e2.1;omega) e2.2,by omega,e4,rfl⟩
  |some q=>
   rw[hr]at p4;obtain⟨rfl,rfl,p5⟩:=p4;obtain⟨l',k',b',e1,e2,e3,e4,e5⟩:=U0 tt hA (s.size+1) k [p] p2 p3 (by omega) ⟨by simp,by simpa using p1⟩;refine⟨l',k',b',e1,sG (by have:=e2.1;omega) e2.2,by omega,e4,?_⟩;dsimp only;cases Ew:xZ alt s (s.size+1) k with
   |none=>rw[Ew]at e5;exact e5
   |some q=>
    rw[Ew]at e5;obtain⟨h5,h6,h7⟩:=e5;subst h6 h7;exact⟨h5,rfl,by omega⟩
 obtain⟨l',k',b',e1,hP⟩:=he;have hg':∀(t:Nat×List D) (h:dM G (OH) 0 [.str s,.int .i64 (i:Int),.bool false]=some t),True:=λ_ _=>trivial;by_cases hl:l'.length=1
 ·obtain⟨q,rfl⟩:=cJ.1 hl;have hw:pR 3 [q]=q:=rfl;rw[hw]at hP;refine⟨0,q,k',b',by decide,bY ZR rfl ?_,hP⟩
  match j,hj with
  |0,_=>simp only[go_sem,OH,hg,qY,n8,P1,bO,e1,CP,CJ,aF q]
  |1,_=>simp only[go_sem,OH,hg,n8,P1,bO,e1,CP,CJ,aF q]
 ·rw[F9 hl]at hP;refine⟨1,_,k',b',by decide,bY ZR rfl ?_,hP⟩
  match j,hj with
  |0,_=>simp only[go_sem,OH,hg,qY,n8,P1,bO,e1,Dk,hl,aF,eT]
  |1,_=>simp only[go_sem,OH,hg,n8,P1,bO,e1,Dk,hl,aF,eT]
theorem R7(tt:s.size<=30):∀(g i:Nat),i<=s.size->s.size+1 - i<=g->zt 280 s i 0 2 false (Ow s g i)
 |0,i,h1,h2=>by omega
 |g+1,i,h1,h2=>Zw tt h1 λj hj LK=>R7 tt g j LK (by omega)
end
theorem adi{s:ByteArray}:∃j p,j < 3/\G 284 [.str s]=some (j,gA p++[.bool (ll s)])/\∀q,x_ s=some q->p=q/\uv 64 p=true:=by
 unfold ll x_;by_cases h:30 < s.size
 ·refine⟨0,⟨0,eT,[]⟩,by decide,bY Sm rfl ?_,λq hq=>by rw[if_pos h]at hq;cases hq⟩;rw[if_pos h];simp only[go_sem,II,vf,h,aF,eh];rfl
 ·rw[if_neg h];obtain⟨j,p,k,b,hj,hg,p1,p2,p3,p4⟩:=R7 (s:=s) (by omega) (s.size+1) 0 (by omega) (by omega);simp only[aF,ai,ao,n0]at hg;cases hr:Ow s (s.size+1) 0 with
  |none=>
   rw[hr]at p4;subst p4;refine⟨0,⟨0,eT,[]⟩,by decide,bY Sm rfl ?_,λq hq=>by cases hq⟩
   match j,hj with
   |0,_=>simp only[go_sem,II,vf,h,hg,aF,eh];rfl
   |1,_=>simp only[go_sem,II,vf,h,hg,aF,eh];rfl
  |some q=>
   rw[hr]at p4;obtain⟨rfl,rfl,p5⟩:=p4;dsimp only;by_cases hk:k=s.size
   ·rw[if_pos hk];refine⟨j+1,p,by omega,bY Sm rfl ?_,λq hq=>by cases hq;exact⟨rfl,p1⟩⟩
    match j,hj with
    |0,_=>simp only[go_sem,II,vf,h,hg,hk,aF,gP]
    |1,_=>simp only[go_sem,II,vf,h,hg,hk,aF,gP]
   ·rw[if_neg hk];refine⟨0,⟨0,eT,[]⟩,by decide,bY Sm rfl ?_,λq hq=>by cases hq⟩
    match j,hj with
    |0,_=>simp only[go_sem,II,vf,Mr,h,hg,hk,aF,eh];rfl
    |1,_=>simp only[go_sem,II,vf,Mr,h,hg,hk,aF,eh];rfl
theorem adj(s:ByteArray):G 285 [.str s]=some (0,[.bool (ll s)]):=by
 obtain⟨j,p,hj,hg,_⟩:=adi (s:=s);simp only[aF,ai,ao]at hg;refine bY aeZ rfl ?_
 match j,hj with
 |0,_=>simp only[go_sem,VV,hg]
 |1,_=>simp only[go_sem,VV,hg]
 |2,_=>simp only[go_sem,VV,hg]
theorem adm{t s:ByteArray}(hs:s.size<=mg):G 310 [.str t,.str s]=some (0,[.bool (Fw t s)]):=by
 obtain⟨j,p,hj,hg,hq⟩:=adi (s:=t);simp only[aF,ai,ao]at hg;have Iu:∀b,aJ .pl [.bool b]=some (.bool false):=λb=>rfl;refine bY ae6 rfl ?_;unfold Fw;cases hp:x_ t with
 |none=>
  have hi:ll t=false:=by rw[ll,hp];rfl
  rw[hi]at hg
  match j,hj with
  |0,_=>simp only[go_sem,KH,hg]
  |1,_=>simp only[go_sem,KH,hg]
  |2,_=>simp only[go_sem,KH,hg]
 |some q=>
  have hi:ll t=true:=by rw[ll,hp];rfl
  obtain⟨rfl,bZ⟩:=hq q hp;have h5:=aib hs bZ;simp only[aF,ai,ao]at h5;rw[hi]at hg
  match j,hj with
  |0,_=>simp only[go_sem,KH,hg,h5,Iu]
  |1,_=>simp only[go_sem,KH,hg,h5]
  |2,_=>simp only[go_sem,KH,hg,h5,Iu]
end
def gv(c:Bool)(r:Option D):Option D:=if c=true then r else some (.bool false)
def gw(c:Bool)(x:D):D:=if c=true then x else .bool false
@[congr] theorem abj {c c':Bool} {r r':Option D} (h:c=c') (h':c'=true->r=r'):gv c r=gv c' r':=by
 subst h;unfold gv;split
 ·exact h' (by assumption)
 ·rfl
theorem jl(r:Option D):gv false r=some (.bool false):=(rfl)
theorem dw(c:Bool)(x:D):gv c (some x)=some (gw c x):=by cases c<;>rfl
theorem fV(x:D):gw true x=x:=(rfl)
theorem kj(x:D):gw false x=.bool false:=(rfl)
theorem dx(c b:Bool):gw c (.bool b)=.bool (c && b):=by cases c<;>rfl
theorem dy(G:Gf)(ρ:List D)(c:Bool)(o:PO)(es:List SE)(t:ST):RX (some c) G o es t ρ=YQ (gv c (YU o (gR ρ es))) G t ρ:=by cases c<;>rfl
theorem abf(G:Gf)(ρ:List D)(c:Bool)(a b:ST):OX (some c) G a b ρ=if c=true then OX (some true) G a b ρ else OX (some false) G a b ρ:=by cases c<;>rfl
theorem Y7(k:IntKind)(a b:Int):aJ (.bin .eql) [.int k a,.int k b]=some (.bool (decide (a=b))):=by rw[ya];rfl
theorem Zb(k:IntKind)(a b:Int):aJ (.bin .neq) [.int k a,.int k b]=some (.bool (!decide (a=b))):=by rw[ya];rfl
theorem Za(k:IntKind)(a b:Int):aJ (.bin .lss) [.int k a,.int k b]=some (.bool (decide (a < b))):=by rw[ya];rfl
theorem Y_(k:IntKind)(a b:Int):aJ (.bin .leq) [.int k a,.int k b]=some (.bool (decide (a<=b))):=by rw[ya];rfl
theorem Y9(k:IntKind)(a b:Int):aJ (.bin .gtr) [.int k a,.int k b]=some (.bool (decide (b < a))):=by rw[ya];rfl
theorem Y8(k:IntKind)(a b:Int):aJ (.bin .geq) [.int k a,.int k b]=some (.bool (decide (b<=a))):=by rw[ya];rfl
theorem Y5(k:IntKind)(a b:Int):aJ (.bin .add) [.int k a,.int k b]=some (.int k (k.wrap (a+b))):=by rw[ya];rfl
theorem Zd(a b:ByteArray):aJ (.bin .eql) [.str a,.str b]=some (.bool (decide (a=b))):=by rw[R2];rfl
theorem Zc(a b:ByteArray):aJ (.bin .neq) [.str a,.str b]=some (.bool (!decide (a=b))):=by rw[R2];rfl
theorem Y6(a b:Bool):aJ (.uG .neq) [.bool a,.bool b]=some (.bool (!decide (a=b))):=(rfl)
attribute [go_sem 2000] Y7 Zb Za Y_ Y9 Y8 Y5 Zd Zc Y6
theorem TH(a b:Bool):(a ||(!a && b))=(a ||b):=by cases a<;>rfl
theorem Wf(a b:Bool):(!a ||(a && b))=(!a ||b):=by cases a<;>rfl
theorem ahs(k:IntKind)(n:Int):aJ .pl [.int k n]=some (.bool false):=(rfl)
theorem ahr(b:Bool):aJ .pl [.bool b]=some (.bool false):=(rfl)
attribute [go_sem] ahs ahr
section
theorem Iu(n:Int):aJ .pl [.int .i64 n]=some (.bool false):=(rfl)
theorem plb(b:Bool):aJ .pl [.bool b]=some (.bool false):=(rfl)
theorem P3{l:List aR}{i:Nat}{y:aR}(h:nth l i=some y):aJ (.el 3) [bz l,.int .i64 (i:Int)]=some (.list 0 false [bI y]):=by
 rw[xk,aH,h];rfl
theorem Ro{l:List aR}{y:aR}(hs:cD bI l<=mg)(h:y∈l):y.kids.length<=mg/\cD bI y.kids<=mg:=by
 have a1:=eo bI h;rw[jL]at a1;refine⟨?_,by omega⟩;simp only[cD]at a1 hs;omega
theorem LW{n:af}(hn:eV (ax n)<=mg):n.keys.length<=mg:=by
 rw[dK]at hn;simp only[cD]at hn;omega
theorem Mv:∀{a b:List ByteArray},a.length=b.length->(∀j x,nth a j=some x->nth b j=some x)->a=b
 |[],[],_,_=>rfl
 |x::a,y::b,h,hh=>by
  have h0:=hh 0 x rfl;cases h0;rw[Mv (a:=a) (b:=b) (by simpa using h) λj z hz=>hh (j+1) z hz]
theorem TX{a b:List ByteArray}(h:a.length=b.length):allI (λi e=>decide (nth b i=some e)) 0 a=decide (a=b):=by
 rw[dC,mi];simp only[bm,decide_eq_true_eq];exact⟨λhh=>Mv h hh,λe j x hx=>e▸hx⟩
theorem aht{a b:List ByteArray}(ha:a.length<=mg):G 100 [aN a,aN b]=some (0,[.bool (decide (a=b))]):=by
 refine bY adE rfl ?_;by_cases hl:a.length=b.length
 ·have pE:(a.length:Int)=(b.length:Int):=by omega
  have h:=l7 (b:=lB G Ax) a (λi=>(0,[aN a,aN b,.int .i64 a.length,.int .i64 (i:Int)])) (λi e=>decide (nth b i=some e)) (1,[aN a,aN b,.int .i64 a.length,.int .i64 a.length,.bool false]) (0,[.bool false]) (by
   intro i e hn;have hi:=aP hn;have hw:=wj hi ha;have h2:nth b i=some (b[i]'(by omega)):=dr (by omega);rw[h2];generalize (b[i]'(by omega))=f at *;by_cases c:e=f
   ·subst c;simp only[go_sem,bl,Ax,hi,hw,aH,hn,h2,fm]
   ·have c':¬f=e:=λh=>c h.symm;simp only[go_sem,bl,Ax,hi,aH,hn,h2,fm,c,c',aa]) (by simp only[go_sem,bl,Ax,aq]) a.length 0 (by omega)
  rw[n0,aV,TX hl]at h;rw[hl]at h;cases hd:decide (a=b)<;>rw[hd]at h<;>simp only[go_sem]at h<;>simp only[go_sem,t100,pE,h]
 ·have pE:¬(a.length:Int)=(b.length:Int):=by omega
  have hab:¬a=b:=λh=>hl (by rw[h]);simp only[go_sem,t100,pE,hab]
theorem W1(k:Int)(e:af)(b:Bool):aJ .vV [.int .i64 k,.str e.name,.int .i64 e.type.kind,eS e.type.ranges,aN e.type.names,.str e.type.pattern,.str e.type.path,aN e.keys,aN e.unique,.str e.default,.bool e.given,.bool e.dY,.bool e.cP,.bool e.fixed,.int .i64 e.min,.int .i64 e.max,cV e.when,cV e.hX,aB e.kids,.bool b]=some (.bool false):=(rfl)
end
section
theorem pC{α:Type}(l:List α):decide ((0:Int) < (l.length:Int))=!l.isEmpty:=by cases l<;>simp
theorem NW{n:af}(hs:eV (ax n)<=mg) :
  bR (lB G wM) (0,.int .i64 0::ax n)=some (if n.keys.all (Cn n.kids)=true then (1,.int .i64 n.keys.length::.bool false::ax n) else (0,[.bool false])):=by
 have hz:=hs;rw[dK]at hz;have Hy:n.keys.length<=mg:=by simp only[cD]at hz;omega
 have ri:n.kids.length<=mg:=by simp only[cD]at hz;omega
 have hl:=gT (b:=lB G wM) n.keys (λi=>(0,.int .i64 (i:Int)::ax n)) (Cn n.kids) (1,.int .i64 n.keys.length::.bool false::ax n) (0,[.bool false]) (by
  intro i e hn;have hi:=aP hn;have hw:=wj hi Hy;have f1:=W4 (l:=n.kids) (nm:=e) ri;clear hs hz;cases hf:fO n.kids e with
  |none=>
   have hk:Cn n.kids e=false:=by simp only[Cn,ue,hf]
   rw[hf]at f1;simp +contextual -implicitDefEqProofs only [go_sem,dy,jl,dw,dx,bl,wM,ae n,hi,aH,hn,fm,f1,n9,hk]
  |some j=>
   obtain⟨x,hj,_⟩:=ef hf;have hk:Cn n.kids e=(decide (x.kind=3) && NS x):=by simp only[Cn,ue,hf,hj]
   have k0:decide ((j:Int) < 0)=false:=by simp only[decide_eq_false_iff_not];omega
   rw[hf]at f1;rw[hk,NS];simp +contextual -implicitDefEqProofs only [go_sem,dy,dw,dx,bl,wM,ae n,hi,aH,hn,fm,f1,n9]
   simp +contextual -implicitDefEqProofs only [go_sem,dy,dw,fV,dx,k0,hj,aH,ae x,pC]
   rw[abf];generalize decide (x.kind=3)=v3;generalize x.when.isEmpty=w;generalize x.given=g;generalize decide (x.type.kind=6)=v6;cases v3<;>cases w<;>cases g<;>cases v6<;>simp +contextual -implicitDefEqProofs only [go_sem,hw]) (by simp +contextual -implicitDefEqProofs only [go_sem,bl,wM,ae n,aq])
 exact hl
theorem NX{n:af}(hs:eV (ax n)<=mg) :
  bR (lB G wN) (0,.int .i64 0::ax n)=some (if n.unique.all (BP n.kids)=true then (1,.int .i64 n.unique.length::.bool false::ax n) else (0,[.bool false])):=by
 have hz:=hs;rw[dK]at hz;have Hy:n.unique.length<=mg:=by simp only[cD]at hz;omega
 have ri:n.kids.length<=mg:=by simp only[cD]at hz;omega
 have hl:=gT (b:=lB G wN) n.unique (λi=>(0,.int .i64 (i:Int)::ax n)) (BP n.kids) (1,.int .i64 n.unique.length::.bool false::ax n) (0,[.bool false]) (by
  intro i e hn;have hi:=aP hn;have hw:=wj hi Hy;have f1:=W4 (l:=n.kids) (nm:=e) ri;clear hs hz;cases hf:fO n.kids e with
  |none=>
   have hk:BP n.kids e=false:=by simp only[BP,ue,hf]
   rw[hf]at f1;simp +contextual -implicitDefEqProofs only [go_sem,dy,jl,dw,dx,bl,wN,ae n,hi,aH,hn,fm,f1,n9,hk]
  |some j=>
   obtain⟨x,hj,_⟩:=ef hf;have hk:BP n.kids e=decide (x.kind=3):=by simp only[BP,ue,hf,hj]
   have k0:decide ((j:Int) < 0)=false:=by simp only[decide_eq_false_iff_not];omega
   rw[hf]at f1;rw[hk];simp +contextual -implicitDefEqProofs only [go_sem,dy,dw,dx,bl,wN,ae n,hi,aH,hn,fm,f1,n9]
   simp +contextual -implicitDefEqProofs only [go_sem,dy,dw,fV,dx,k0,hj,ae x]
   rw[abf];generalize decide (x.kind=3)=v3;cases v3<;>simp +contextual -implicitDefEqProofs only [go_sem,hw]) (by simp +contextual -implicitDefEqProofs only [go_sem,bl,wN,ae n,aq])
 exact hl
theorem ahC{n:af}(hs:eV (ax n)<=mg):G 214 (ax n)=some (0,[.bool (Dl n)]):=by
 have hz:=hs;rw[dK]at hz;have l0:=NW hs;have l1:=NX hs;have f1:=acW n.type;have f2:=acX (l:=n.keys) (by simp only[cD]at hz;omega);have f3:=acX (l:=n.unique) (by simp only[cD]at hz;omega);have f4:=acY n;clear hs hz;unfold Dl;rw[ez]at f1;simp only[ae n]at l0 l1 f4;refine bY ad9 (by rw[ae];rfl) ?_;generalize n.keys.all (Cn n.kids)=r0 at *;generalize n.unique.all (BP n.kids)=r1 at *;generalize zT n.type=z at *;generalize sq n.keys=a at *;generalize sq n.unique=b at *;generalize kG n=o at *;cases r0
 ·simp +contextual -implicitDefEqProofs only [go_sem]at l0
  simp +contextual -implicitDefEqProofs only [go_sem,t214,ae n,l0]
 cases r1
 ·simp +contextual -implicitDefEqProofs only [go_sem]at l0
  simp +contextual -implicitDefEqProofs only [go_sem]at l1
  simp +contextual -implicitDefEqProofs only [go_sem,t214,ae n,l0,l1]
 simp +contextual -implicitDefEqProofs only [go_sem]at l0
 simp +contextual -implicitDefEqProofs only [go_sem]at l1
 cases z
 ·simp only[go_sem,dy,jl,dw,kj,dx,f1,t214,ae n,l0,l1]
 cases hk:n.keys.isEmpty
 rotate_left
 ·simp only[go_sem,dy,dw,fV,dx,pC,f1,t214,ae n,l0,l1,hk]
 cases a
 ·simp only[go_sem,dy,dw,fV,dx,pC,f1,f2,t214,ae n,l0,l1,hk]
 cases b
 ·simp only[go_sem,dy,dw,fV,dx,pC,f1,f2,f3,t214,ae n,l0,l1,hk]
 cases o<;>simp only[go_sem,dy,dw,fV,dx,pC,f1,f2,f3,f4,cA,t214,ae n,l0,l1,hk]
 generalize n.given=b1;generalize n.dY=b2;generalize n.cP=b3;generalize n.fixed=b4;cases b1<;>cases b2<;>cases b3<;>cases b4<;>rfl
end
section
theorem Il(o:Option Nat)(i:Nat):decide (n9 o=(i:Int))=decide (o=some i):=by
 cases o with
 |none=>simp[n9]
 |some j=>exact decide_eq_decide.2 ⟨λh=>congrArg some (Int.ofNat.inj h),λh=>congrArg Int.ofNat (eM h)⟩
theorem agr{d:List af}{j:Nat}{e:af}(h:nth d j=some e):aJ (.nk 19 1 1 true) [aB d,.int .i64 (j:Int)]=some (.list 0 false [ax e]):=by
 simp only[aJ,cE,aH,h,aD];rw[ae];exact if_pos ⟨trivial,by decide,by simp only[az];omega,rfl⟩
section
variable {ip:ByteArray->Bool} {mt:ByteArray->ByteArray->Bool} (hP:∀s:ByteArray,s.size<=mg->G 227 [.str s]=some (0,[.bool (ip s)])) (hM:∀p s:ByteArray,p.size<=mg->s.size<=mg->G 236 [.str p,.str s]=some (0,[.bool (mt p s)]))
include hP hM
theorem ahM{n:af}{free:Bool}(hs:eV (ax n)<=mg):G 239 (ax n++[.bool free])=some (0,[.bool (Bd ip mt n free)]):=by
 have hz:=hs;rw[dK]at hz;have f1:=Vv (s:=n.name) (by omega);have f2:G 210 [cV n.when,.int .i64 1]=_:=acV (m:=1) (by omega);have f3:G 210 [cV n.hX,.int .i64 3]=_:=acV (m:=3) (by omega);have f4:=acW n.type;have f5:=ahC hs;have f6:=ac5 hP (t:=n.type) (by omega);have f7:=acY n;have f8:=ac8 hP hM (t:=n.type) (s:=n.default) (by omega) (by omega);clear hs hz hP hM;simp only[ez,ae n,ai,ao]at f4 f5 f6 f7 f8;refine bY aer (by rw[ae];rfl) ?_;unfold Bd C6;generalize isName n.name=h1 at *;generalize Cd n.when 1=h2 at *;generalize Cd n.hX 3=h3 at *;generalize Ra:zT n.type=z at *;generalize hi_:isType ip n.type=it at *;generalize ho_:kG n=os at *;cases h1
 ·simp +contextual -implicitDefEqProofs only [go_sem,dy,dw,fV,dx,br,f1,qm,cA,t239,ae n]
 cases h2
 ·simp +contextual -implicitDefEqProofs only [go_sem,dy,dw,fV,dx,br,f1,f2,qm,cA,t239,ae n]
 cases h3
 ·simp +contextual -implicitDefEqProofs only [go_sem,dy,dw,fV,dx,br,f1,f2,f3,qm,cA,t239,ae n]
 have hN:(n.keys.isEmpty && n.unique.isEmpty && decide (n.default.size=0) && !n.given && !n.fixed && decide (n.min=0) && decide (n.max=0))=oC n:=by simp only[oC,fq]
 by_cases k1:n.kind=1
 ·have k2:iZ ip mt n free=(oC n && (!n.dY && z)):=by simp only[iZ,k1,Ra];rfl
  rw[k2];simp +contextual -implicitDefEqProofs only [go_sem,dy,dw,fV,dx,br,f1,f2,f3,qm,cA,t239,ae n,k1]
  rw[hN];generalize oC n=v at *;clear hN;obtain⟨w,hw⟩:∃w,n.dY=w:=⟨_,rfl⟩
  cases v<;>cases w<;>simp only[go_sem,f4,hw]
 by_cases k2:n.kind=2
 ·have e:iZ ip mt n free=Dl n:=by simp only[iZ,k2,if_true];rfl
  rw[e];rw[k2]at f5;simp +contextual -implicitDefEqProofs only [go_sem,dy,dw,fV,dx,br,f1,f2,f3,qm,cA,t239,ae n,k2,f5]
 by_cases k3:n.kind=3
 ·obtain⟨g,hL⟩:∃g,(n.keys.isEmpty && n.unique.isEmpty && decide (n.min=0) && decide (n.max=0) && !n.cP && n.kids.isEmpty)=g:=⟨_,rfl⟩
  have e:AZ ip n=(g && it):=by simp only[AZ,<- hL,fq,hi_]
  have e2:iZ ip mt n free=if n.given=true then (g && it) && (free && (!n.dY && (n.when.isEmpty && isVal ip mt n.type n.default))) else (g && it) && decide (n.default.size=0):=by
   simp only[iZ,k3,e];rfl
  rw[e2];generalize isVal ip mt n.type n.default=iv at *;obtain⟨gi,hg⟩:∃w,n.given=w:=⟨_,rfl⟩
  obtain⟨ne,hn⟩:∃w,n.dY=w:=⟨_,rfl⟩
  obtain⟨we,hw⟩:∃w,n.when.isEmpty=w:=⟨_,rfl⟩
  rw[hg];simp +contextual -implicitDefEqProofs only [go_sem,dy,dw,fV,dx,br,f1,f2,f3,qm,cA,t239,ae n,k3]
  rw[hL];clear hL e e2;cases g
  ·cases gi<;>simp +contextual -implicitDefEqProofs only [go_sem,dy,jl,dw,kj,dx,cA,hg]
  cases it
  ·cases gi<;>simp +contextual -implicitDefEqProofs only [go_sem,dy,jl,dw,kj,dx,cA,f6,hg]
  cases gi
  ·simp +contextual -implicitDefEqProofs only [go_sem,dy,dw,dx,cA,f6,hg]
  cases free
  ·simp +contextual -implicitDefEqProofs only [go_sem,dy,jl,dw,kj,dx,f6,hg]
  cases ne
  rotate_left
  ·simp +contextual -implicitDefEqProofs only [go_sem,dy,jl,dw,kj,dx,f6,hg,hn]
  cases we<;>simp +contextual -implicitDefEqProofs only [go_sem,dy,dw,fV,dx,qm,f6,hg,hn,hw,f8]
 by_cases k4:n.kind=4
 ·obtain⟨g,hL⟩:∃g,(n.keys.isEmpty && n.unique.isEmpty && decide (n.default.size=0) && !n.given && !n.fixed && !n.dY && !n.cP && n.kids.isEmpty)=g:=⟨_,rfl⟩
  have e:iZ ip mt n free=(g && (os && it)):=by simp only[iZ,k4,<- hL,H0,fq,hi_,ho_];rfl
  rw[e];rw[k4]at f7;simp +contextual -implicitDefEqProofs only [go_sem,dy,dw,fV,dx,br,f1,f2,f3,qm,cA,t239,ae n,k4]
  rw[hL];clear hL e;cases g
  ·simp +contextual -implicitDefEqProofs only [go_sem]
  cases os<;>simp +contextual -implicitDefEqProofs only [go_sem,dy,dw,dx,f7,f6]
 by_cases k5:n.kind=5
 ·have e:iZ ip mt n free=(oC n && (!n.cP && (n.hX.isEmpty && z))):=by simp only[iZ,k5,Ra];rfl
  rw[e];simp +contextual -implicitDefEqProofs only [go_sem,dy,dw,fV,dx,br,f1,f2,f3,qm,cA,t239,ae n,k5]
  rw[hN];generalize oC n=v at *;clear hN;obtain⟨w,hw⟩:∃w,n.cP=w:=⟨_,rfl⟩
  obtain⟨u,hu⟩:∃w,n.hX.isEmpty=w:=⟨_,rfl⟩
  cases v<;>cases w<;>cases u<;>simp only[go_sem,f4,hw,hu]
 by_cases k6:n.kind=6
 ·have e:iZ ip mt n free=(oC n && (!n.cP && (!n.dY && (n.hX.isEmpty && z)))):=by simp only[iZ,k6,Ra];rfl
  rw[e];simp +contextual -implicitDefEqProofs only [go_sem,dy,dw,fV,dx,br,f1,f2,f3,qm,cA,t239,ae n,k6]
  rw[hN];generalize oC n=v at *;clear hN;obtain⟨w,hw⟩:∃w,n.cP=w:=⟨_,rfl⟩
  obtain⟨u,hu⟩:∃w,n.hX.isEmpty=w:=⟨_,rfl⟩
  obtain⟨ne,hn⟩:∃w,n.dY=w:=⟨_,rfl⟩
  cases v<;>cases w<;>cases u<;>cases ne<;>simp only[go_sem,f4,hw,hu,hn]
 have e:iZ ip mt n free=false:=by simp only[iZ,k1,k2,k3,k4,k5,k6,if_false]
 rw[e];simp +contextual -implicitDefEqProofs only [go_sem,dy,dw,fV,dx,br,f1,f2,f3,qm,cA,t239,ae n,k1,k2,k3,k4,k5,k6]
theorem Zm(m:Nat):∀(l:List af) (k:Int) (free:Bool) (deep:Nat),ah l < m->cD ax l<=mg->deep+qe l<=2 * mg->
  G 240 [aB l,.int .i64 k,.bool free,.int .i64 (deep:Int)]=some (0,[.bool (Aq ip mt m l k free deep)]):=by
 induction m with
 |zero=>intro l k free deep h;omega
 |succ m ih=>
  intro l k free deep hz hs hd;have hl:l.length<=mg:=by simp only[cD]at hs;omega
  have f0:=q81 hs;have xU:(dk l).length<=mg:=by have:=qI (es:=l);simp only[cD]at this hs;omega
  have h1:=l7 (b:=lB G uj) l (λi=>(0,[aB l,.int .i64 k,.bool free,.int .i64 (deep:Int),.int .i64 (i:Int),aB (dk l)])) (λi n=>decide (fO l n.name=some i) && (decide (decide (k=5)=decide (n.kind=6)) && (Bd ip mt n free && Aq ip mt m n.kids n.kind (tO n free) (deep+1))))
   (1,[aB l,.int .i64 k,.bool free,.int .i64 (deep:Int),.int .i64 l.length,.bool false,aB (dk l)]) (0,[.bool false]) (by
   intro i n hn;have hi:=aP hn;have hw:=wj hi hl;have hm:=aT hn;have JS:eV (ax n)<=mg:=by have:=eo ax hm;omega
   have f1:=W4 (l:=l) (nm:=n.name) hl;have f2:=ahM hP hM (n:=n) (free:=free) JS;have f3:=ih n.kids n.kind (tO n free) (deep+1) (by have:=aW hm;have:=af.fv n;omega) (aA (hY n) JS) (by have:=(yM l _).1 (aj _) n hm;omega);have e1:=Il (fO l n.name) i;have e2:IntKind.i64.wrap ((deep:Int)+1)=((deep+1:Nat):Int):=by rw[wrap_i64 (by simp only[mg]at hd;omega)];omega
   have hB:(free && n.when.isEmpty && !decide (n.kind=6))=tO n free:=by simp only[tO,fq]
   simp only[ae n,ai,ao]at f2;clear ih hP hM hs hz hd JS f0;rw[<- hB]at f3 ⊢;clear hB;generalize Bd ip mt n free=ns at *;generalize Aq ip mt m n.kids n.kind (free && n.when.isEmpty && !decide (n.kind=6)) (deep+1)=ks at *;generalize decide (fO l n.name=some i)=si at *;obtain⟨di,QX⟩:∃b,decide (decide (k=5)=decide (n.kind=6))=b:=⟨_,rfl⟩
   rw[QX];cases si
   ·simp +contextual -implicitDefEqProofs only [go_sem,dy,jl,dw,fV,kj,dx,br,bl,uj,hi,aH,hn,ae n,qm,f1,e1]
   cases di
   ·simp +contextual -implicitDefEqProofs only [go_sem,dy,jl,dw,fV,kj,dx,br,bl,uj,hi,aH,hn,ae n,qm,QX,f1,e1]
   cases ns
   ·simp +contextual -implicitDefEqProofs only [go_sem,dy,jl,dw,fV,kj,dx,br,bl,uj,hi,aH,hn,ae n,qm,QX,f1,e1,e2,f2]
   cases ks<;>simp +contextual -implicitDefEqProofs only [go_sem,dy,dw,fV,dx,br,bl,uj,hi,hw,aH,hn,ae n,qm,QX,f1,e1,e2,f2,f3]
   ) (by simp only[go_sem,bl,uj,aq]) l.length 0 (by omega)
  have h2:=l7 (b:=lB G ES) (dk l) (λi=>(0,[aB l,.int .i64 (deep:Int),.int .i64 (i:Int),aB (dk l)])) (λi n=>decide (fO (dk l) n.name=some i))
   (1,[aB l,.int .i64 (deep:Int),.int .i64 (dk l).length,.bool false,aB (dk l)]) (0,[.bool false]) (by
   intro i n hn;have hi:=aP hn;have hw:=wj hi xU;have f1:=W4 (l:=dk l) (nm:=n.name) xU;have e1:=Il (fO (dk l) n.name) i;have g1:=lu 19 false ((dk l).map ax) i (by rw[au];exact hi);have g2:=agr hn;clear ih hP hM hs hz hd f0;generalize decide (fO (dk l) n.name=some i)=si at *;cases si<;>simp +contextual -implicitDefEqProofs only [go_sem,bl,ES,hi,hw,ae n,f1,e1,g1,g2]
   ) (by simp only[go_sem,bl,ES,aq]) (dk l).length 0 (by omega)
  rw[n0,aV]at h1 h2;have hd8:decide ((deep:Int)<=8)=decide (deep<=8):=decide_eq_decide.2 (by omega);refine bY aes rfl ?_;rw[Aq];generalize allI _ 0 l=a1 at *;generalize allI _ 0 (dk l)=a2 at *;clear ih hP hM;cases a1
  ·simp only[go_sem]at h1;simp +contextual -implicitDefEqProofs only [go_sem,t240,f0,h1]
  cases a2
  ·simp only[go_sem]at h1;simp only[go_sem]at h2;simp +contextual -implicitDefEqProofs only [go_sem,t240,f0,h1,h2]
  simp only[go_sem]at h1;simp only[go_sem]at h2;simp +contextual -implicitDefEqProofs only [go_sem,dy,dw,fV,dx,TH,t240,f0,h1,h2,hd8,qm]
theorem ahN{l:List af}(hs:cD ax l<=mg):G 241 [aB l]=some (0,[.bool (C8 ip mt l)]):=by
 obtain⟨r,h1,h2⟩:=ahv hs (x:=60) (by omega) (by omega);have h3:=Zm hP hM (ah l+1) l 0 true 1 (aO _) hs (by have:=PZ (l:=l);simp only[mg]at *;omega);rw[n1]at h3;have hr:decide (0<=r)=decide (dq l<=60):=by
  apply decide_eq_decide.2
  unfold sK at h2;omega
 clear hP hM h2;refine bY aet rfl ?_;unfold C8;generalize Aq ip mt (ah l+1) l 0 true 1=k at *;generalize decide (dq l<=60)=c at *;cases c<;>simp +contextual -implicitDefEqProofs only [go_sem,dy,dw,dx,t241,h1,hr,h3]
end
end
section
theorem XL{α β:Type}(a:List α)(b:List β)(ha:a.length<=mg)(hb:b.length<=mg):decide ((0:Int) < IntKind.i64.wrap ((a.length:Int)+(b.length:Int)))=!(a.isEmpty && b.isEmpty):=by
 rw[wrap_i64 (by simp only[mg]at ha hb;omega)];cases a<;>cases b<;>simp<;>omega
theorem rQ{α:Type}(a:List α):decide ((1:Int)<=(a.length:Int))=!a.isEmpty:=by cases a<;>simp;omega
section
variable {ip:ByteArray->Bool} {mt:ByteArray->ByteArray->Bool} (hP:∀s:ByteArray,s.size<=mg->G 285 [.str s]=some (0,[.bool (ip s)])) (hM:∀p s:ByteArray,p.size<=mg->s.size<=mg->G 310 [.str p,.str s]=some (0,[.bool (mt p s)]))
include hP hM
theorem aid{n:af}(hs:eV (ax n)<=mg):G 313 (ax n)=some (0,[.bool (vv ip mt n)]):=by
 have hz:=hs;rw[dK]at hz;have f1:=Vx (s:=n.name) (by omega);have f2:G 269 [cV n.when,.int .i64 1]=_:=adb (m:=1) (by omega);have f3:G 269 [cV n.hX,.int .i64 3]=_:=adb (m:=3) (by omega);have f4:=ah4 n.type;have f5:=ah5 n;have f6:=adk hP (t:=n.type) (by omega);have f7:=adn hP hM (t:=n.type) (s:=n.default) (by omega) (by omega);have f8:=vW n.kind;have Hy:n.keys.length<=mg:=by simp only[cD]at hz;omega
 have hul:n.unique.length<=mg:=by simp only[cD]at hz;omega
 have g1:=XL n.keys n.unique Hy hul;have g2:=OA (l:=n.keys) Hy;have g3:=OA (l:=n.unique) hul;have g4:=Zv (l:=n.keys) (by omega);have g5:=Zv (l:=n.unique) (by omega);have g6:decide ((n.keys.length:Int)<=3)=decide (n.keys.length<=3):=decide_eq_decide.2 (by omega);have g7:decide ((n.unique.length:Int)<=3)=decide (n.unique.length<=3):=decide_eq_decide.2 (by omega);clear hs hz hP hM Hy hul;simp only[ez,ae n,ai,ao]at f4 f5 f6 f7;refine bY ae9 (by rw[ae];rfl) ?_;unfold vv C6;generalize isName n.name=h1 at *;generalize Cd n.when 1=h2 at *;generalize Cd n.hX 3=h3 at *;generalize Ra:zT n.type=z at *;generalize hi_:isType ip n.type=it at *;generalize ho_:kG n=os at *;cases h1
 ·simp +contextual -implicitDefEqProofs only [go_sem,dy,dw,dx,f1,yB,ae n]
 cases h2
 ·simp +contextual -implicitDefEqProofs only [go_sem,dy,dw,dx,f1,f2,yB,ae n]
 cases h3
 ·simp +contextual -implicitDefEqProofs only [go_sem,dy,dw,dx,f1,f2,f3,yB,ae n]
 by_cases k1:n.kind=1
 ·have f8:G 92 [.int .i64 1]=some (0,[.bool true]):=vW 1;have hb:nJ n=(!z ||!(n.keys.isEmpty && n.unique.isEmpty) ||(!decide (n.default.size=0) ||n.given ||n.fixed) ||n.dY ||(!decide (n.min=0) ||!decide (n.max=0))):=by simp[nJ,k1,Ra,lS,fg,fT]
  have hc:jD ip mt n=true:=by simp[jD,k1]
  rw[hb,hc];simp +contextual -implicitDefEqProofs only [go_sem,dy,dw,fV,dx,br,TH,Wf,fS,wE,iu,f1,f2,f3,cA,yB,ae n,f4,g1,k1]
  generalize (!z ||!(n.keys.isEmpty && n.unique.isEmpty) ||(!decide (n.default.size=0) ||n.given ||n.fixed) ||n.dY ||(!decide (n.min=0) ||!decide (n.max=0)))=F at *;clear hb hc;cases F<;>simp +contextual -implicitDefEqProofs only [go_sem,dy,jl,dw,kj,dx,iu,f8]
 by_cases k2:n.kind=2
 ·have f8:G 92 [.int .i64 2]=some (0,[.bool true]):=vW 2;rw[k2]at f5;have hb:nJ n=(!z ||(!decide (n.default.size=0) ||n.given ||n.fixed) ||n.dY ||n.cP):=by simp[nJ,k2,Ra,lS,fg,fT]
  have hc:jD ip mt n=(!n.keys.isEmpty && (lr n.keys && (lr n.unique && os))):=by simp[jD,k2,ho_]
  rw[hb,hc];simp +contextual -implicitDefEqProofs only [go_sem,dy,jl,dw,kj,dx,br,TH,Wf,fS,wE,iu,f1,f2,f3,cA,yB,ae n,f4,k2]
  generalize (!z ||(!decide (n.default.size=0) ||n.given ||n.fixed) ||n.dY ||n.cP)=F at *;clear hb hc;unfold lr;generalize decide (n.keys.length<=3)=c1 at *;generalize decide (n.unique.length<=3)=c2 at *;generalize qd n.keys=c3 at *;generalize qd n.unique=c4 at *;generalize n.keys.all isName=c5 at *;generalize n.unique.all isName=c6 at *;obtain⟨ke,hm⟩:∃b,n.keys.isEmpty=b:=⟨_,rfl⟩
  rw[hm];cases F
  rotate_left
  ·simp +contextual -implicitDefEqProofs only [go_sem]
  cases ke
  rotate_left
  ·simp +contextual -implicitDefEqProofs only [go_sem,dy,jl,dw,kj,dx,iu,f8,rQ,hm]
  cases c1
  ·simp +contextual -implicitDefEqProofs only [go_sem,dy,jl,dw,fV,kj,dx,iu,f8,rQ,hm,g6]
  cases c3
  ·simp +contextual -implicitDefEqProofs only [go_sem,dy,jl,dw,fV,kj,dx,iu,f8,rQ,hm,g6,g2]
  cases c5
  ·simp +contextual -implicitDefEqProofs only [go_sem,dy,jl,dw,fV,kj,dx,iu,f8,rQ,hm,g6,g2,g4]
  cases c2
  ·simp +contextual -implicitDefEqProofs only [go_sem,dy,jl,dw,fV,kj,dx,iu,f8,rQ,hm,g6,g2,g4,g7]
  cases c4
  ·simp +contextual -implicitDefEqProofs only [go_sem,dy,jl,dw,fV,kj,dx,iu,f8,rQ,hm,g6,g2,g4,g7,g3]
  cases c6
  ·simp +contextual -implicitDefEqProofs only [go_sem,dy,jl,dw,fV,kj,dx,iu,f8,rQ,hm,g6,g2,g4,g7,g3,g5]
  cases os<;>simp +contextual -implicitDefEqProofs only [go_sem,dy,jl,dw,fV,kj,dx,iu,f8,rQ,hm,g6,g2,g4,g7,g3,g5,f5]
 by_cases k3:n.kind=3
 ·have f8:G 92 [.int .i64 3]=some (0,[.bool true]):=vW 3;have hb:nJ n=(!(n.keys.isEmpty && n.unique.isEmpty) ||n.cP ||(!decide (n.min=0) ||!decide (n.max=0)) ||!n.kids.isEmpty):=by simp[nJ,k3,Ra,lS,fg,fT]
  have hc:jD ip mt n=(it && (!(n.given && (n.dY ||!n.when.isEmpty)) && (if n.given=true then isVal ip mt n.type n.default else decide (n.default.size=0)))):=by simp[jD,k3,hi_]
  rw[hb,hc];simp +contextual -implicitDefEqProofs only [go_sem,dy,dw,fV,dx,br,TH,Wf,fS,wE,iu,f1,f2,f3,cA,yB,ae n,g1,k3]
  generalize (!(n.keys.isEmpty && n.unique.isEmpty) ||n.cP ||(!decide (n.min=0) ||!decide (n.max=0)))=F at *;clear hb hc;generalize isVal ip mt n.type n.default=iv at *;obtain⟨ke,hm⟩:∃b,n.kids.isEmpty=b:=⟨_,rfl⟩
  obtain⟨gi,hg⟩:∃b,n.given=b:=⟨_,rfl⟩
  obtain⟨ne,hn⟩:∃b,n.dY=b:=⟨_,rfl⟩
  obtain⟨we,hw⟩:∃b,n.when.isEmpty=b:=⟨_,rfl⟩
  rw[hm,hg,hn,hw];cases F
  rotate_left
  ·simp +contextual -implicitDefEqProofs only [go_sem]
  cases ke
  ·simp +contextual -implicitDefEqProofs only [go_sem,dy,jl,dw,fV,kj,dx,iu,pC,f8,hm]
  cases it
  ·simp +contextual -implicitDefEqProofs only [go_sem,dy,jl,dw,fV,kj,dx,wE,iu,pC,f8,hm,f6]
  cases gi
  ·simp +contextual -implicitDefEqProofs only [go_sem,dy,jl,dw,fV,kj,dx,wE,iu,cA,pC,f8,hm,f6]
  cases ne
  rotate_left
  ·simp +contextual -implicitDefEqProofs only [go_sem,dy,jl,dw,fV,kj,dx,wE,iu,pC,f8,hm,f6]
  cases we
  ·simp +contextual -implicitDefEqProofs only [go_sem,dy,jl,dw,fV,kj,dx,wE,iu,pC,f8,hm,f6,hw]
  cases iv<;>simp +contextual -implicitDefEqProofs only [go_sem,dy,jl,dw,fV,kj,dx,wE,iu,cA,pC,f8,hm,f6,hw,f7]
 by_cases k4:n.kind=4
 ·have f8:G 92 [.int .i64 4]=some (0,[.bool true]):=vW 4;rw[k4]at f5;have hb:nJ n=(!(n.keys.isEmpty && n.unique.isEmpty) ||(!decide (n.default.size=0) ||n.given ||n.fixed) ||n.dY ||n.cP ||!n.kids.isEmpty):=by simp[nJ,k4,Ra,lS,fg,fT]
  have hc:jD ip mt n=(it && os):=by simp[jD,k4,hi_,ho_]
  rw[hb,hc];simp +contextual -implicitDefEqProofs only [go_sem,dy,dw,fV,dx,br,TH,Wf,fS,wE,iu,f1,f2,f3,cA,yB,ae n,g1,k4]
  generalize (!(n.keys.isEmpty && n.unique.isEmpty) ||(!decide (n.default.size=0) ||n.given ||n.fixed) ||n.dY ||n.cP)=F at *;clear hb hc;obtain⟨ke,hm⟩:∃b,n.kids.isEmpty=b:=⟨_,rfl⟩
  rw[hm];cases F
  rotate_left
  ·simp +contextual -implicitDefEqProofs only [go_sem]
  cases ke
  ·simp +contextual -implicitDefEqProofs only [go_sem,dy,jl,dw,fV,kj,dx,iu,pC,f8,hm]
  cases it
  ·simp +contextual -implicitDefEqProofs only [go_sem,dy,jl,dw,fV,kj,dx,iu,pC,f8,hm,f6]
  cases os<;>simp +contextual -implicitDefEqProofs only [go_sem,dy,jl,dw,fV,kj,dx,iu,pC,f8,hm,f6,f5]
 by_cases k5:n.kind=5
 ·have f8:G 92 [.int .i64 5]=some (0,[.bool false]):=vW 5;have hb:nJ n=(!z ||!(n.keys.isEmpty && n.unique.isEmpty) ||(!decide (n.default.size=0) ||n.given ||n.fixed) ||n.cP ||(!decide (n.min=0) ||!decide (n.max=0)) ||!n.hX.isEmpty):=by simp[nJ,k5,Ra,lS,fg,fT]
  have hc:jD ip mt n=true:=by simp[jD,k5]
  rw[hb,hc];simp +contextual -implicitDefEqProofs only [go_sem,dy,dw,fV,dx,br,TH,Wf,fS,wE,iu,f1,f2,f3,cA,yB,ae n,f4,g1,k5]
  generalize (!z ||!(n.keys.isEmpty && n.unique.isEmpty) ||(!decide (n.default.size=0) ||n.given ||n.fixed) ||n.cP ||(!decide (n.min=0) ||!decide (n.max=0)))=F at *;clear hb hc;obtain⟨me,hm⟩:∃b,n.hX.isEmpty=b:=⟨_,rfl⟩
  rw[hm];cases F<;>cases me<;>simp +contextual -implicitDefEqProofs only [go_sem,dy,jl,dw,fV,kj,dx,iu,pC,f8,hm]
 by_cases k6:n.kind=6
 ·have f8:G 92 [.int .i64 6]=some (0,[.bool false]):=vW 6;have hb:nJ n=(!z ||!(n.keys.isEmpty && n.unique.isEmpty) ||(!decide (n.default.size=0) ||n.given ||n.fixed) ||n.dY ||n.cP ||(!decide (n.min=0) ||!decide (n.max=0)) ||!n.hX.isEmpty):=by simp[nJ,k6,Ra,lS,fg,fT]
  have hc:jD ip mt n=true:=by simp[jD,k6]
  rw[hb,hc];simp +contextual -implicitDefEqProofs only [go_sem,dy,dw,fV,dx,br,TH,Wf,fS,wE,iu,f1,f2,f3,cA,yB,ae n,f4,g1,k6]
  generalize (!z ||!(n.keys.isEmpty && n.unique.isEmpty) ||(!decide (n.default.size=0) ||n.given ||n.fixed) ||n.dY ||n.cP ||(!decide (n.min=0) ||!decide (n.max=0)))=F at *;clear hb hc;obtain⟨me,hm⟩:∃b,n.hX.isEmpty=b:=⟨_,rfl⟩
  rw[hm];cases F<;>cases me<;>simp +contextual -implicitDefEqProofs only [go_sem,dy,jl,dw,fV,kj,dx,iu,pC,f8,hm]
 by_cases k7:n.kind=7
 ·have f8:G 92 [.int .i64 7]=some (0,[.bool false]):=vW 7;have hb:nJ n=(!z ||!(n.keys.isEmpty && n.unique.isEmpty) ||(!decide (n.default.size=0) ||n.given ||n.fixed) ||n.dY ||n.cP ||(!decide (n.min=0) ||!decide (n.max=0)) ||!n.hX.isEmpty):=by simp[nJ,k7,Ra,lS,fg,fT]
  have hc:jD ip mt n=(n.when.isEmpty && n.kids.isEmpty):=by simp[jD,k7]
  rw[hb,hc];simp +contextual -implicitDefEqProofs only [go_sem,dy,dw,fV,dx,br,TH,Wf,fS,wE,iu,f1,f2,f3,cA,yB,ae n,f4,g1,k7]
  generalize (!z ||!(n.keys.isEmpty && n.unique.isEmpty) ||(!decide (n.default.size=0) ||n.given ||n.fixed) ||n.dY ||n.cP ||(!decide (n.min=0) ||!decide (n.max=0)))=F at *;clear hb hc;obtain⟨me,hm⟩:∃b,n.hX.isEmpty=b:=⟨_,rfl⟩
  rw[hm];cases F<;>cases me<;>simp +contextual -implicitDefEqProofs only [go_sem,dy,jl,dw,fV,kj,dx,br,iu,qm,pC,f8,hm]
 ·have f9:G 92 [.int .i64 n.kind]=some (0,[.bool false]):=by rw[f8,lS,show fg 1 4 n.kind=false from by rw[cT,Ne,fJ];omega]
  have hc:jD ip mt n=false:=by simp[jD,k1,k2,k3,k4,k5,k6,k7]
  rw[hc];simp +contextual -implicitDefEqProofs only [go_sem,dy,dw,fV,dx,br,TH,Wf,fS,wE,iu,f1,f2,f3,cA,yB,ae n,f4,g1,k1,k2,k3,k4,k5]
  generalize (!z ||!(n.keys.isEmpty && n.unique.isEmpty) ||(!decide (n.default.size=0) ||n.given ||n.fixed) ||n.dY ||n.cP ||(!decide (n.min=0) ||!decide (n.max=0)))=F at *;obtain⟨me,hm⟩:∃b,n.hX.isEmpty=b:=⟨_,rfl⟩
  cases F<;>cases me<;>simp +contextual -implicitDefEqProofs only [go_sem,dy,jl,dw,fV,kj,dx,iu,pC,k1,k2,k3,k4,k5,k6,k7,f9,hm]
end
end
section
theorem Oc{n:af}{l:List af}{k:Int}{b:Bool}{cnt i:Nat}(hn:eV (ax n)<=mg) :
  bR (lB G wX) (0,[.int .i64 k,.bool b,aB l,.int .i64 cnt,.int .i64 (i:Int),aN n.keys,.int .i64 n.keys.length,.int .i64 0]++ax n) =
   some (if n.keys.all (tv n.kids)=true then (1,[.int .i64 k,.bool b,aB l,.int .i64 cnt,.int .i64 (i:Int),aN n.keys,.int .i64 n.keys.length,.int .i64 n.keys.length,.bool false]++ax n) else (0,[.bool false])):=by
 have hz:=hn;rw[dK]at hz;have Hy:n.keys.length<=mg:=by simp only[cD]at hz;omega
 have ri:n.kids.length<=mg:=by simp only[cD]at hz;omega
 have h:=gT (b:=lB G wX) n.keys (λj=>(0,[.int .i64 k,.bool b,aB l,.int .i64 cnt,.int .i64 (i:Int),aN n.keys,.int .i64 n.keys.length,.int .i64 (j:Int)]++ax n)) (tv n.kids)
  (1,[.int .i64 k,.bool b,aB l,.int .i64 cnt,.int .i64 (i:Int),aN n.keys,.int .i64 n.keys.length,.int .i64 n.keys.length,.bool false]++ax n) (0,[.bool false]) (by
  intro j e hj;have hi:=aP hj;have hw:=wj hi Hy;have f1:=ado (l:=n.kids) (nm:=e) ri;cases hf:jZ n.kids e with
  |none=>
   rw[hf]at f1;simp only[Fx,ae,ai,ao]at f1;have hk:tv n.kids e=false:=by simp only[tv,hf,ue]
   simp +contextual -implicitDefEqProofs only [go_sem,dy,jl,dw,kj,dx,bl,wX,ae n,hi,aH,hj,fm,f1,hk]
  |some jx=>
   obtain⟨x,hjx,_⟩:=ef hf;rw[hf]at f1;simp only[hjx,ae,ai,ao]at f1;obtain⟨we,h1⟩:∃b,x.when.isEmpty=b:=⟨_,rfl⟩
   obtain⟨gi,h2⟩:∃b,x.given=b:=⟨_,rfl⟩
   obtain⟨kd,h3⟩:∃b,decide (x.type.kind=6)=b:=⟨_,rfl⟩
   have hk:tv n.kids e=(we && (!gi && !kd)):=by simp only[tv,hf,ue,hjx,NS,h1,h2,h3]
   rw[hk];cases we<;>cases gi<;>cases kd<;>simp +contextual -implicitDefEqProofs only [go_sem,dy,dw,fV,dx,bl,wX,ae n,hi,aH,hj,fm,f1,pC,h1,h2,h3,hw]
   ) (by simp +contextual -implicitDefEqProofs only [go_sem,bl,wX,ae n,aq])
 exact h
theorem Od{n:af}{l:List af}{k:Int}{b:Bool}{cnt i:Nat}(hn:eV (ax n)<=mg) :
  bR (lB G wY) (0,[.int .i64 k,.bool b,aB l,.int .i64 cnt,.int .i64 (i:Int),aN n.unique,.int .i64 n.unique.length,.int .i64 0]++ax n) =
   some (if n.unique.all (λu=>(jZ n.kids u).isSome)=true then (1,[.int .i64 k,.bool b,aB l,.int .i64 cnt,.int .i64 (i:Int),aN n.unique,.int .i64 n.unique.length,.int .i64 n.unique.length,.bool false]++ax n) else (0,[.bool false])):=by
 have hz:=hn;rw[dK]at hz;have Hy:n.unique.length<=mg:=by simp only[cD]at hz;omega
 have ri:n.kids.length<=mg:=by simp only[cD]at hz;omega
 have h:=gT (b:=lB G wY) n.unique (λj=>(0,[.int .i64 k,.bool b,aB l,.int .i64 cnt,.int .i64 (i:Int),aN n.unique,.int .i64 n.unique.length,.int .i64 (j:Int)]++ax n)) (λu=>(jZ n.kids u).isSome)
  (1,[.int .i64 k,.bool b,aB l,.int .i64 cnt,.int .i64 (i:Int),aN n.unique,.int .i64 n.unique.length,.int .i64 n.unique.length,.bool false]++ax n) (0,[.bool false]) (by
  intro j e hj;have hi:=aP hj;have hw:=wj hi Hy;have f1:=ado (l:=n.kids) (nm:=e) ri;cases hf:jZ n.kids e with
  |none=>
   rw[hf]at f1;simp only[Fx,ae,ai,ao]at f1;simp +contextual -implicitDefEqProofs only [go_sem,bl,wY,ae n,hi,aH,hj,fm,f1,Option.isSome]
  |some jx=>
   obtain⟨x,hjx,_⟩:=ef hf;rw[hf]at f1;simp only[hjx,ae,ai,ao]at f1;simp +contextual -implicitDefEqProofs only [go_sem,bl,wY,ae n,hi,aH,hj,fm,f1,hw,Option.isSome]
   ) (by simp +contextual -implicitDefEqProofs only [go_sem,bl,wY,ae n,aq])
 exact h
section
variable {ip:ByteArray->Bool} {mt:ByteArray->ByteArray->Bool} (hP:∀s:ByteArray,s.size<=mg->G 285 [.str s]=some (0,[.bool (ip s)])) (hM:∀p s:ByteArray,p.size<=mg->s.size<=mg->G 310 [.str p,.str s]=some (0,[.bool (mt p s)]))
include hP hM
theorem ZA(m:Nat):∀(l:List af) (k:Int) (b:Bool),ah l < m->cD ax l<=mg->
  G 315 [aB l,.int .i64 k,.bool b]=some (0,[.bool (tw ip mt m l k b)]):=by
 induction m with
 |zero=>intro l k b h;omega
 |succ m ih=>
  intro l k b hz hs;have hl:l.length<=mg:=by simp only[cD]at hs;omega
  have h2:=gT (b:=lB G oX) l (λi=>(0,[.int .i64 k,.bool b,aB l,.int .i64 l.length,.int .i64 (i:Int)])) (λn=>vv ip mt n && (!decide (n.kind=7) && (decide (decide (n.kind=6)=decide (k=5)) && (!(n.given && b) && (n.keys.all (tv n.kids) && (n.unique.all (λu=>(jZ n.kids u).isSome) && tw ip mt m n.kids n.kind (b ||(!n.when.isEmpty ||decide (n.kind=6)))))))))
   (1,[.int .i64 k,.bool b,aB l,.int .i64 l.length,.int .i64 l.length,.bool false]) (0,[.bool false]) (by
   intro i n hn;have hi:=aP hn;have hw:=wj hi hl;have hm:=aT hn;have JS:eV (ax n)<=mg:=by have:=eo ax hm;omega
   have f1:=aid hP hM JS;have e1:=Oc (n:=n) (l:=l) (k:=k) (b:=b) (cnt:=l.length) (i:=i) JS;have e2:=Od (n:=n) (l:=l) (k:=k) (b:=b) (cnt:=l.length) (i:=i) JS;have f2:=ih n.kids n.kind (b ||!n.when.isEmpty ||decide (n.kind=6)) (by have:=aW hm;have:=af.fv n;omega) (aA (hY n) JS);rw[<- fT b];simp only[ae n,ai,ao]at f1 e1 e2;clear ih hP hM hs hz JS;generalize vv ip mt n=ns at *;generalize tw ip mt m n.kids n.kind (b ||!n.when.isEmpty ||decide (n.kind=6))=ks at *;generalize n.keys.all (tv n.kids)=ka at *;generalize n.unique.all (λu=>(jZ n.kids u).isSome)=ua at *;obtain⟨k7,h7⟩:∃b,decide (n.kind=7)=b:=⟨_,rfl⟩
   obtain⟨di,QX⟩:∃x,decide (decide (n.kind=6)=decide (k=5))=x:=⟨_,rfl⟩
   obtain⟨gb,uI⟩:∃x,(n.given && b)=x:=⟨_,rfl⟩
   rw[h7,QX,uI];cases ns
   ·simp +contextual -implicitDefEqProofs only [go_sem,dy,jl,dw,dx,iu,bl,oX,hi,aH,hn,ae n,f1,h7]
   cases k7
   rotate_left
   ·simp +contextual -implicitDefEqProofs only [go_sem,dy,jl,dw,dx,iu,bl,oX,hi,aH,hn,ae n,f1,h7]
   cases di
   ·simp +contextual -implicitDefEqProofs only [go_sem,dy,jl,dw,dx,iu,bl,oX,hi,aH,hn,ae n,f1,h7,QX]
   cases gb
   rotate_left
   ·simp +contextual -implicitDefEqProofs only [go_sem,dy,dw,dx,iu,bl,oX,hi,aH,hn,ae n,f1,h7,QX,uI]
   cases ka
   ·simp only[go_sem]at e1;simp +contextual -implicitDefEqProofs only [go_sem,dy,dw,dx,iu,bl,oX,hi,aH,hn,ae n,f1,h7,QX,uI,e1]
   simp only[go_sem]at e1;cases ua
   ·simp only[go_sem]at e2;simp +contextual -implicitDefEqProofs only [go_sem,dy,dw,dx,iu,bl,oX,hi,aH,hn,ae n,f1,h7,QX,uI,e1,e2]
   simp only[go_sem]at e2;cases ks<;>simp +contextual -implicitDefEqProofs only [go_sem,dy,dw,fV,dx,TH,iu,bl,oX,hi,hw,aH,hn,ae n,pC,f1,h7,QX,uI,e1,e2,f2]
   ) (by simp +contextual -implicitDefEqProofs only [go_sem,bl,oX,aq])
  rw[n0]at h2;have c1:=q95 hl;have c2:=OA (l:=l.map af.name) (by rw[au];exact hl);have xU:(dk l).length<=mg:=by have:=qI (es:=l);simp only[cD]at this hs;omega
  have c3:=q94 hs;have c4:=q95 xU;have c5:=OA (l:=(dk l).map af.name) (by rw[au];exact xU);refine bY afa rfl ?_;rw[tw];clear ih hP hM;generalize l.all _=a1 at *;generalize qd (l.map af.name)=d1 at *;generalize qd ((dk l).map af.name)=d2 at *;unfold n7;obtain⟨k5,h5⟩:∃x,decide (k=5)=x:=⟨_,rfl⟩
  obtain⟨k6,h6⟩:∃x,decide (k=6)=x:=⟨_,rfl⟩
  rw[h5,h6];have hkE:kE (dk l)=0\/kE (dk l)=1:=by cases dk l<;>simp[kE]
  cases d1
  ·cases k5<;>cases k6<;>simp +contextual -implicitDefEqProofs only [go_sem,dy,dw,dx,iu,OI,c1,c2,h5,h6]
  cases k5
  rotate_left
  ·cases a1<;>simp only[go_sem]at h2<;>cases k6<;>simp +contextual -implicitDefEqProofs only [go_sem,dy,dw,dx,iu,OI,c1,c2,h5,h6,h2]
  cases k6
  rotate_left
  ·cases a1<;>simp only[go_sem]at h2<;>simp +contextual -implicitDefEqProofs only [go_sem,dy,dw,dx,iu,OI,c1,c2,h5,h6,h2]
  cases d2
  ·rcases hkE with e|e<;>rw[e]at c3<;>simp +contextual -implicitDefEqProofs only [go_sem,dy,dw,dx,iu,OI,c1,c2,h5,h6,c3,c4,c5]
  cases a1<;>simp only[go_sem]at h2<;>rcases hkE with e|e<;>rw[e]at c3<;>simp +contextual -implicitDefEqProofs only [go_sem,dy,dw,dx,iu,OI,c1,c2,h5,h6,c3,c4,c5,h2]
theorem aie{l:List af}(hs:cD ax l<=mg):G 316 [aB l]=some (0,[.bool (C8 ip mt l)]):=by
 have h1:=ahV hs;have h2:=ahW hs;have h3:=ZA hP hM (ah l+1) l 0 false (aO _) hs;have e1:decide ((dq l:Int)<=60)=decide (dq l<=60):=decide_eq_decide.2 (by omega);have e2:decide ((qe l:Int)<=8)=decide (qe l<=8):=decide_eq_decide.2 (by omega);clear hP hM;refine bY afb rfl ?_;rw[UM];generalize tw ip mt (ah l+1) l 0 false=k at *;generalize decide (dq l<=60)=c at *;generalize decide (qe l<=8)=d at *;cases c
 ·simp +contextual -implicitDefEqProofs only [go_sem,dy,dw,dx,Z1,h1,e1]
 cases d<;>simp +contextual -implicitDefEqProofs only [go_sem,dy,dw,dx,Z1,h1,e1,h2,e2,h3]
end
end
section
noncomputable def NO(s:List af)(l:List aR):Bool:=uc ll Fw (C8 ll Fw s) s l
theorem LU{s:List af}{l:List aR}(h:NO s l=true):Rt ll Fw (dk s) l:=NP h
section
variable {s:List af} (hs:cD ax s<=mg)
include hs
theorem ac_{l:List aR}(hl:cD bI l<=mg):G 250 [aB s,bz l]=some (0,[.bool (NO s l)]):=
 ahU (λt _=>ac4 t) (λ_ _ _ h=>ac7 h) hs hl (ahN (λt _=>ac4 t) (λ_ _ _ h=>ac7 h) hs)
theorem adq{l:List aR}(hl:cD bI l<=mg):G 327 [aB s,bz l]=some (0,[.bool (NO s l)]):=
 aim (λt _=>adj t) (λ_ _ _ h=>adm h) hs hl (aie (λt _=>adj t) (λ_ _ _ h=>adm h) hs)
end
end
section
def oZ(n:af)(x:aR)(ks:List aR):List aR:=if (!decide (n.kind=1) ||(n.cP ||!ks.isEmpty))=true then [⟨x.name,x.value,ks⟩] else []
theorem Vu{n:af}{x:aR}{ks:List aR}(h:cD bI ks<=cD bI x.kids):cD bI (oZ n x ks)<=eV (bI x)+1:=by
 unfold oZ;split
 ·rw[lC,jL,jL];simp only[cD,aK,dB,nw]at *;omega
 ·simp[cD,nw]
theorem Lw{g:aR->List aR}:∀{a:List aR},(∀x∈a,cD bI (g x)<=eV (bI x)+1)->cD bI (a.flatMap g)<=cD bI a
 |[],_=>aj _
 |x::a,h=>by
  have h1:=h x eu;have h2:=Lw (a:=a) λy hy=>h y (cz _ hy);rw[pU,FY,lC];omega
theorem R4{n:af}{x:aR}{ks:List aR}:(oZ n x ks).length<=1:=by unfold oZ;split<;>simp
theorem wz{g:aR->List aR}(h:∀x,(g x).length<=1):∀(a:List aR),(a.flatMap g).length<=a.length
 |[]=>aj _
 |x::a=>by
  have h1:=h x;have h2:=wz h a;rw[pU,aL,az];omega
theorem C0{a:List aR}{g:aR->List aR}{i:Nat}{x:aR}(hn:nth a i=some x):(a.take (i+1)).flatMap g=(a.take i).flatMap g++g x:=by
 rw[cn a i x hn,List.flatMap_append,pU,List.flatMap_nil,aG]
theorem Wb{l:List aR}(h:l.length<=mg)(nm v:ByteArray)(ks:List aR):aJ (.app 3 56) [bz l,.list 3 false [[.str nm,.str v,bz ks]]]=some (bz (l++[⟨nm,v,ks⟩])):=by
 have h1:=fj 3 56 false (l.map bI) [[.str nm,.str v,bz ks]] (by decide) (by simp only[mg,au,az,aK]at *;omega);rw[h1];simp[bz,bu]
theorem ab7(nm v:ByteArray)(ks:List aR):aJ (.dV 3 false) [.str nm,.str v,bz ks]=some (.list 3 false [[.str nm,.str v,bz ks]]):=kH 3 _ rfl (by decide)
theorem acQ(a b:ByteArray):aJ .pl [.str a,.str b]=some (.bool false):=(rfl)
theorem U_:aJ (.dV 3 false) []=some (bz []):=(rfl)
theorem dz0:decide ((0:Int) < ((0:Nat):Int))=false:=(rfl)
theorem dzs(n:Nat):decide ((0:Int) < ((n+1:Nat):Int))=true:=by simp only[decide_eq_true_eq];omega
theorem Nk(n:Nat):decide (((n+1:Nat):Int)=0)=false:=by simp only[decide_eq_false_iff_not];omega
end
section
structure kX where
 group:ByteArray
 names:List ByteArray
 act:Int
 FH:Bool
def qK(r:kX):List D:=[.str r.group,aN r.names,.int .i64 r.act,.bool r.FH]
abbrev eU(l:List kX):D:=.list 4 false (l.map qK)
theorem Wd{l:List ByteArray}(h:l.length<=2147483646)(v:ByteArray):aJ (.app 1 16) [aN l,.list 1 true [[.str v]]]=some (aN (l++[v])):=by
 have h1:=fj 1 16 true (l.map fm) [[.str v]] (by decide) (by simp only[au,az,aK];omega);rw[h1];simp[aN,fm]
theorem Wc{l:List ByteArray}(h:l.length<=2147483646):aJ (.app 1 16) [.list 1 true [],aN l]=some (aN l):=fj 1 16 true [] (l.map fm) (by decide) (by simp only[au,aK];omega)
theorem ab6:aJ (.dV 1 true) []=some (.list 1 true []):=(rfl)
theorem q83{l:List ByteArray}(h:l.length<=2147483646)(v:ByteArray):G 83 [aN l,.str v]=some (0,[aN (l++[v])]):=bY s83 rfl (by simp only[go_sem,t83,ab6,Wc h,J5,Wd h])
theorem q98{l:List ByteArray}(h:l.length<=2147483646)(v:ByteArray):G 98 [aN l,.str v]=some (0,[aN (l++[v])]):=bY s98 rfl (by simp only[go_sem,t98,ab6,Wc h,J5,Wd h])
theorem XS(l:List ByteArray)(v:ByteArray):lH l v=l.any λe=>decide (e=v):=congrArg l.any (funext λe=>decide_eq_decide.2 eq_comm)
theorem q84{l:List ByteArray}{v:ByteArray}(hs:l.length<=mg):G 84 [aN l,.str v]=some (0,[.bool (lH l v)]):=by
 have hl:=Em (b:=lB G Me) l (λi=>(0,[aN l,.str v,.int .i64 (i:Int)])) (λe=>decide (e=v)) (1,[aN l,.str v,.int .i64 l.length,.bool false]) (0,[.bool true]) (by
  intro i e hn;have hi:=aP hn;have hw:=wj hi hs;obtain⟨p,h⟩:∃p,decide (e=v)=p:=⟨_,rfl⟩
  cases p<;>simp only[go_sem,bl,Me,hi,aH,hn,fm,h,hw]) (by simp only[go_sem,bl,Me,aq])
 rw[n0]at hl;refine bY s84 rfl ?_;rw[XS];cases hh:l.any (λe=>decide (e=v))<;>rw[hh]at hl<;>simp only[go_sem,t84,hl]
def TZ(l w:List ByteArray):Bool:=decide (w=l.take w.length)
theorem Pu:∀{w l:List ByteArray},(∀j x,nth w j=some x->nth l j=some x)->w=l.take w.length
 |[],_,_=>by simp
 |x::w,l,h=>by
  have h0:=h 0 x rfl;cases l with
  |nil=>cases h0
  |cons y l=>
   cases h0;rw[az,cx,<- Pu (w:=w) (l:=l) λj z hz=>h (j+1) z hz]
theorem Xn(l w:List ByteArray):allI (λi e=>decide (nth l i=some e)) 0 w=TZ l w:=by
 unfold TZ;rw[dC,mi];simp only[bm,decide_eq_true_eq];exact⟨Pu,λh j x hx=>by rw[h]at hx;exact Bg hx⟩
theorem q85{l w:List ByteArray}(hs:w.length<=mg):G 85 [aN l,aN w]=some (0,[.bool (TZ l w)]):=by
 have h:=l7 (b:=lB G Di) w (λi=>(0,[aN l,aN w,.int .i64 (i:Int)])) (λi e=>decide (nth l i=some e)) (1,[aN l,aN w,.int .i64 w.length,.bool false]) (0,[.bool false]) (by
  intro i e hn;have hi:=aP hn;have hw:=wj hi hs;by_cases hl:i < l.length
  ·have pE:¬((l.length:Int)<=(i:Int)):=by omega
   have h2:nth l i=some (l[i]'hl):=dr hl;rw[h2];generalize (l[i]'hl)=f at *;by_cases c:f=e
   ·simp only[go_sem,bl,Di,hi,hw,aH,hn,h2,fm,c,pE]
   ·simp only[go_sem,bl,Di,hi,aH,hn,h2,fm,c,pE,aa]
  ·have pE:((l.length:Int)<=(i:Int)):=by omega
   have h2:nth l i=none:=by
    cases hx:nth l i with
    |none=>rfl
    |some x=>exact absurd (aP hx) hl
   simp only[go_sem,bl,Di,hi,h2,pE,reduceCtorEq]) (by simp only[go_sem,bl,Di,aq]) w.length 0 (by omega)
 rw[n0,aV,Xn]at h;refine bY s85 rfl ?_;cases hh:TZ l w<;>rw[hh]at h<;>simp only[go_sem]at h<;>simp only[go_sem,t85,h]
def QZ(gs ns:List ByteArray)(act:Int)(r:kX):Bool:=(decide (r.group=⟨#[]⟩) ||lH gs r.group) && ((decide (r.act=0) ||decide (r.act=act)) && TZ ns r.names)
def pJ(rs:List kX)(gs ns:List ByteArray)(act:Int):Bool:=match sS (QZ gs ns act) rs 0 with
 |none=>decide (act=1)
 |some j=>(match nth rs j with
  |some r=>r.FH
  |none=>decide (act=1))
theorem P4{l:List kX}{i:Nat}{y:kX}(h:nth l i=some y):aJ (.el 4) [eU l,.int .i64 (i:Int)]=some (.list 0 false [qK y]):=by
 rw[xk,aH,h];rfl
theorem T3{l w:List ByteArray}(h:¬w.length<=l.length):TZ l w=false:=by
 unfold TZ;rw[decide_eq_false_iff_not];intro e;have:=congrArg List.length e;rw[a_]at this;omega
section
variable {rs:List kX} {gs ns:List ByteArray} {act:Int} (hr:rs.length<=mg) (hg:gs.length<=mg) (hk:∀r∈rs,r.names.length<=mg)
include hr hg hk
theorem q86:G 86 [eU rs,aN gs,aN ns,.int .i64 act]=some (0,[.bool (pJ rs gs ns act)]):=by
 have h:=nN (b:=lB G Mg) rs (λi=>(0,[eU rs,aN gs,aN ns,.int .i64 act,.int .i64 (i:Int)])) (QZ gs ns act) (1,[eU rs,aN gs,aN ns,.int .i64 act,.int .i64 rs.length,.bool false]) (λi r=>(0,[.bool r.FH])) (by
  intro i r LJ;have hi:=aP LJ;have hw:=wj hi hr;have e1:=P4 LJ;have f1:=q84 (l:=gs) (v:=r.group) hg;have f2:=q85 (l:=ns) (w:=r.names) (hk r (aT LJ));unfold QZ;generalize lH gs r.group=u at *;generalize TZ ns r.names=v at *;obtain⟨p1,c1⟩:∃p,decide (r.group=⟨#[]⟩)=p:=⟨_,rfl⟩
  obtain⟨p2,c2⟩:∃p,decide (r.act=0)=p:=⟨_,rfl⟩
  obtain⟨p3,c3⟩:∃p,decide (r.act=act)=p:=⟨_,rfl⟩
  cases p1<;>cases u<;>cases p2<;>cases p3<;>cases v<;>simp only[go_sem,bl,Mg,hi,e1,qK,f1,f2,hw,c1,c2,c3]
  ) (by simp only[go_sem,bl,Mg,aq])
 rw[n0]at h;refine bY s86 rfl ?_;simp only[go_sem,t86,h];unfold pJ;generalize hf:sS _ rs 0=o;cases o with
 |none=>simp only[go_sem]
 |some j=>
  obtain⟨y,h1,_⟩:=ef hf;simp only[go_sem,h1]
theorem ahu:G 101 [eU rs,aN gs,aN ns,.int .i64 act]=some (0,[.bool (pJ rs gs ns act)]):=by
 have h:=nN (b:=lB G Ay) rs (λi=>(0,[aN gs,aN ns,.int .i64 act,eU rs,.int .i64 rs.length,.int .i64 (i:Int)])) (QZ gs ns act) (1,[aN gs,aN ns,.int .i64 act,eU rs,.int .i64 rs.length,.int .i64 rs.length,.bool false]) (λi r=>(0,[.bool r.FH])) (by
  intro i r LJ;have hi:=aP LJ;have hw:=wj hi hr;have e1:=P4 LJ;have f1:=q99 (l:=gs) (v:=r.group) hg;have f2:=aht (a:=r.names) (b:=ns.take r.names.length) (hk r (aT LJ));unfold QZ;generalize lH gs r.group=u at *;obtain⟨p1,c1⟩:∃p,decide (r.group=⟨#[]⟩)=p:=⟨_,rfl⟩
  obtain⟨p2,c2⟩:∃p,decide (r.act=0)=p:=⟨_,rfl⟩
  obtain⟨p3,c3⟩:∃p,decide (r.act=act)=p:=⟨_,rfl⟩
  by_cases hl:r.names.length<=ns.length
  ·have g1:decide ((r.names.length:Int)<=(ns.length:Int))=true:=by simp only[decide_eq_true_eq];omega
   have g2:aJ (.cut true) [aN ns,.int .i64 0,.int .i64 (r.names.length:Int)]=some (aN (ns.take r.names.length)):=by
    rw[MF _ _ _ _ (by rw[au];omega),<- nc]
   unfold TZ;generalize decide (r.names=ns.take r.names.length)=v at *;cases p1<;>cases u<;>cases p2<;>cases p3<;>cases v<;>simp only[go_sem,bl,Ay,hi,e1,qK,f1,f2,hw,c1,c2,c3,g1,g2]
  ·have g1:decide ((r.names.length:Int)<=(ns.length:Int))=false:=by simp only[decide_eq_false_iff_not];omega
   rw[T3 hl];cases p1<;>cases u<;>cases p2<;>cases p3<;>simp only[go_sem,bl,Ay,hi,e1,qK,f1,hw,c1,c2,c3,g1]
  ) (by simp only[go_sem,bl,Ay,aq])
 rw[n0]at h;refine bY adF rfl ?_;simp only[go_sem,t101,h];unfold pJ;generalize hf:sS _ rs 0=o;cases o with
 |none=>simp only[go_sem]
 |some j=>
  obtain⟨y,h1,_⟩:=ef hf;simp only[go_sem,h1]
theorem acU:G 102 [eU rs,aN gs,aN ns]=some (0,[.bool (pJ rs gs ns 1)]):=bY adG rfl (by simp only[go_sem,t102,ahu (ns:=ns) (act:=1) hr hg hk])
def Iy(rs:List kX)(gs:List ByteArray)(n:af)(ns:List ByteArray):Bool:=n.keys.all (λk=>pJ rs gs (ns++[k]) 1) && pJ rs gs ns 1
theorem ain{n:af}(hn:eV (ax n)<=mg)(hl:ns.length<=2147483646):G 339 ([eU rs,aN gs]++ax n++[aN ns])=some (0,[.bool (Iy rs gs n ns),eU rs,aN gs]):=by
 have Hy:=LW hn;have h:=gT (b:=lB G Fe) n.keys (λi=>(0,[aN ns,.int .i64 (i:Int)]++ax n++[eU rs,aN gs])) (λk=>pJ rs gs (ns++[k]) 1) (1,[aN ns,.int .i64 n.keys.length,.bool false]++ax n++[eU rs,aN gs]) (0,[.bool false,eU rs,aN gs]) (by
  intro i e LJ;have hi:=aP LJ;have hw:=wj hi Hy;have f1:=q83 hl e;have f2:=q86 (ns:=ns++[e]) (act:=1) hr hg hk;generalize pJ rs gs (ns++[e]) 1=v at *;cases v<;>simp only[go_sem,bl,Fe,ae n,hi,hw,aH,LJ,fm,f1,f2,plb]
  ) (by simp only[go_sem,bl,Fe,ae n,aq])
 rw[n0]at h;have f3:=q86 (ns:=ns) (act:=1) hr hg hk;refine bY afl (by rw[ae];rfl) ?_;simp only[ae n,ai,ao]at h;unfold Iy;generalize pJ rs gs ns 1=w at *;cases hh:n.keys.all (λk=>pJ rs gs (ns++[k]) 1)<;>rw[hh]at h<;>simp only[go_sem]at h<;>simp only[go_sem,af2,ae n,h,f3]
end
end
section
theorem RT(b:Bool)(l:List kX)(m:List ByteArray):aJ .vV [.bool b,eU l,aN m]=some (.bool false):=(rfl)
def Bc(s:List af)(nm:ByteArray):Option af:=match fO (dk s) nm with
 |some k=>nth (dk s) k
 |none=>none
def qQ(rs:List kX)(gs:List ByteArray)(f:af->aR->List aR)(s:List af)(ns:List ByteArray)(x:aR):List aR:=match Bc s x.name with
 |some n=>if Iy rs gs n (ns++[x.name])=true then oZ n x (f n x) else []
 |none=>[]
def lM(rs:List kX)(gs:List ByteArray):Nat->List af->List aR->List ByteArray->List aR
 |0,_,_,_=>[]
 |m+1,s,l,ns=>l.flatMap (qQ rs gs (λn x=>lM rs gs m n.kids x.kids (ns++[x.name])) s ns)
theorem V1{rs:List kX}{gs:List ByteArray}(m:Nat):∀{s:List af} {l:List aR} {ns:List ByteArray},cD bI (lM rs gs m s l ns)<=cD bI l:=by
 induction m with
 |zero=>intro s l ns;simp[lM,cD,nw]
 |succ m ih=>
  intro s l ns;refine Lw λx hx=>?_;unfold qQ;split
  ·split
   ·exact Vu ih
   ·simp[cD,nw]
  ·simp[cD,nw]
theorem DR{rs:List kX}{gs:List ByteArray}{f:af->aR->List aR}{s:List af}{ns:List ByteArray}{x:aR}:(qQ rs gs f s ns x).length<=1:=by
 unfold qQ;split
 ·split
  ·exact R4
  ·simp
 ·simp
section
variable {rs:List kX} {gs:List ByteArray} (hr:rs.length<=mg) (hg:gs.length<=mg) (hk:∀r∈rs,r.names.length<=mg)
include hr hg hk
theorem ZG(M:Nat):∀(s:List af) (l:List aR) (ns:List ByteArray),ah l < M->cD ax s<=mg->cD bI l<=mg->ns.length+cD bI l<=2 * mg->Rt ll Fw (dk s) l->
  G 340 [eU rs,aN gs,aB s,bz l,aN ns]=some (0,[bz (lM rs gs M s l ns),eU rs,aN gs]):=by
 induction M with
 |zero=>intro s l ns h;omega
 |succ M ih=>
  intro s l ns hz hs ha hns hR;have hal:l.length<=mg:=by simp only[cD]at ha;omega
  have hdk:=qI (es:=s);have xU:(dk s).length<=mg:=by simp only[cD]at hdk hs;omega
  have f0:=q81 hs;have hl:=ej (b:=lB G rX) l (λi t=>(0,[bz l,aN ns,.int .i64 (i:Int),eU rs,aN gs,bz t,aB (dk s)])) (λi=>(l.take i).flatMap (qQ rs gs (λn x=>lM rs gs M n.kids x.kids (ns++[x.name])) s ns)) (0,[bz l,aN ns,.int .i64 l.length,.bool false,eU rs,aN gs,bz (l.flatMap (qQ rs gs (λn x=>lM rs gs M n.kids x.kids (ns++[x.name])) s ns)),aB (dk s)]) (by
   intro i x hn;have hi:=aP hn;have hw:=wj hi hal;have e1:=P3 hn;obtain⟨k,n,h1,h2,_,h4⟩:=Pf hR (aT hn);have hnx:n.name=x.name:=by
    obtain⟨e,e1,e2⟩:=ef h1;rw[h2]at e1;cases e1
    simpa using e2
   have f1:=W4 (l:=dk s) (nm:=x.name) xU;rw[h1]at f1;have JS:eV (ax n)<=mg:=by have:=eo ax (aT h2);omega
   have hnk:cD ax n.kids<=mg:=aA (hY n) JS;obtain⟨x1,x2⟩:=Ro ha (aT hn);have x3:=eo bI (aT hn);have x4:=sk x;have NC:(ns++[x.name]).length<=2147483646:=by simp only[mg,aL,az,aK]at *;omega
   have f2:=q83 (l:=ns) (by simp only[mg]at *;omega) x.name;have f5:=ain hr hg hk (ns:=ns++[x.name]) JS NC;have g1:=lu 19 false ((dk s).map ax) k (by rw[au];exact aP h2);have g2:=P5 h2;have ht:=aA (wz (g:=qQ rs gs (λn x=>lM rs gs M n.kids x.kids (ns++[x.name])) s ns) (λx=>DR) (l.take i)) (aA (List.length_take_le' _ _) hal);rw[C0 hn];generalize (l.take i).flatMap _=t at *;have hno:Bc s x.name=some n:=by simp only[Bc,h1,h2]
   unfold qQ;simp only[hno];simp only[ae,ai,ao]at f5;rw[hnx]at f5;have f3:=ih n.kids x.kids (ns++[x.name]) (by have:=aW (aT hn);have:=aR.fv x;omega) hnk x2 (by simp only[aL,az,aK];omega) h4;generalize lM rs gs M n.kids x.kids (ns++[x.name])=ks at f3;have g3:=ab7 x.name x.value ks;have g4:=Wb ht x.name x.value ks;have g5:=acQ x.name x.value;generalize Iy rs gs n (ns++[x.name])=v at *;cases v with
   |false=>simp only[go_sem,bl,rX,hi,hw,e1,bu,ae n,f1,n9,f2,g1,g2,Iu,hnx,RT,f5,aG]
   |true=>
    by_cases c1:n.kind=1
    ·rw[c1]at f5;cases LL:n.cP<;>rw[LL]at f5
     ·cases ks with
      |nil=>
       have tZ:oZ n x []=[]:=by simp[oZ,c1,LL]
       simp only[go_sem,bl,rX,hi,hw,e1,bu,ae n,f1,n9,f2,g1,g2,Iu,hnx,RT,c1,LL,f3,f5,tZ,dz0,aG]
      |cons z ks=>
       have tZ:oZ n x (z::ks)=[⟨x.name,x.value,z::ks⟩]:=by simp[oZ,c1,LL]
       simp only[go_sem,bl,rX,hi,hw,e1,bu,ae n,f1,n9,f2,g1,g2,Iu,hnx,RT,c1,LL,f3,f5,g3,g4,g5,tZ,dzs]
     ·have tZ:oZ n x ks=[⟨x.name,x.value,ks⟩]:=by simp[oZ,c1,LL]
      simp only[go_sem,bl,rX,hi,hw,e1,bu,ae n,f1,n9,f2,g1,g2,Iu,hnx,RT,c1,LL,f3,f5,g3,g4,g5,tZ]
    ·have tZ:oZ n x ks=[⟨x.name,x.value,ks⟩]:=by simp[oZ,c1]
     simp only[go_sem,bl,rX,hi,hw,e1,bu,ae n,f1,n9,f2,g1,g2,Iu,hnx,RT,c1,f3,f5,g3,g4,g5,tZ]
   ) (by simp only[go_sem,bl,rX,aq,aU]) l.length 0 (by omega)
  rw[n0,ba,List.flatMap_nil]at hl;refine bY afm rfl ?_;simp only[go_sem,af3,f0,U_,hl,lM]
def kh(n:af)(here:List ByteArray)(r g a0 a1 a3 a4 a5 B9 a12 TF TG:D)(m:Nat):Nat->Bool->Nat×List D
 |0,v=>(0,[a0,a1,.bool v,a3,a4,a5,aN n.keys,.int .i64 m,.int .i64 ((0:Nat):Int),r,g,B9,a12,TF]++ax n++[TG,aN here])
 |k+1,v=>(1,[a0,a1,aN here,.bool v,a3,a4,a5,aN n.keys,.int .i64 m,.int .i64 ((k+1:Nat):Int),r,g,B9,a12,TF]++ax n++[TG,aN here])
def kf(n:af)(here:List ByteArray)(r g a0 a1 a3 a4 a5 B9 a12 TF TG:D):Nat->Bool->Nat×List D
 |0,v=>(0,[a0,a1,.bool v,a3,a4,a5,aN n.keys,.int .i64 ((0:Nat):Int),.int .i64 ((0:Nat):Int),.bool false,r,g,B9,a12,TF]++ax n++[TG,aN here])
 |k+1,v=>(1,[a0,a1,aN here,.bool v,a3,a4,a5,aN n.keys,.int .i64 ((k+1:Nat):Int),.int .i64 ((k+1:Nat):Int),.bool false,r,g,B9,a12,TF]++ax n++[TG,aN here])
theorem adr{n:af}{here:List ByteArray}(hn:eV (ax n)<=mg)(hh:here.length<=2147483646)(v:Bool)(a0 a1 a3 a4 a5 B9 a12 TF TG:D) :
  bR (lB G AT) (kh n here (eU rs) (aN gs) a0 a1 a3 a4 a5 B9 a12 TF TG n.keys.length 0 v)=some (kf n here (eU rs) (aN gs) a0 a1 a3 a4 a5 B9 a12 TF TG n.keys.length (v && n.keys.all λk=>pJ rs gs (here++[k]) 1)):=by
 have Hy:=LW hn;have h:=ej (b:=lB G AT) n.keys (kh n here (eU rs) (aN gs) a0 a1 a3 a4 a5 B9 a12 TF TG n.keys.length) (λi=>v && (n.keys.take i).all λk=>pJ rs gs (here++[k]) 1) (kf n here (eU rs) (aN gs) a0 a1 a3 a4 a5 B9 a12 TF TG n.keys.length (v && n.keys.all λk=>pJ rs gs (here++[k]) 1)) (by
  intro i e LJ;have hi:=aP LJ;have hw:=wj hi Hy;have f1:=q98 hh e;have f2:=acU (ns:=here++[e]) hr hg hk;rw[cn _ _ _ LJ,List.all_append,<- fq,bT,List.all_nil,fo];generalize (v && (n.keys.take i).all λk=>pJ rs gs (here++[k]) 1)=w;generalize pJ rs gs (here++[e]) 1=u at *;generalize n.keys.length=m at *;cases i<;>cases w<;>simp only[go_sem,bl,AT,kh,ae n,hi,hw,aH,LJ,fm,f1,f2,plb]
  ) (by
  rw[aU];generalize (v && n.keys.all λk=>pJ rs gs (here++[k]) 1)=w;generalize n.keys.length=m;cases m<;>simp only[go_sem,bl,AT,kh,kf,ae n,aq]) n.keys.length 0 (by omega)
 rwa [ba,List.all_nil,fo]at h
end
end
section
noncomputable def pQ(rs:List kX)(gs:List ByteArray)(s:List af)(l:List aR):List aR×Bool:=if NO s l=true then (lM rs gs (ah l+1) s l [],true) else ([],false)
section
variable {rs:List kX} {gs:List ByteArray} (hr:rs.length<=mg) (hg:gs.length<=mg) (hk:∀r∈rs,r.names.length<=mg)
include hr hg hk
theorem ZH(M:Nat):∀(s:List af) (l:List aR) (ns:List ByteArray),ah l < M->cD ax s<=mg->cD bI l<=mg->ns.length+cD bI l<=2 * mg->Rt ll Fw (dk s) l->
  G 342 [eU rs,aN gs,aB s,bz l,aN ns]=some (0,[bz (lM rs gs M s l ns)]):=by
 induction M with
 |zero=>intro s l ns h;omega
 |succ M ih=>
  intro s l ns hz hs ha hns hR;have hal:l.length<=mg:=by simp only[cD]at ha;omega
  have hdk:=qI (es:=s);have hl:=ej (b:=lB G Ff) l (λi t=>(0,[aB s,aN ns,bz l,.int .i64 l.length,.int .i64 (i:Int),eU rs,aN gs,bz t])) (λi=>(l.take i).flatMap (qQ rs gs (λn x=>lM rs gs M n.kids x.kids (ns++[x.name])) s ns)) (0,[aB s,aN ns,bz l,.int .i64 l.length,.int .i64 l.length,.bool false,eU rs,aN gs,bz (l.flatMap (qQ rs gs (λn x=>lM rs gs M n.kids x.kids (ns++[x.name])) s ns))]) (by
   intro i x hn;have hi:=aP hn;have hw:=wj hi hal;have e1:=P3 hn;obtain⟨k,n,h1,h2,_,h4⟩:=Pf hR (aT hn);have f1:=adA (l:=s) (nm:=x.name) hs;rw[h1]at f1;simp only[h2,aN,aQ,dB,fm]at f1;have JS:eV (ax n)<=mg:=by have:=eo ax (aT h2);omega
   have hnk:cD ax n.kids<=mg:=aA (hY n) JS;obtain⟨x1,x2⟩:=Ro ha (aT hn);have x3:=eo bI (aT hn);have x4:=sk x;have NC:(ns++[x.name]).length<=2147483646:=by simp only[mg,aL,az,aK]at *;omega
   have f2:=q98 (l:=ns) (by simp only[mg]at *;omega) x.name;have f4:=acU (ns:=ns++[x.name]) hr hg hk;have ht:=aA (wz (g:=qQ rs gs (λn x=>lM rs gs M n.kids x.kids (ns++[x.name])) s ns) (λx=>DR) (l.take i)) (aA (List.length_take_le' _ _) hal);rw[C0 hn];generalize (l.take i).flatMap _=t at *;have hno:Bc s x.name=some n:=by simp only[Bc,h1,h2]
   unfold qQ Iy;simp only[hno];have f5:=adr hr hg hk JS NC (pJ rs gs (ns++[x.name]) 1) (aB s) (aN ns) (bz l) (.int .i64 l.length) (.int .i64 (i:Int)) (.str x.name) (.str x.value) (bz x.kids) (bz t);have f3:=ih n.kids x.kids (ns++[x.name]) (by have:=aW (aT hn);have:=aR.fv x;omega) hnk x2 (by simp only[aL,az,aK];omega) h4;generalize lM rs gs M n.kids x.kids (ns++[x.name])=ks at f3;have g3:=ab7 x.name x.value ks;have g4:=Wb ht x.name x.value ks;have g5:=acQ x.name x.value;have g6:=J5 x.name;rw[Bool.and_comm];generalize pJ rs gs (ns++[x.name]) 1=u at *;generalize (u && n.keys.all λk=>pJ rs gs (ns++[x.name]++[k]) 1)=v at *;generalize ns++[x.name]=here at *;simp only[ae,ai,ao]at f1;cases hm:n.keys.length<;>rw[hm]at f5<;>simp only[kh,kf,ae,ai,ao,n0]at f5<;>cases v
   any_goals simp only[go_sem,bl,Ff,hi,hw,e1,bu,f1,g6,f2,f4,plb,W1,hm,n0,f5,aG]
   all_goals
    by_cases c1:n.kind=1
    ·rw[c1]at f5;have g7:=W1 1 n true;cases LL:n.cP<;>rw[LL]at f5 g7
     ·cases ks with
      |nil=>
       have tZ:oZ n x []=[]:=by simp[oZ,c1,LL]
       simp only[go_sem,hw,n0,c1,f3,tZ,aG]
      |cons z ks=>
       have tZ:oZ n x (z::ks)=[⟨x.name,x.value,z::ks⟩]:=by simp[oZ,c1,LL]
       simp only[go_sem,hw,bu,c1,f3,g3,g4,g5,tZ,Nk]
     ·have tZ:oZ n x ks=[⟨x.name,x.value,ks⟩]:=by simp[oZ,c1,LL]
      simp only[go_sem,hw,c1,f3,g3,g4,g5,tZ]
    ·have tZ:oZ n x ks=[⟨x.name,x.value,ks⟩]:=by simp[oZ,c1]
     simp only[go_sem,hw,c1,f3,g3,g4,g5,tZ]
   ) (by simp only[go_sem,bl,Ff,aq,aU]) l.length 0 (by omega)
  rw[n0,ba,List.flatMap_nil]at hl;refine bY afo rfl ?_;simp only[go_sem,af4,U_,hl,lM]
variable {s:List af} (hs:cD ax s<=mg)
variable {l:List aR} (ha:cD bI l<=mg)
include hs ha
theorem aio:G 341 [aB s,bz l,eU rs,aN gs]=some (0,[bz (pQ rs gs s l).1,.bool (pQ rs gs s l).2]):=by
 have f1:=ac_ hs ha;refine bY afn rfl ?_;unfold pQ;cases h1:NO s l<;>rw[h1]at f1
 ·simp only[go_sem,Z2,f1,U_]
 ·have f3:G 340 [eU rs,aN gs,aB s,bz l,.list 1 true []]=some (0,[bz (lM rs gs (ah l+1) s l []),eU rs,aN gs]):=ZG hr hg hk (ah l+1) s l [] (aO _) hs ha (by simp only[aK];omega) (LU h1);simp only[go_sem,Z2,f1,f3]
theorem aip:G 343 [aB s,bz l,eU rs,aN gs]=some (0,[bz (pQ rs gs s l).1,.bool (pQ rs gs s l).2]):=by
 have f1:=adq hs ha;refine bY afp rfl ?_;unfold pQ;cases h1:NO s l<;>rw[h1]at f1
 ·simp only[go_sem,Z3,f1,U_]
 ·have f3:G 342 [eU rs,aN gs,aB s,bz l,.list 1 true []]=some (0,[bz (lM rs gs (ah l+1) s l [])]):=ZH hr hg hk (ah l+1) s l [] (aO _) hs ha (by simp only[aK];omega) (LU h1);simp only[go_sem,Z3,f1,f3]
end
end
theorem PK{B:Nat}{es:List (List D)}(ok:dL B 1 es):∃xs:List kX,es=xs.map qK:=ni λe he=>by
 obtain⟨x0,x1,x2,x3,h,_,⟨_,c⟩,_⟩:=mq (ok.mem e he);obtain⟨ns,rfl⟩:=uW c;exact⟨⟨x0,ns,x2,x3⟩,h⟩
theorem OC{l:List kX}{r:kX}(h:cD qK l<=mg)(hr:r∈l):r.names.length<=mg:=by
 have h1:=eo qK hr;simp only[qK,eV,D.sz,au]at h1;omega
section
open Go.RowKit
def Yz:KF:=⟨4,.seq (.cp [i_ 8 (.mv (.k (.d (.bool false))))] ⟨[0,1,2,3],[],[]⟩) (.seq (.cp [i_ 9 (.mv (Z_ 1048576))] ⟨[0,1,2,3,9],[],[]⟩) (.seq (.cp [i_ 23 (.mv (S_ 0)),i_ 24 (.mv (S_ 9)),i_ 25 (.call 56 [S_ 23,S_ 24]),i_ 9 (.mv (S_ 25))] ⟨[0,1,2,3,9],[],[]⟩) (.seq (.seq (.cp [i_ 26 (.mv (S_ 9)),i_ 27 (.bin .lss (S_ 26) (Z_ 0))] ⟨[0,1,2,3,9,27],[],[]⟩) (.cond (S_ 27) (.seq (.cp [i_ 8 (.mv (.k (.d (.bool true))))] ⟨[8],[],[]⟩) (.ret)) (.skip))) (.seq (.cp [i_ 28 (.mv (S_ 1)),i_ 29 (.mv (S_ 9)),i_ 30 (.call 4 [S_ 28,S_ 29]),i_ 9 (.mv (S_ 30))] ⟨[0,1,2,3,9],[],[]⟩) (.seq (.seq (.cp [i_ 31 (.mv (S_ 9)),i_ 32 (.bin .lss (S_ 31) (Z_ 0))] ⟨[0,1,2,3,9,32],[],[]⟩) (.cond (S_ 32) (.seq (.cp [i_ 8 (.mv (.k (.d (.bool true))))] ⟨[8],[],[]⟩) (.ret)) (.skip))) (.seq (.cp [i_ 33 (.mv (S_ 2)),i_ 34 (.mv (S_ 9)),i_ 35 (.call 58 [S_ 33,S_ 34]),i_ 9 (.mv (S_ 35))] ⟨[0,1,2,3,9],[],[]⟩) (.seq (.seq (.cp [i_ 36 (.mv (S_ 9)),i_ 37 (.bin .lss (S_ 36) (Z_ 0))] ⟨[0,1,2,3,9,37],[],[]⟩) (.cond (S_ 37) (.seq (.cp [i_ 8 (.mv (.k (.d (.bool true))))] ⟨[8],[],[]⟩) (.ret)) (.skip))) (.seq (.cp [i_ 38 (.mv (S_ 3)),i_ 39 (.mv (S_ 9)),i_ 40 (.call 46 [S_ 38,S_ 39]),i_ 9 (.mv (S_ 40))] ⟨[0,1,2,3,9],[],[]⟩) (.seq (.seq (.cp [i_ 41 (.mv (S_ 9)),i_ 42 (.bin .lss (S_ 41) (Z_ 0))] ⟨[0,1,2,3,42],[],[]⟩) (.cond (S_ 42) (.seq (.cp [i_ 8 (.mv (.k (.d (.bool true))))] ⟨[8],[],[]⟩) (.ret)) (.skip))) (.seq (.cp [i_ 44 (.mv (S_ 0)),i_ 45 (.call 71 [S_ 44]),i_ 46 (.mv (S_ 1)),i_ 47 (.call 6 [S_ 46]),i_ 48 (.mv (S_ 2)),i_ 49 (.call 73 [S_ 48]),i_ 50 (.mv (S_ 3)),i_ 51 (.call 61 [S_ 50]),i_ 52 (.call 341 [S_ 45,S_ 47,S_ 49,S_ 51]),i_ 43 (.mv (S_ 52)),i_ 53 (.ext (S_ 43) 0),i_ 54 (.ext (S_ 43) 1),i_ 10 (.mv (S_ 53)),i_ 11 (.mv (S_ 54))] ⟨[0,1,2,3,10,11],[],[53000]⟩) (.seq (.cp [i_ 55 (.mv (S_ 0)),i_ 56 (.call 71 [S_ 55]),i_ 12 (.mv (S_ 56))] ⟨[0,1,2,3,10,11,12],[],[53000,57000]⟩) (.seq (.cp [i_ 57 (.mv (S_ 1)),i_ 58 (.call 6 [S_ 57]),i_ 13 (.mv (S_ 58))] ⟨[0,1,2,3,10,11,12,13],[],[53000,57000,59000]⟩) (.seq (.cp [i_ 59 (.mv (S_ 2)),i_ 60 (.call 73 [S_ 59]),i_ 14 (.mv (S_ 60))] ⟨[0,1,2,3,10,11,12,13,14],[],[53000,57000,59000,61000]⟩) (.seq (.cp [i_ 61 (.mv (S_ 3)),i_ 62 (.call 61 [S_ 61]),i_ 15 (.mv (S_ 62))] ⟨[0,1,2,3,10,11,12,13,14,15],[],[53000,57000,59000,61000,63000]⟩) (.seq (.cp [i_ 64 (.mv (S_ 12)),i_ 65 (.mv (S_ 13)),i_ 66 (.mv (S_ 14)),i_ 67 (.mv (S_ 15)),i_ 68 (.call 343 [S_ 64,S_ 65,S_ 66,S_ 67]),i_ 63 (.mv (S_ 68)),i_ 69 (.ext (S_ 63) 0),i_ 70 (.ext (S_ 63) 1),i_ 16 (.mv (S_ 69)),i_ 17 (.mv (S_ 70))] ⟨[0,1,2,3,10,11,12,13,14,15,16,17],[],[53000,57000,59000,61000,63000,69000]⟩) (.seq (.seq (.cp [i_ 71 (.mv (S_ 16)),i_ 72 (.mv (S_ 10)),i_ 73 (.call 10 [S_ 71,S_ 72]),i_ 74 (.not (S_ 73)),i_ 75 (.mv (S_ 74)),g_ 76 75 false (.mv (S_ 17)),g_ 77 75 false (.mv (S_ 11)),g_ 78 75 false (.uG .neq (S_ 76) (S_ 77)),i_ 79 (.pick (S_ 75) (.k (.d (.bool true))) (S_ 78))] ⟨[0,1,2,3,10,11,12,13,14,15,16,17,79],[],[53000,57000,59000,61000,63000,69000]⟩) (.cond (S_ 79) (.seq (.cp [i_ 8 (.mv (.k (.d (.bool false))))] ⟨[8],[],[]⟩) (.ret)) (.skip))) (.seq (.seq (.cp [i_ 80 (.mv (S_ 12)),i_ 81 (.mv (S_ 0)),i_ 82 (.call 71 [S_ 81]),i_ 83 (.call 120 [S_ 80,S_ 82]),i_ 84 (.not (S_ 83))] ⟨[0,1,2,3,10,11,12,13,14,15,16,17,84],[],[53000,57000,59000,61000,63000,69000]⟩) (.cond (S_ 84) (.seq (.cp [i_ 8 (.mv (.k (.d (.bool false))))] ⟨[8],[],[]⟩) (.ret)) (.skip))) (.seq (.seq (.cp [i_ 85 (.mv (S_ 13)),i_ 86 (.mv (S_ 1)),i_ 87 (.call 6 [S_ 86]),i_ 88 (.call 10 [S_ 85,S_ 87]),i_ 89 (.not (S_ 88))] ⟨[0,1,2,3,10,11,12,13,14,15,16,17,89],[],[53000,57000,59000,61000,63000,69000]⟩) (.cond (S_ 89) (.seq (.cp [i_ 8 (.mv (.k (.d (.bool false))))] ⟨[8],[],[]⟩) (.ret)) (.skip))) (.seq (.seq (.cp [i_ 90 (.mv (S_ 14)),i_ 91 (.mv (S_ 2)),i_ 92 (.call 73 [S_ 91]),i_ 93 (.call 122 [S_ 90,S_ 92]),i_ 94 (.not (S_ 93))] ⟨[0,1,2,3,10,11,12,13,14,15,16,17,94],[],[53000,57000,59000,61000,63000,69000]⟩) (.cond (S_ 94) (.seq (.cp [i_ 8 (.mv (.k (.d (.bool false))))] ⟨[8],[],[]⟩) (.ret)) (.skip))) (.seq (.seq (.cp [i_ 95 (.mv (S_ 15)),i_ 96 (.mv (S_ 3)),i_ 97 (.call 61 [S_ 96]),i_ 98 (.call 110 [S_ 95,S_ 97]),i_ 99 (.not (S_ 98))] ⟨[0,1,2,3,10,11,12,13,14,15,16,17,99],[],[53000,57000,59000,61000,63000,69000]⟩) (.cond (S_ 99) (.seq (.cp [i_ 8 (.mv (.k (.d (.bool false))))] ⟨[8],[],[]⟩) (.ret)) (.skip))) (.seq (.cp [i_ 18 (.mv (Z_ 1))] ⟨[0,1,2,3,10,11,12,13,14,15,16,17,18],[],[53000,57000,59000,61000,63000,69000]⟩) (.seq (.cp [i_ 100 (.mv (S_ 12)),i_ 101 (.mv (S_ 18)),i_ 102 (.J7 153 (S_ 100) (S_ 101)),i_ 18 (.mv (S_ 102))] ⟨[0,1,2,3,10,11,13,14,15,16,17,18],[],[53000,59000,61000,63000,69000]⟩) (.seq (.cp [i_ 103 (.mv (S_ 13)),i_ 104 (.mv (S_ 18)),i_ 105 (.J7 17 (S_ 103) (S_ 104)),i_ 18 (.mv (S_ 105))] ⟨[0,1,2,3,10,11,14,15,16,17,18],[],[53000,61000,63000,69000]⟩) (.seq (.cp [i_ 106 (.mv (S_ 14)),i_ 107 (.mv (S_ 18)),i_ 108 (.J7 344 (S_ 106) (S_ 107)),i_ 18 (.mv (S_ 108))] ⟨[0,1,2,3,10,11,15,16,17,18],[],[53000,63000,69000]⟩) (.seq (.cp [i_ 109 (.mv (S_ 15)),i_ 110 (.mv (S_ 18)),i_ 111 (.J7 149 (S_ 109) (S_ 110)),i_ 18 (.mv (S_ 111))] ⟨[0,1,2,3,10,11,16,17,18],[],[53000,69000]⟩) (.seq (.seq (.cp [i_ 112 (.mv (S_ 18)),i_ 113 (.bin .lss (S_ 112) (Z_ 0)),i_ 114 (.mv (S_ 113)),g_ 115 114 false (.mv (S_ 16)),g_ 116 114 false (.mv (S_ 10)),g_ 117 114 false (.call 10 [S_ 115,S_ 116]),g_ 118 114 false (.not (S_ 117)),i_ 119 (.pick (S_ 114) (.k (.d (.bool true))) (S_ 118)),i_ 120 (.mv (S_ 119)),g_ 121 120 false (.mv (S_ 17)),g_ 122 120 false (.mv (S_ 11)),g_ 123 120 false (.uG .neq (S_ 121) (S_ 122)),i_ 124 (.pick (S_ 120) (.k (.d (.bool true))) (S_ 123))] ⟨[0,1,2,3,10,11,16,124],[],[53000,69000]⟩) (.cond (S_ 124) (.seq (.cp [i_ 8 (.mv (.k (.d (.bool false))))] ⟨[8],[],[]⟩) (.ret)) (.skip))) (.seq (.cp [i_ 19 (.mv (Z_ 1))] ⟨[0,1,2,3,10,11,16,19],[],[53000,69000]⟩) (.seq (.cp [i_ 125 (.mv (S_ 16)),i_ 126 (.mv (S_ 19)),i_ 127 (.J7 17 (S_ 125) (S_ 126)),i_ 19 (.mv (S_ 127))] ⟨[0,1,2,3,10,11,16,19],[],[53000,69000]⟩) (.seq (.cp [i_ 20 (.mv (Z_ 1))] ⟨[0,1,2,3,10,11,16,19,20],[],[53000,69000]⟩) (.seq (.cp [i_ 128 (.mv (S_ 16)),i_ 129 (.mv (S_ 20)),i_ 130 (.call 21 [S_ 128,S_ 129]),i_ 20 (.mv (S_ 130))] ⟨[0,1,2,3,10,11,16,19,20],[],[53000,69000]⟩) (.seq (.seq (.cp [i_ 131 (.mv (S_ 20)),i_ 132 (.bin .lss (S_ 131) (Z_ 0))] ⟨[0,1,2,3,10,11,16,19,20,132],[],[53000,69000]⟩) (.cond (S_ 132) (.seq (.cp [i_ 8 (.mv (.k (.d (.bool false))))] ⟨[8],[],[]⟩) (.ret)) (.skip))) (.seq (.seq (.cp [i_ 133 (.mv (S_ 20)),i_ 134 (.mv (S_ 19)),i_ 135 (.bin .neq (S_ 133) (S_ 134))] ⟨[0,1,2,3,10,11,16,19,135],[],[53000,69000]⟩) (.cond (S_ 135) (.seq (.cp [i_ 8 (.mv (.k (.d (.bool false))))] ⟨[8],[],[]⟩) (.ret)) (.skip))) (.seq (.cp [i_ 137 (.mv (S_ 0)),i_ 138 (.call 71 [S_ 137]),i_ 139 (.mv (S_ 1)),i_ 140 (.call 6 [S_ 139]),i_ 141 (.mv (S_ 2)),i_ 142 (.call 73 [S_ 141]),i_ 143 (.mv (S_ 3)),i_ 144 (.call 61 [S_ 143]),i_ 145 (.call 343 [S_ 138,S_ 140,S_ 142,S_ 144]),i_ 136 (.mv (S_ 145)),i_ 146 (.ext (S_ 136) 0),i_ 147 (.ext (S_ 136) 1),i_ 21 (.mv (S_ 146)),i_ 22 (.mv (S_ 147))] ⟨[10,11,16,19,21,22],[],[53000,69000,146000]⟩) (.seq (.seq (.cp [i_ 148 (.mv (S_ 21)),i_ 149 (.mv (S_ 10)),i_ 150 (.call 10 [S_ 148,S_ 149]),i_ 151 (.not (S_ 150)),i_ 152 (.mv (S_ 151)),g_ 153 152 false (.mv (S_ 22)),g_ 154 152 false (.mv (S_ 11)),g_ 155 152 false (.uG .neq (S_ 153) (S_ 154)),i_ 156 (.pick (S_ 152) (.k (.d (.bool true))) (S_ 155))] ⟨[16,19,156],[],[53000,69000,146000]⟩) (.cond (S_ 156) (.seq (.cp [i_ 8 (.mv (.k (.d (.bool false))))] ⟨[8],[],[]⟩) (.ret)) (.skip))) (.seq (.cp [i_ 20 (.mv (Z_ 1))] ⟨[16,19,20],[],[69000]⟩) (.seq (.cp [i_ 157 (.mv (S_ 16)),i_ 158 (.mv (S_ 20)),i_ 159 (.call 21 [S_ 157,S_ 158]),i_ 20 (.mv (S_ 159))] ⟨[19,20],[],[]⟩) (.seq (.seq (.cp [i_ 160 (.mv (S_ 20)),i_ 161 (.bin .lss (S_ 160) (Z_ 0))] ⟨[19,20,161],[],[]⟩) (.cond (S_ 161) (.seq (.cp [i_ 8 (.mv (.k (.d (.bool false))))] ⟨[8],[],[]⟩) (.ret)) (.skip))) (.seq (.seq (.cp [i_ 162 (.mv (S_ 20)),i_ 163 (.mv (S_ 19)),i_ 164 (.bin .neq (S_ 162) (S_ 163))] ⟨[164],[],[]⟩) (.cond (S_ 164) (.seq (.cp [i_ 8 (.mv (.k (.d (.bool false))))] ⟨[8],[],[]⟩) (.ret)) (.skip))) (.seq (.cp [i_ 8 (.mv (.k (.d (.bool true))))] ⟨[8],[],[]⟩) (.ret)))))))))))))))))))))))))))))))))))))))),[.t 8]⟩
theorem acx:okF Tryz.prog num 345 Yz=true:=by kernel_rfl
end
end Go.Proofs.YtcdjbelccndadaaGreatDoor
