/- Part of the proof. Condition: none. -/
import Derived.Test.YtcdjbelccndadaaGreatDoorZz08
set_option linter.unusedVariables false
set_option linter.unusedSimpArgs false
open Bool renaming and_eq_true->ab,false_eq_true->au,and_self_left->br,true_and->bU,false_ne_true->cj,not_eq_true'->ck,eq_false_iff->cT,eq_iff_iff->cU,false_and->df,not_not->fm,false_or->fQ,or_assoc->fR,and_assoc->fW,not_false->fX,and_self->iL,or_false->iM,and_false->iU,or_true->jo,not_true->jB,true_or->l6
open Int renaming toNat_natCast->cB,natCast_nonneg->du,lt_irrefl->ey,zero_add->oN
open List renaming cons_append->ai,nil_append->ak,length_map->av,replicate->aC,append_nil->aD,length_cons->aE,mem_append->aL,map_cons->aN,length_append->aO,length_nil->aQ,all_eq_true->aS,sizeOf_lt_of_mem->aU,take_length->aW,drop_zero->aX,length_take->aY,take_zero->bg,append_assoc->bh,range->bE,mem_cons_of_mem->cp,mem_singleton->ct,drop_length->cC,length_eq_one_iff->cJ,map_append->dc,map_id'->dC,map_nil->dD,mem_cons_self->dQ,drop_of_length_le->ez,replicate_succ->fp,isEmpty_nil->gM,isEmpty_cons->iy,getElem?_eq_getElem->iN,any_eq_true->ku,any_cons->kT,map_const'->n4,flatMap_cons->pW,getElem_append_left->qI,foldl_cons->tm,length_filter_le->tz,foldl_nil->uG
open Nat renaming le_refl->aj,lt_irrefl->aq,reduceEqDiff->ax,le_trans->az,lt_succ_self->aM,reduceLeDiff->aZ,reduceBNe->ba,zero_add->bo,reduceAdd->bI,mul_one->nF,reduceLT->oO
open Option renaming map_eq_some_iff->ad,map_some->aB,isSome_none->ej,isSome_some->gR,getD_some->mK
open Option.some renaming injEq->aa,inj->eJ
open SizeOf renaming sizeOf->ah
open UInt8 renaming ofNat->cL
namespace Go.Proofs.YtcdjbelccndadaaGreatDoor
set_option maxRecDepth 100000
set_option maxHeartbeats 4000000
section
attribute [go_sem] Cz Ps Qt Io TR rsl
section
variable (T:Nat->Option KF)(cf:Cf)(mf:Mf)(a b:K)(s:St)(d:Option Nat)(o:KO)(x y:Option (Ex×St))
@[go_sem] theorem y1:cnd T mf (.d (.bool true)) a b s=ev T mf a s:=rfl
@[go_sem] theorem y2:cnd T mf (.d (.bool false)) a b s=ev T mf b s:=rfl
@[go_sem] theorem y3:Ws (.d (.bool true)) x y=x:=rfl
@[go_sem] theorem y4:Ws (.d (.bool false)) x y=y:=rfl
@[go_sem] theorem y5:V6 cf mf s d o true (.d (.bool true))=yu cf mf s d o:=rfl
@[go_sem] theorem y6:V6 cf mf s d o false (.d (.bool false))=yu cf mf s d o:=rfl
@[go_sem] theorem y7:V6 cf mf s d o true (.d (.bool false))=some (s.put d .rf):=rfl
@[go_sem] theorem y8:V6 cf mf s d o false (.d (.bool true))=some (s.put d .rf):=rfl
@[go_sem] theorem y9(w:Bool):V6 cf mf s d o w .rf=some (s.put d .rf):=rfl
end
theorem og(a:Int)(t:ByteArray)(l:List cx):aK (.eg 3 false) [.int .i64 a,.str t,bJ l]=some (.list 3 false [[.int .i64 a,.str t,bJ l]]):=kI 3 _ rfl (by decide)
theorem Og(a b:Int)(t u:ByteArray)(l m:D):aK (.eg 3 false) [.int .i64 a,.str t,l,.int .i64 b,.str u,m]=some (.list 3 false [[.int .i64 a,.str t,l],[.int .i64 b,.str u,m]]):=by
 simp[aK,chunk]
theorem D6{l:List cx}(h:l.length<=mg)(op:Int)(t:ByteArray)(ks:List cx):aK (.app 3 48) [bJ l,.list 3 false [[.int .i64 op,.str t,bJ ks]]]=some (bJ (l++[⟨op,t,ks⟩])):=by
 have h:=fI 3 48 false (l.map gB) [[.int .i64 op,.str t,bJ ks]] (by decide) (by simp only[mg,av,aE,aQ]at *;omega);rw[h];simp[bJ,aF]
theorem P1(a:Int)(t:ByteArray)(ks:List cx):D.list 3 false [[.int .i64 a,.str t,bJ ks]]=bJ [⟨a,t,ks⟩]:=by simp[bJ,aF]
theorem P2(a b:Int)(t u:ByteArray)(ks ms:List cx):D.list 3 false [[.int .i64 a,.str t,bJ ks],[.int .i64 b,.str u,bJ ms]]=bJ [⟨a,t,ks⟩,⟨b,u,ms⟩]:=by simp[bJ,aF]
theorem Pd{l:List cx}(h:l.length<=mg)(x:cx):aK (.app 3 48) [bJ l,bJ [x]]=some (bJ (l++[x])):=by
 have:=D6 h x.op x.text x.kids;rw[P1]at this;cases x;exact this
theorem aat(op:Int)(t:ByteArray)(ks:List cx):aK (.app 3 48) [.list 3 false [],.list 3 false [[.int .i64 op,.str t,bJ ks]]]=some (bJ [⟨op,t,ks⟩]):=D6 (l:=[]) (by decide) op t ks
theorem bO(p:cx):(⟨p.op,p.text,p.kids⟩:cx)=p:=by cases p;rfl
theorem Y3(n:Nat):∀p:cx,ah p < n->uw 64 p=true->G 224 (gB p)=some (0,gB p):=by
 induction n with
 |zero=>intro p h;omega
 |succ n ih=>
  intro p hz hp;have hlen:=zm hp;have hk:∀k∈p.kids,G 224 (gB k)=some (0,gB k):=λk hk=>ih k (by have:=cx.J7 hk;omega) (zk hp hk);refine cq adZ (by rw[aF];rfl) ?_;have hl:=sP (b:=lB G wT) p.kids (λe=>e) (λi=>(0,[.int .i64 (i:Int),.int .i64 p.op,.str p.text,bJ p.kids,.int .i64 0,.str ⟨#[]⟩,.int .i64 p.op,.str p.text]))
   (λi a=>(1,[.int .i64 (i:Int),.int .i64 p.op,.str p.text,bJ p.kids,.int .i64 0,.str ⟨#[]⟩,.int .i64 p.op,.str p.text,bJ a]))
   (0,[.int .i64 0,.bool false,.int .i64 p.op,.str p.text,bJ p.kids,.int .i64 0,.str ⟨#[]⟩,.int .i64 p.op,.str p.text])
   (λa=>(1,[.int .i64 p.kids.length,.bool false,.int .i64 p.op,.str p.text,bJ p.kids,.int .i64 0,.str ⟨#[]⟩,.int .i64 p.op,.str p.text,bJ a])) (by
    intro k hn;have hi:=aR hn;have hw:=wj (i:=0) (n:=p.kids.length) hi (by simp only[mg];omega);have e1:=hk k (aT hn);have e2:=Hg hn;rw[n0]at e2;have hw1:IntKind.i64.wrap 1=1:=wrap_i64 (by decide);rw[aF]at e1;have oX:(0:Int) < p.kids.length:=by omega
    simp only[go_sem,bm,wT,n0,oX,e2,oH];simp only[go_sem,aF k,e1,GA,og,aat,bO,hw1]) (by
    intro i k hn Gx;have hi:=aR hn;have hw:=wj (i:=i) (n:=p.kids.length) hi (by simp only[mg];omega);have e1:=hk k (aT hn);have e2:=Hg hn;have e3:=λ(op:Int) (t:ByteArray) (ks:List cx)=>D6 (l:=p.kids.take i) (by rw[aY];simp only[mg];omega) op t ks;rw[aF]at e1;simp only[go_sem,bm,wT,dC,hi,e2,oH];simp only[go_sem,aF k,e1,GA,og,e3,bO,hw]) (by
    intro h;simp only[go_sem,bm,wT,h,n0,aQ,ey]) (by
    intro h;simp only[go_sem,bm,wT,aq,dC])
  rw[n0]at hl;simp only[go_sem,t224,aF p,hl];cases Ct:p.kids with
  |nil=>simp only[go_sem,gM];rfl
  |cons s l=>simp only[go_sem,iy,dC]
theorem aht{p:cx}(hp:uw 64 p=true):G 224 (gB p)=some (0,gB p):=Y3 _ p (aM _) hp
section
variable {s:ByteArray} {alt:Nat->PR}
theorem NU(tn:s.size<=30){i:Nat}{l:List cx}(hl:l.length<=100)(hM:su s i=true)(agk:zA 222 s i 1 3 false (tH alt s i)) :
  ∃(p:cx) (k:Nat) (b:Bool),lB G gV (0,[.int .i64 0,.str ⟨#[]⟩,.str s,.int .i64 (i:Int),.bool false,bJ l])=some (.go (0,[.int .i64 0,.str ⟨#[]⟩,.str s,.int .i64 (k:Int),.bool b,bJ (l++[p])]))/\PA s i 1 (pP alt s i) p k b:=by
 have hs:s.size<=mg:=by simp only[mg];omega
 have yV:l.length<=mg:=by simp only[mg];omega
 simp only[su,ab,decide_eq_true_eq,ck,decide_eq_false_iff_not]at hM;obtain⟨hi,m1,m2⟩:=hM;have f4:=eo s i hi;have fa:=λop t ks=>D6 yV op t ks;have fb:=λx=>Pd yV x;obtain⟨j,p,k,b,hj,hg,p1,p2,p3,p4⟩:=agk;simp only[aF,ai,ak]at hg;cases b with
 |true=>
  have f2:=λc=>FM (s:=s) (i:=(k:Int)) (c:=c);have hr:pP alt s i=none:=by
   unfold pP;cases hr:tH alt s i with
   |none=>rfl
   |some q=>rw[hr]at p4;cases p4.1
  rw[hr];refine⟨p,k,true,?_,p1,p2,p3,rfl⟩
  match j,hj with
  |0,_=>simp only[go_sem,hi,m1,m2,f4,hg,GA,og,fa,bO,bm,gV,f2]
  |1,_=>simp only[go_sem,hi,m1,m2,f4,hg,q9,og,fa,bO,bm,gV,f2]
  |2,_=>simp only[go_sem,hi,m1,m2,f4,hg,og,fa,bO,bm,gV,f2]
 |false=>
  cases hr:tH alt s i with
  |none=>rw[hr]at p4;cases p4
  |some q=>
   rw[hr]at p4;obtain⟨_,rfl,p5⟩:=p4;have Nx:pP alt s i=some (BA s p k):=by rw[pP,hr];rfl
   have g1:=MD (n:=64) (by decide) (s:=s) k p1;have g2:=MB s p k;have q4:=aht p1;rw[aF]at q4;have h3:gB ⟨4,eT,[p]⟩=[.int .i64 4,.str ⟨#[]⟩,bJ [p]]:=aF _;rw[Nx];unfold BA at g1 g2 ⊢;cases c1:fU s k 42 with
   |true=>
    have f2:=pa hs c1;have hk:=ll c1;rw[c1]at g1 g2;refine⟨⟨4,eT,[p]⟩,k+1,false,?_,g1,by omega,by omega,rfl,rfl,by omega⟩
    match j,hj with
    |0,_=>simp only[go_sem,hi,m1,m2,f4,hg,GA,og,fb,bO,eT,bm,gV,f2,P1]
    |1,_=>simp only[go_sem,hi,m1,m2,f4,hg,q9,og,fb,bO,eT,bm,gV,f2,P1]
    |2,_=>simp only[go_sem,hi,m1,m2,f4,hg,og,fb,bO,eT,bm,gV,f2,P1]
   |false=>
    have f2:=o9 c1;rw[c1]at g1 g2;cases c2:fU s k 43 with
    |true=>
     have f3:=pa hs c2;have hk:=ll c2;rw[c2]at g1 g2;refine⟨⟨2,eT,[p,⟨4,eT,[p]⟩]⟩,k+1,false,?_,g1,by omega,by omega,rfl,rfl,by omega⟩
     match j,hj with
     |0,_=>simp only[go_sem,hi,m1,m2,f4,hg,GA,og,fb,bO,eT,bm,gV,f2,f3,q4,P1,Og,P2]
     |1,_=>simp only[go_sem,hi,m1,m2,f4,hg,GA,q9,og,fb,bO,eT,bm,gV,f2,f3,q4,P1,Og,P2]
     |2,_=>simp only[go_sem,hi,m1,m2,f4,hg,GA,og,fb,bO,eT,bm,gV,f2,f3,q4,P1,Og,P2]
    |false=>
     have f3:=o9 c2;rw[c2]at g1 g2;cases c3:fU s k 63 with
     |true=>
      have f5:=pa hs c3;have hk:=ll c3;rw[c3]at g1 g2;refine⟨⟨5,eT,[p]⟩,k+1,false,?_,g1,by omega,by omega,rfl,rfl,by omega⟩
      match j,hj with
      |0,_=>simp only[go_sem,hi,m1,m2,f4,hg,GA,og,fb,bO,eT,bm,gV,f2,f3,f5,P1]
      |1,_=>simp only[go_sem,hi,m1,m2,f4,hg,q9,og,fb,bO,eT,bm,gV,f2,f3,f5,P1]
      |2,_=>simp only[go_sem,hi,m1,m2,f4,hg,og,fb,bO,eT,bm,gV,f2,f3,f5,P1]
     |false=>
      have f5:=o9 c3;refine⟨p,k,false,?_,p1,p2,p3,rfl,rfl,p5⟩
      match j,hj with
      |0,_=>simp only[go_sem,hi,m1,m2,f4,hg,GA,og,fa,bO,bm,gV,f2,f3,f5]
      |1,_=>simp only[go_sem,hi,m1,m2,f4,hg,q9,og,fa,bO,bm,gV,f2,f3,f5]
      |2,_=>simp only[go_sem,hi,m1,m2,f4,hg,og,fa,bO,bm,gV,f2,f3,f5]
def TD(l:List cx)(n:Nat):Prop:=l.length<=n/\∀q∈l,uw 64 q=true
theorem nh{l:List cx}{n m:Nat}{p:cx}(h:TD l n)(hp:uw 64 p=true)(hm:n+1<=m):TD (l++[p]) m:=by
 refine⟨by rw[aO];have:=h.1;simp;omega,λq hq=>?_⟩;rcases aL.1 hq with hq|hq
 ·exact h.2 q hq
 ·rw[ct.1 hq];exact hp
def Z8(i:Nat)(s:ByteArray)(l:List cx)(r:Option (List cx×Nat))(l':List cx)(k:Nat)(b:Bool):Prop:=TD l' 40/\i<=k/\k<=s.size/\match r with
 |some q=>b=false/\l'=l++q.1/\k=q.2
 |none=>b=true
theorem uN{i j:Nat}{l l':List cx}{p:cx}{k:Nat}{b:Bool}{r:Option (List cx×Nat)}(hij:i<=j)(h:Z8 j s (l++[p]) r l' k b):Z8 i s l (r.map λq=>(p::q.1,q.2)) l' k b:=by
 obtain⟨h1,h2,h3,h4⟩:=h;refine⟨h1,by omega,h3,?_⟩;cases r with
 |none=>exact h4
 |some q=>
  obtain⟨h5,h6,h7⟩:=h4;exact⟨h5,by rw[h6,bh];rfl,h7⟩
theorem UE(tn:s.size<=30){i0:Nat}(hA:∀j,i0 < j->j<=s.size->zA 223 s j 0 2 false (alt j)):∀(g i:Nat) (l:List cx),i0<=i->i<=s.size->s.size+1 - i<=g->TD l i->
  ∃(l':List cx) (k:Nat) (b:Bool),bR (lB G gV) (0,[.int .i64 0,.str ⟨#[]⟩,.str s,.int .i64 (i:Int),.bool false,bJ l])=some (0,[.bool false,.int .i64 0,.str ⟨#[]⟩,.str s,.int .i64 (k:Int),.bool b,bJ l'])/\Z8 i s l (sr alt s g i) l' k b:=by
 have hs:s.size<=mg:=by simp only[mg];omega
 intro g
 induction g with
 |zero=>intro i l _ h1 h2;omega
 |succ g ih=>
  intro i l h0 h1 h2 hl;simp only[sr];cases hM:su s i with
  |false=>
   simp only[au,if_false];refine⟨l,i,false,bk ?_,⟨by have:=hl.1;omega,hl.2⟩,aj _,h1,rfl,by rw[aD],rfl⟩;by_cases hi:i < s.size
   ·have f4:=eo s i hi;simp only[su,hi,decide_true,bU]at hM;by_cases m1:da s i=124
    ·simp only[go_sem,bm,gV,hi,m1,f4]
    ·have m2:da s i=41:=by
      by_cases m2:da s i=41
      ·exact m2
      ·simp[m1,m2]at hM
     have m3:¬(41:Int)=124:=by decide
     simp only[go_sem,bm,gV,hi,m2,m3,f4]
   ·simp only[go_sem,bm,gV,hi]
  |true=>
   have hi:i < s.size:=by simp only[su,ab,decide_eq_true_eq]at hM;exact hM.1
   simp only[if_true];obtain⟨p,k,b,e1,p1,p2,p3,p4⟩:=NU tn (l:=l) (by have:=hl.1;omega) hM (ahs hs hi λj hj LP=>hA j (by omega) LP);cases hr:pP alt s i with
   |none=>
    rw[hr]at p4;subst p4;refine⟨l++[p],k,true,(cE e1).trans (bk ?_),nh (n:=30) ⟨by have:=hl.1;omega,hl.2⟩ p1 (by decide),p2,p3,rfl⟩;simp only[go_sem,bm,gV]
   |some q=>
    rw[hr]at p4;obtain⟨rfl,rfl,p5⟩:=p4;obtain⟨l',k',b',e2,e3⟩:=ih k (l++[p]) (by omega) p3 (by omega) (nh hl p1 (by omega));exact⟨l',k',b',(cE e1).trans e2,uN (by omega) e3⟩
theorem CY{k:cx}:aK (.nN 3 0 3 false) [bJ [k],.int .i64 0]=some (.list 0 false [gB k]):=by
 have h:nth ([k].map gB) 0=some (gB k):=rfl;simp only[aK,Int.toNat_zero,h,Hf];simp
theorem CQ{k:cx}:aK .lF [bJ [k],.int .i64 0]=some (.bool false):=(rfl)
theorem Du{l:List cx}:decide ((l.length:Int)=1)=decide (l.length=1):=by apply decide_eq_decide.2;omega
theorem Gk{op:Int}{l:List cx}(h:l.length≠1):pS op l=⟨op,eT,l⟩:=by
 unfold pS;split
 ·exact absurd rfl h
 ·rfl
theorem acS(tn:s.size<=30){i:Nat}(h1:i<=s.size)(hA:∀j,i < j->j<=s.size->zA 223 s j 0 2 false (alt j)):zA 225 s i 0 2 false (yF alt s i):=by
 obtain⟨l',k,b,e1,e2,e3,e4,e5⟩:=UE tn hA (s.size+1) i [] (aj _) h1 (by omega) ⟨by simp,by simp⟩;have m0:aK (.eg 3 false) []=some (bJ []):=th 3 false;have hP:PA s i 0 (yF alt s i) (pS 2 l') k b:=by
  refine⟨sE (by have:=e2.1;omega) e2.2,e3,e4,?_⟩;unfold yF;cases hr:sr alt s (s.size+1) i with
  |none=>rw[hr]at e5;exact e5
  |some q=>
   rw[hr]at e5;obtain⟨h5,h6,h7⟩:=e5;subst h6 h7;exact⟨h5,rfl,by omega⟩
 by_cases hl:l'.length=1
 ·obtain⟨p,rfl⟩:=cJ.1 hl;have hw:pS 2 [p]=p:=rfl;rw[hw]at hP;refine⟨0,p,k,b,by decide,cq Zx rfl ?_,hP⟩;simp only[go_sem,t225,m0,e1,CY,CQ,aF p]
 ·rw[Gk hl]at hP;refine⟨1,_,k,b,by decide,cq Zx rfl ?_,hP⟩;simp only[go_sem,t225,m0,e1,Du,hl,aF,eT]
theorem UD(tn:s.size<=30){i0:Nat}(hA:∀j,i0 < j->j<=s.size->zA 223 s j 0 2 false (alt j)):∀(g i:Nat) (l:List cx),i0<=i->i<=s.size->s.size+1 - i<=g->TD l (i+1)->
  ∃(l':List cx) (k:Nat) (b:Bool),bR (lB G qn) (0,[.int .i64 0,.str ⟨#[]⟩,.str s,.int .i64 (i:Int),.bool false,bJ l])=some (0,[.bool false,.int .i64 0,.str ⟨#[]⟩,.str s,.int .i64 (k:Int),.bool b,bJ l'])/\Z8 i s l (yd alt s g i) l' k b:=by
 have hs:s.size<=mg:=by simp only[mg];omega
 intro g
 induction g with
 |zero=>intro i l _ h1 h2;omega
 |succ g ih=>
  intro i l h0 h1 h2 hl;simp only[yd];cases hM:fU s i 124 with
  |false=>
   have f1:=o9 hM;simp only[au,if_false];refine⟨l,i,false,bk ?_,⟨by have:=hl.1;omega,hl.2⟩,aj _,h1,rfl,by rw[aD],rfl⟩;simp only[go_sem,bm,qn,f1]
  |true=>
   have f1:=pa hs hM;have hi:=ll hM;have yV:l.length<=mg:=by have:=hl.1;simp only[mg];omega
   have fb:=λx=>Pd yV x;have fa:=λop t ks=>D6 yV op t ks;simp only[if_true];obtain⟨j,p,k,b,hj,hg,p1,p2,p3,p4⟩:=acS tn (i:=i+1) (by omega) λj hj LP=>hA j (by omega) LP;simp only[aF,ai,ak]at hg;have go:lB G qn (0,[.int .i64 0,.str ⟨#[]⟩,.str s,.int .i64 (i:Int),.bool false,bJ l])=some (.go (0,[.int .i64 0,.str ⟨#[]⟩,.str s,.int .i64 (k:Int),.bool b,bJ (l++[p])])):=by
    match j,hj with
    |0,_=>simp only[go_sem,bm,qn,f1,hg,q9,og,fa,bO]
    |1,_=>simp only[go_sem,bm,qn,f1,hg,og,fa,bO]
   cases hr:yF alt s (i+1) with
   |none=>
    rw[hr]at p4;subst p4;have f2:=λc=>FM (s:=s) (i:=(k:Int)) (c:=c);refine⟨l++[p],k,true,(cE go).trans (bk ?_),nh (n:=32) ⟨by have:=hl.1;omega,hl.2⟩ p1 (by decide),by omega,p3,rfl⟩;simp only[go_sem,bm,qn,f2]
   |some q=>
    rw[hr]at p4;obtain⟨rfl,rfl,p5⟩:=p4;obtain⟨l',k',b',e2,e3⟩:=ih k (l++[p]) (by omega) p3 (by omega) (nh hl p1 (by omega));exact⟨l',k',b',(cE go).trans e2,uN (by omega) e3⟩
theorem Y2(tn:s.size<=30){i:Nat}(h1:i<=s.size)(hA:∀j,i < j->j<=s.size->zA 223 s j 0 2 false (alt j)):zA 223 s i 0 2 false (Bz alt s i):=by
 obtain⟨j,p,k,b,hj,hg,p1,p2,p3,p4⟩:=acS tn h1 hA;simp only[aF,ai,ak]at hg;have he:∃(l':List cx) (k':Nat) (b':Bool),bR (lB G qn) (0,[.int .i64 0,.str ⟨#[]⟩,.str s,.int .i64 (k:Int),.bool b,bJ [p]])=some (0,[.bool false,.int .i64 0,.str ⟨#[]⟩,.str s,.int .i64 (k':Int),.bool b',bJ l'])/\PA s i 0 (Bz alt s i) (pS 3 l') k' b':=by
  unfold Bz;cases hr:yF alt s i with
  |none=>
   rw[hr]at p4;subst p4;have f2:=λc=>FM (s:=s) (i:=(k:Int)) (c:=c);exact⟨[p],k,true,bk (by simp only[go_sem,bm,qn,f2]),p1,p2,p3,rfl⟩
  |some q=>
   rw[hr]at p4;obtain⟨rfl,rfl,p5⟩:=p4;obtain⟨l',k',b',e1,e2,e3,e4,e5⟩:=UD tn hA (s.size+1) k [p] p2 p3 (by omega) ⟨by simp,by simpa using p1⟩;refine⟨l',k',b',e1,sE (by have:=e2.1;omega) e2.2,by omega,e4,?_⟩;dsimp only;cases EF:yd alt s (s.size+1) k with
   |none=>rw[EF]at e5;exact e5
   |some q=>
    rw[EF]at e5;obtain⟨h5,h6,h7⟩:=e5;subst h6 h7;exact⟨h5,rfl,by omega⟩
 obtain⟨l',k',b',e1,hP⟩:=he;have hg':∀(t:Nat×List D) (h:dL G (t223) 0 [.str s,.int .i64 (i:Int),.bool false]=some t),True:=λ_ _=>trivial;by_cases hl:l'.length=1
 ·obtain⟨q,rfl⟩:=cJ.1 hl;have hw:pS 3 [q]=q:=rfl;rw[hw]at hP;refine⟨0,q,k',b',by decide,cq Zw rfl ?_,hP⟩
  match j,hj with
  |0,_=>simp only[go_sem,t223,hg,q9,og,P1,bO,e1,CY,CQ,aF q]
  |1,_=>simp only[go_sem,t223,hg,og,P1,bO,e1,CY,CQ,aF q]
 ·rw[Gk hl]at hP;refine⟨1,_,k',b',by decide,cq Zw rfl ?_,hP⟩
  match j,hj with
  |0,_=>simp only[go_sem,t223,hg,q9,og,P1,bO,e1,Du,hl,aF,eT]
  |1,_=>simp only[go_sem,t223,hg,og,P1,bO,e1,Du,hl,aF,eT]
theorem RS(tn:s.size<=30):∀(g i:Nat),i<=s.size->s.size+1 - i<=g->zA 223 s i 0 2 false (Oo s g i)
 |0,i,h1,h2=>by omega
 |g+1,i,h1,h2=>Y2 tn h1 λj hj LP=>RS tn g j LP (by omega)
end
theorem ve(n:Nat):decide ((30:Int) < (n:Int))=decide (30 < n):=by apply decide_eq_decide.2;omega
theorem Mr(a b:Nat):decide ((a:Int)=(b:Int))=decide (a=b):=by apply decide_eq_decide.2;omega
theorem acT{s:ByteArray}:∃j p,j < 3/\G 226 [.str s]=some (j,gB p++[.bool (lp s)])/\∀q,ye s=some q->p=q/\uw 64 p=true:=by
 unfold lp ye;by_cases h:30 < s.size
 ·refine⟨0,⟨0,eT,[]⟩,by decide,cq R_ rfl ?_,λq hq=>by rw[if_pos h]at hq;cases hq⟩;rw[if_pos h];simp only[go_sem,t226,ve,h,aF,ej];rfl
 ·rw[if_neg h];obtain⟨j,p,k,b,hj,hg,p1,p2,p3,p4⟩:=RS (s:=s) (by omega) (s.size+1) 0 (by omega) (by omega);simp only[aF,ai,ak,n0]at hg;cases hr:Oo s (s.size+1) 0 with
  |none=>
   rw[hr]at p4;subst p4;refine⟨0,⟨0,eT,[]⟩,by decide,cq R_ rfl ?_,λq hq=>by cases hq⟩
   match j,hj with
   |0,_=>simp only[go_sem,t226,ve,h,hg,aF,ej];rfl
   |1,_=>simp only[go_sem,t226,ve,h,hg,aF,ej];rfl
  |some q=>
   rw[hr]at p4;obtain⟨rfl,rfl,p5⟩:=p4;dsimp only;by_cases hk:k=s.size
   ·rw[if_pos hk];refine⟨j+1,p,by omega,cq R_ rfl ?_,λq hq=>by cases hq;exact⟨rfl,p1⟩⟩
    match j,hj with
    |0,_=>simp only[go_sem,t226,ve,h,hg,hk,aF,gR]
    |1,_=>simp only[go_sem,t226,ve,h,hg,hk,aF,gR]
   ·rw[if_neg hk];refine⟨0,⟨0,eT,[]⟩,by decide,cq R_ rfl ?_,λq hq=>by cases hq⟩
    match j,hj with
    |0,_=>simp only[go_sem,t226,ve,Mr,h,hg,hk,aF,ej];rfl
    |1,_=>simp only[go_sem,t226,ve,Mr,h,hg,hk,aF,ej];rfl
theorem acU(s:ByteArray):G 227 [.str s]=some (0,[.bool (lp s)]):=by
 obtain⟨j,p,hj,hg,_⟩:=acT (s:=s);simp only[aF,ai,ak]at hg;refine cq ad0 rfl ?_
 match j,hj with
 |0,_=>simp only[go_sem,t227,hg]
 |1,_=>simp only[go_sem,t227,hg]
 |2,_=>simp only[go_sem,t227,hg]
theorem acX{t s:ByteArray}(hs:s.size<=mg):G 236 [.str t,.str s]=some (0,[.bool (FC t s)]):=by
 obtain⟨j,p,hj,hg,hq⟩:=acT (s:=t);simp only[aF,ai,ak]at hg;have DL:∀b,aK .pl [.bool b]=some (.bool false):=λb=>rfl;refine cq ad9 rfl ?_;unfold FC;cases hp:ye t with
 |none=>
  have hi:lp t=false:=by rw[lp,hp];rfl
  rw[hi]at hg
  match j,hj with
  |0,_=>simp only[go_sem,t236,hg]
  |1,_=>simp only[go_sem,t236,hg]
  |2,_=>simp only[go_sem,t236,hg]
 |some q=>
  have hi:lp t=true:=by rw[lp,hp];rfl
  obtain⟨rfl,bY⟩:=hq q hp;have h5:=ahw hs bY;simp only[aF,ai,ak]at h5;rw[hi]at hg
  match j,hj with
  |0,_=>simp only[go_sem,t236,hg,h5,DL]
  |1,_=>simp only[go_sem,t236,hg,h5]
  |2,_=>simp only[go_sem,t236,hg,h5,DL]
end
section
def bC(f:Nat->Bool):List C:=(bE 256).map λx=>.d (.bool (f x))
def bV(f:Nat->Bool):List RV:=(bE 256).map λx=>.d (.bool (f x))
def eL(f:Nat->Bool)(n:Nat):List (List D):=((bE n).filter f).map λx:Nat=>[D.int .u8 (x:Int)]
def TK(f:Nat->Bool):ByteArray:=⟨(((bE 256).filter f).map cL).toArray⟩
theorem mz:((0:Nat):Int)=0:=(rfl)
theorem LS(f:Nat->Bool)(d:Nat):∀(l:List Nat) (j:Nat) (s:St),dV d j (l.map λx=>RV.d (.bool (f x))) s=(l.map λx=>C.d (.bool (f x)),s)
 |[],j,s=>rfl
 |x::l,j,s=>by
  simp only[aN,dV,LS f d l (j+1) s]
theorem abC(f:Nat->Bool)(d j:Nat)(s:St):dV d j (bV f) s=(bC f,s):=LS f d _ j s
theorem Dk(f:Nat->Bool)(i:Nat):∀(l:List Nat),C.jd i (l.map λx=>C.d (.bool (f x)))=l.map λx=>C.d (.bool (f x))
 |[]=>rfl
 |x::l=>by simp only[aN,C.jd,C.kill,Dk f i l]
theorem oE(f:Nat->Bool)(i:Nat):C.jd i (bC f)=bC f:=Dk f i _
theorem pZ(f:Nat->Bool):(bC f).all C.cell=true:=by rw[bC,List.all_map];exact aS.2 λx _=>rfl
theorem px(f:Nat->Bool):(bC f).all C.const=true:=by rw[bC,List.all_map];exact aS.2 λx _=>rfl
theorem mO(f:Nat->Bool):(bC f).length=256:=by simp[bC]
theorem U0{α:Type}{f:Nat->α}{n x:Nat}(h:x < n):nth ((bE n).map f) x=some (f x):=by
 rw[cV];simp[h]
theorem W9(f:Nat->Bool){x:Nat}(h:x < 256):nth (bC f) x=some (.d (.bool (f x))):=U0 h
theorem TO(f:Nat->Bool)(n:Nat):eL f (n+1)=eL f n++(if f n=true then [[D.int .u8 (n:Int)]] else []):=by
 simp only[eL,List.range_succ,List.filter_append,dc]
 congr 1
 by_cases h:f n=true<;>simp[h]
theorem Xl(f:Nat->Bool)(n:Nat):(eL f n).length<=n:=by
 have:=tz f (bE n)
 simpa [eL] using this
theorem CL:∀(l:List Nat),bytesOf (l.map λx:Nat=>[D.int .u8 (x:Int)])=some (l.map λx:Nat=>(x:Int))
 |[]=>rfl
 |x::l=>by simp only[aN,bytesOf,CL l,aB]
abbrev sv:List C:=[.d (.int .i64 0),.d (.str ⟨#[]⟩),.nil 3 false]
def DU(f:Nat->Bool)(i:Nat):St:=⟨[(1,.ptr 1 0),(2,.ptr 2 0),(3,.ref 5),(6,.d (.int .i64 (i:Int)))],[(1,bC f),(2,sv)],[(5,⟨eL f i,1,true,true,true,false⟩)]⟩
theorem UI(f:Nat->Bool):ev T tv (.loop vp) (DU f 0)=some (.exit 0,⟨[(1,.ptr 1 0),(2,.ptr 2 0),(3,.ref 5),(6,.d (.int .i64 256)),(7,.d (.bool false))],[(1,bC f),(2,sv)],[(5,⟨eL f 256,1,true,true,true,false⟩)]⟩):=by
 refine WA (DU f) 256 (λh=>by cases h) ?_ ?_
 ·simp only[go_sem,ax,Int.reduceLT,vp,DU,show ((256:Nat):Int)=256 from rfl]
 ·intro i hi;have h1:((i:Int) < 256)=True:=by simp;omega
  have hw:IntKind.i64.wrap ((i:Int)+1)=((i+1:Nat):Int):=wi hi (by decide);have hu:IntKind.u8.wrap (i:Int)=(i:Int):=wrap_u8 (by omega);have hn:=W9 f hi;have he:=TO f i;have hl:=Xl f i;have r1:((eL f i).length+1<=room)=True:=eq_true (by simp only[room];omega);have r2:((eL f i).length+1<=maxLen)=True:=eq_true (by simp only[maxLen];omega);cases hf:f i with
  |true=>
   rw[hf,if_pos rfl]at he;rw[hf]at hn;simp only[go_sem,ax,ba,oO,vp,DU,h1,hw,hu,hn,hi,oE,nF,r1,r2,he,du]
  |false=>
   rw[hf,if_neg cj,aD]at he;rw[hf]at hn;simp only[go_sem,ax,vp,DU,h1,hw,hn,hi,nF,he,du]
theorem ac3(f:Nat->Bool):dd T 276 [.val true (bV f)]=some ([.val true [.d (.int .i64 1),.d (.str (TK f)),.row ⟨[],3,false,true,true,false⟩]],[]):=by
 have hl:=UI f;have h0:eL f 0=[]:=rfl;have hb:bytesOf (eL f 256)=some (((bE 256).filter f).map λx:Nat=>(x:Int)):=CL _;have hm:(((bE 256).filter f).map λx:Nat=>(x:Int)).map (λn=>cL n.toNat)=((bE 256).filter f).map cL:=by
  rw[List.map_map];rfl
 generalize hq:(((bE 256).filter f).map λx:Nat=>(x:Int))=q at hb hm;have hc:(⟨(q.map λn=>cL n.toNat).toArray⟩:ByteArray)=TK f:=by rw[hm];rfl
 rw[sc (f:=276) rfl rfl];simp only[DU,h0,sv,show ((0:Nat):Int)=0 from rfl]at hl;simp only[go_sem,bI,ax,aZ,ba,oO,abC,pZ,oE,hl,hb,hc]
abbrev mgK:Nat:=1048576
abbrev kV(s:ByteArray)(i:Int)(b:Bool):A:=.box [.d (.str s),.d (.int .i64 i),.d (.bool b)]
abbrev bt(c:Int):A:=.val false [.d (.int .u8 c)]
abbrev ys(b:Bool):A:=.val false [.d (.bool b)]
theorem EH{s:ByteArray}{i i1 k k1:Int}{b b1 t:Bool}{op:Int}{tx:ByteArray}{kd:RV}(hk:(∃es,kd=.d (.list 3 false es))\/∃es,kd=.row ⟨es,3,false,false,true,true⟩)
  (h1:dd T 275 [kV s i b,bt 40]=some ([ys true],[kV s i1 b])) (h2:dd T 280 [kV s i1 b]=some ([.val true [.d (.int .i64 op),.d (.str tx),kd]],[kV s k b1]))
  (h3:dd T 275 [kV s k b1,bt 41]=some ([ys t],[kV s k1 b1])):dd T 279 [kV s i b]=some ([.val true [.d (.int .i64 op),.d (.str tx),kd]],[kV s k1 (b1 ||!t)]):=by
 have hz:(aC 256 (C.d (.bool false)))=bC λ_=>false:=by rw[bC,n4];simp
 rw[sc (f:=279) rfl rfl,hz];rcases hk with ⟨es,rfl⟩|⟨es,rfl⟩<;>cases t<;>cases b1<;>simp only[go_sem,bI,ax,Nat.reduceMul,aZ,ba,pZ,px,oE,mO,h1,h2,h3,aZ]
theorem Ph(f:Nat->Bool){x:Nat}(h:x < 256):List.take x (bC f)++[C.d (.bool true)]++List.drop (x+1) (bC f)=bC λy=>f y ||decide (x=y):=by
 apply List.ext_getElem
 ·simp[bC];omega
 intro i h1 h2;simp only[mO]at h2;have e:∀g:Nat->Bool,(bC g)[i]'(by rw[mO];exact h2)=C.d (.bool (g i)):=λg=>by simp[bC]
 rw[e];have hl:((bC f).take x).length=x:=by simp[bC];omega
 by_cases hx:i < x
 ·rw[qI (by simp[hl];omega),qI (by omega),List.getElem_take,e];have:¬x=i:=by omega
  simp[this]
 ·by_cases hx2:i=x
  ·subst hx2;rw[qI (by simp[hl]),List.getElem_append_right (by omega)];simp[hl]
  ·rw[List.getElem_append_right (by simp[hl];omega),List.getElem_drop];have e2:x+1+(i - (List.take x (bC f)++[C.d (D.bool true)]).length)=i:=by simp[hl];omega
   simp only[e2];rw[e];have:¬x=i:=by omega
   simp[this]
theorem uR(f:Nat->Bool):List.drop 256 (bC f)=[]:=ez (by rw[mO];exact aj _)
theorem Lf(f:Nat->Bool):List.take 256 (bC f)=bC f:=List.take_of_length_le (by rw[mO];exact aj _)
theorem R0(f:Nat->Bool)(s:St):∀(l:List Nat),fk (kJ s) (l.map λx=>C.d (.bool (f x)))=some (l.map λx=>RV.d (.bool (f x)))
 |[]=>rfl
 |x::l=>by simp only[aN,fk,kJ,R0 f s l,aB]
theorem ado(f:Nat->Bool)(s:St):fk (kJ s) (bC f)=some (bV f):=R0 f s _
theorem IF(f:Nat->Bool):∀(l:List Nat),rowsOf (l.map λx=>C.d (.bool (f x)))=[]
 |[]=>rfl
 |x::l=>by simp only[aN,rowsOf,IF f l]
theorem R8(f:Nat->Bool):rowsOf (bC f)=[]:=IF f _
abbrev rF(x:Nat):Nat->Bool:=λy=>decide (32<=y) && decide (y < x)
def ZH(c:List C)(x:Nat):St:=⟨[(0,.ptr 900 0),(2,.ptr 2 0),(3,.ptr 3 0),(5,.d (.int .i64 (x:Int)))],[(2,sv),(3,bC (rF x)),(900,c)],[]⟩
theorem W8{x:Nat}(h:32<=x):(λy=>rF x y ||decide (x=y))=rF (x+1):=by
 funext y
 simp only[rF];by_cases h1:32<=y
 ·by_cases h2:y < x
  ·have:y < x+1:=by omega
   simp[h1,h2,this]
  ·by_cases h3:x=y
   ·subst h3;simp[h1]
   ·have:¬y < x+1:=by omega
    simp[h1,h2,h3,this]
 ·have:¬x=y:=by omega
  simp[h1,this]
theorem N1(c:List C):ev T tv (.loop sV) (ZH c 32)=some (.exit 1,⟨[(0,.ptr 900 0),(2,.ptr 2 0),(3,.ptr 3 0),(5,.d (.int .i64 127)),(28,.d (.bool false))],[(2,sv),(3,bC (rF 127)),(900,c)],[]⟩):=by
 have h:∀m x,x+m=127->32<=x->ev T tv (.loop sV) (ZH c x)=some (.exit 1,⟨[(0,.ptr 900 0),(2,.ptr 2 0),(3,.ptr 3 0),(5,.d (.int .i64 127)),(28,.d (.bool false))],[(2,sv),(3,bC (rF 127)),(900,c)],[]⟩):=by
  intro m
  induction m with
  |zero=>
   intro x hx _;obtain rfl:x=127:=by omega
   rw[fG];simp only[go_sem,ax,Int.reduceLE,sV,ZH,show ((127:Nat):Int)=127 from rfl]
  |succ m ih=>
   intro x hx h32;have h1:((x:Int)<=126)=True:=eq_true (by omega);have hw:IntKind.i64.wrap ((x:Int)+1)=((x+1:Nat):Int):=wi (n:=127) (by omega) (by decide);have h2:(x < 256)=True:=eq_true (by omega);have h3:(x+1<=256)=True:=eq_true (by omega);have hs:=Ph (rF x) (x:=x) (by omega);rw[W8 h32]at hs;have hb:ev T tv sV (ZH c x)=some (.norm,ZH c (x+1)):=by
    simp only[go_sem,ax,ba,sV,ZH,h1,hw,h2,h3,hs,mO,nF,bo,du]
   rw[fG,hb];exact ih (x+1) (by omega) (by omega)
 exact h 95 32 rfl (by omega)
theorem Yk{s:ByteArray}{i i1:Int}{b:Bool}(h1:dd T 275 [kV s i b,bt 40]=some ([ys false],[kV s i b]))(h2:dd T 275 [kV s i b,bt 46]=some ([ys true],[kV s i1 b])) :
  dd T 279 [kV s i b]=some ([.val true [.d (.int .i64 1),.d (.str (TK (rF 127))),.row ⟨[],3,false,true,true,false⟩]],[kV s i1 b]):=by
 have hz:(aC 256 (C.d (.bool false)))=bC (rF 32):=by
  have:rF 32=λ_=>false:=by funext y;simp[rF]
  rw[this,bC,n4];simp
 have hl:=N1 [.d (.str s),.d (.int .i64 i1),.d (.bool b)];simp only[ZH,sv,show ((32:Nat):Int)=32 from rfl]at hl;have hc:=ac3 (rF 127);rw[sc (f:=279) rfl rfl,hz];simp only[go_sem,bI,ax,Nat.reduceMul,aZ,ba,pZ,px,oE,mO,uR,Lf,ado,R8,h1,h2,hl,hc,aZ]
theorem Q_{s:ByteArray}{i i1 a:Int}{b b1:Bool}(h1:dd T 275 [kV s i b,bt 40]=some ([ys false],[kV s i b]))(h2:dd T 275 [kV s i b,bt 46]=some ([ys false],[kV s i b]))(h3:dd T 275 [kV s i b,bt 91]=some ([ys false],[kV s i b]))
  (h4:dd T 278 [kV s i b]=some ([.val false [.d (.int .u8 a)]],[kV s i1 b1])) :
  dd T 279 [kV s i b]=some ([.val true [.d (.int .i64 1),.d (.str ⟨[cL a.toNat].toArray⟩),.row ⟨[],3,false,true,true,false⟩]],[kV s i1 (b1 ||(decide (a=95) ||decide (a=46)))]):=by
 have hz:(aC 256 (C.d (.bool false)))=bC (rF 32):=by
  have:rF 32=λ_=>false:=by funext y;simp[rF]
  rw[this,bC,n4];simp
 rw[sc (f:=279) rfl rfl,hz];by_cases c1:a=95
 ·have e1:(a=95)=True:=eq_true c1;simp only[go_sem,bI,ax,aZ,ba,oO,pZ,px,oE,mO,uR,h1,h2,h3,h4,e1,bytesOf,aZ]
 ·have e1:(a=95)=False:=eq_false c1;by_cases c2:a=46
  ·have e2:(a=46)=True:=eq_true c2;simp only[go_sem,bI,ax,aZ,ba,oO,pZ,px,oE,mO,uR,h1,h2,h3,h4,e1,e2,bytesOf,aZ]
  ·have e2:(a=46)=False:=eq_false c2;simp only[go_sem,bI,ax,aZ,ba,oO,pZ,px,oE,mO,uR,h1,h2,h3,h4,e1,e2,bytesOf,aZ]
abbrev rC(s:ByteArray)(i:Int)(b:Bool):List C:=[.d (.str s),.d (.int .i64 i),.d (.bool b)]
def Se(c:List C)(n:Nat)(z x:Nat)(f:Nat->Bool):St:=⟨[(0,.ptr 900 0),(2,.ptr 2 0),(3,.ptr 3 0),(6,.d (.int .i64 (n:Int))),(8,.d (.int .u8 (z:Int))),(9,.d (.int .i64 (x:Int)))],[(2,sv),(3,bC f),(900,c)],[]⟩
def rg(f:Nat->Bool)(x z:Nat):Nat->Bool:=λy=>f y ||(decide (x<=y) && decide (y<=z))
theorem WS{f:Nat->Bool}{x z:Nat}(h:z < x):rg f x z=f:=by
 funext y
 unfold rg;by_cases h1:x<=y
 ·have:¬y<=z:=by omega
  simp[this]
 ·simp[h1]
theorem aih{f:Nat->Bool}{x z:Nat}(h:x<=z):rg (λy=>f y ||decide (x=y)) (x+1) z=rg f x z:=by
 funext y
 unfold rg;by_cases h1:x=y
 ·subst h1;simp[h]
 ·by_cases h2:x<=y
  ·have:x+1<=y:=by omega
   simp[h1,h2,this]
  ·have:¬x+1<=y:=by omega
   simp[h1,h2,this]
theorem Dn(c:List C)(n z:Nat)(hz:z < 256):∀(m x:Nat) (f:Nat->Bool),x+m=z+1->∃x':Int,ev T tv (.loop oF) (Se c n z x f)=some (.exit 5,⟨[(0,.ptr 900 0),(2,.ptr 2 0),(3,.ptr 3 0),(6,.d (.int .i64 (n:Int))),(8,.d (.int .u8 (z:Int))),(9,.d (.int .i64 x')),(72,.d (.bool false))],[(2,sv),(3,bC (rg f x z)),(900,c)],[]⟩)
 |0,x,f,hx=>by
  have h1:((x:Int)<=(z:Int))=False:=eq_false (by omega);have hw:IntKind.i64.wrap (z:Int)=(z:Int):=bN (by omega);refine⟨x,?_⟩;rw[WS (by omega),fG];simp only[go_sem,ax,oF,Se,h1,hw]
 |m+1,x,f,hx=>by
  have h1:((x:Int)<=(z:Int))=True:=eq_true (by omega);have hwz:IntKind.i64.wrap (z:Int)=(z:Int):=bN (by omega);have hw:IntKind.i64.wrap ((x:Int)+1)=((x+1:Nat):Int):=wi (n:=256) (by omega) (by decide);have h2:(x < 256)=True:=eq_true (by omega);have h3:(x+1<=256)=True:=eq_true (by omega);have hs:=Ph f (x:=x) (by omega);obtain⟨x',ih⟩:=Dn c n z hz m (x+1) (λy=>f y ||decide (x=y)) (by omega);rw[aih (by omega)]at ih;have hb:ev T tv oF (Se c n z x f)=some (.norm,Se c n z (x+1) (λy=>f y ||decide (x=y))):=by
   simp only[go_sem,ax,ba,oF,Se,h1,hw,hwz,h2,h3,hs,mO,nF,bo,du]
  refine⟨x',?_⟩;rw[fG,hb];exact ih
theorem AY(c:List C)(n z x:Nat)(f:Nat->Bool)(hz:z < 256)(hx:x < 256):∃x':Int,ev T tv (.loop oF) (Se c n z x f)=some (.exit 5,⟨[(0,.ptr 900 0),(2,.ptr 2 0),(3,.ptr 3 0),(6,.d (.int .i64 (n:Int))),(8,.d (.int .u8 (z:Int))),(9,.d (.int .i64 x')),(72,.d (.bool false))],[(2,sv),(3,bC (rg f x z)),(900,c)],[]⟩):=by
 by_cases h:x<=z+1
 ·exact Dn c n z hz (z+1 - x) x f (by omega)
 ·have h1:((x:Int)<=(z:Int))=False:=eq_false (by omega);have hw:IntKind.i64.wrap (z:Int)=(z:Int):=bN (by omega);refine⟨x,?_⟩;rw[WS (by omega),fG];simp only[go_sem,ax,oF,Se,h1,hw]
def Cb(s:ByteArray)(i:Int)(b:Bool)(n:Nat)(f:Nat->Bool):St:=⟨[(0,.ptr 900 0),(2,.ptr 2 0),(3,.ptr 3 0),(6,.d (.int .i64 (n:Int)))],[(2,sv),(3,bC f),(900,rC s i b)],[]⟩
theorem Av{s:ByteArray}{i i1 i2 i3:Int}{b1 b3 t:Bool}{n a z0:Nat}{f:Nat->Bool}(hn:n<=mgK)(ha:a < 256)(hz:z0 < 256)(h0:n=0\/dd T 275 [kV s i false,bt 93]=some ([ys false],[kV s i false]))
  (h1:dd T 278 [kV s i false]=some ([.val false [.d (.int .u8 (a:Int))]],[kV s i1 b1]))
  (h2:dd T 275 [kV s i1 b1,bt 126]=some ([ys t],[kV s i2 b1]))
  (h3:t=true->dd T 278 [kV s i2 b1]=some ([.val false [.d (.int .u8 (z0:Int))]],[kV s i3 b3])) :
  ev T tv gh (Cb s i false n f)=some (.norm,Cb s (if t then i3 else i2) ((if t then b3 else b1) ||(t && decide (z0 < a))) (n+1) (rg f a (if t then z0 else a))):=by
 have hw:IntKind.i64.wrap ((n:Int)+1)=((n+1:Nat):Int):=wi (n:=mgK+1) (by omega) (by decide);have hwa:IntKind.i64.wrap (a:Int)=(a:Int):=bN (by omega);have QK:∀(P:Prop),(n=0->P)->(¬n=0->dd T 275 [kV s i false,bt 93]=some ([ys false],[kV s i false])->P)->P:=λP p1 p2=>by
  by_cases h:n=0
  ·exact p1 h
  ·rcases h0 with h0|h0
   ·exact absurd h0 h
   ·exact p2 h h0
 cases t with
 |false=>
  obtain⟨x',hl⟩:=AY (rC s i2 b1) n a a f ha ha;have ic:((a:Int) < (a:Int))=False:=eq_false (by omega);simp only[Se]at hl;refine QK _ (λAs=>?_) (λAs kj=>?_)
  ·subst As;simp only[show ((0:Nat):Int)=0 from rfl,bo,oN]at hl hw ⊢;simp only[go_sem,bI,ax,aZ,ba,gh,Cb,mz,h1,h2,ic,hwa,hl,hw,oN]
  ·have vR:((n:Int)=0)=False:=eq_false (by omega);simp only[go_sem,bI,ax,aZ,ba,gh,Cb,h1,h2,kj,vR,ic,hwa,hl,hw]
 |true=>
  have h3':=h3 rfl;have fin:∀(b4:Bool),b4=(b3 ||decide (z0 < a))->∃x':Int,ev T tv (.loop oF) (Se (rC s i3 b4) n z0 a f)=some (.exit 5,⟨[(0,.ptr 900 0),(2,.ptr 2 0),(3,.ptr 3 0),(6,.d (.int .i64 (n:Int))),(8,.d (.int .u8 (z0:Int))),(9,.d (.int .i64 x')),(72,.d (.bool false))],[(2,sv),(3,bC (rg f a z0)),(900,rC s i3 b4)],[]⟩):=λb4 _=>AY _ n z0 a f hz ha;by_cases ic:z0 < a
  ·obtain⟨x',hl⟩:=fin true (by simp[ic]);have QP:((z0:Int) < (a:Int))=True:=eq_true (by omega);simp only[Se]at hl;simp only[ic,decide_true,iL,jo,if_true];refine QK _ (λAs=>?_) (λAs kj=>?_)
   ·subst As;simp only[show ((0:Nat):Int)=0 from rfl,bo,oN]at hl hw ⊢;simp only[go_sem,bI,ax,aZ,ba,gh,Cb,mz,h1,h2,h3',QP,hwa,hl,hw,oN]
   ·have vR:((n:Int)=0)=False:=eq_false (by omega);simp only[go_sem,bI,ax,aZ,ba,gh,Cb,h1,h2,h3',kj,vR,QP,hwa,hl,hw]
  ·obtain⟨x',hl⟩:=fin b3 (by simp[ic]);have QP:((z0:Int) < (a:Int))=False:=eq_false (by omega);simp only[Se]at hl;simp only[ic,decide_false,iU,iM,if_true];refine QK _ (λAs=>?_) (λAs kj=>?_)
   ·subst As;simp only[show ((0:Nat):Int)=0 from rfl,bo,oN]at hl hw ⊢;simp only[go_sem,bI,ax,aZ,ba,gh,Cb,mz,h1,h2,h3',QP,hwa,hl,hw,oN]
   ·have vR:((n:Int)=0)=False:=eq_false (by omega);simp only[go_sem,bI,ax,aZ,ba,gh,Cb,h1,h2,h3',kj,vR,QP,hwa,hl,hw]
theorem Di{s:ByteArray}{i:Int}{n:Nat}{f:Nat->Bool}:ev T tv (.loop gh) (Cb s i true n f)=some (.exit 3,⟨[(0,.ptr 900 0),(2,.ptr 2 0),(3,.ptr 3 0),(6,.d (.int .i64 (n:Int))),(51,.d (.bool false))],[(2,sv),(3,bC f),(900,rC s i true)],[]⟩):=by
 rw[fG];simp only[go_sem,bI,ax,aZ,gh,Cb]
theorem NM{s:ByteArray}{i i1:Int}{n:Nat}{f:Nat->Bool}(h0:n≠0)(h1:dd T 275 [kV s i false,bt 93]=some ([ys true],[kV s i1 false])) :
  ev T tv (.loop gh) (Cb s i false n f)=some (.exit 3,⟨[(0,.ptr 900 0),(2,.ptr 2 0),(3,.ptr 3 0),(6,.d (.int .i64 (n:Int))),(51,.d (.bool false))],[(2,sv),(3,bC f),(900,rC s i1 false)],[]⟩):=by
 have vR:((n:Int)=0)=False:=eq_false (by omega);rw[fG];simp only[go_sem,bI,ax,aZ,ba,gh,Cb,h1,vR]
theorem Q9{s:ByteArray}{i i1 k:Int}{b b1:Bool}{n:Int}{f:Nat->Bool}(h1:dd T 275 [kV s i b,bt 40]=some ([ys false],[kV s i b]))(h2:dd T 275 [kV s i b,bt 46]=some ([ys false],[kV s i b]))(h3:dd T 275 [kV s i b,bt 91]=some ([ys true],[kV s i1 b]))
  (hl:ev T tv (.loop gh) (Cb s i1 b 0 λ_=>false)=some (.exit 3,⟨[(0,.ptr 900 0),(2,.ptr 2 0),(3,.ptr 3 0),(6,.d (.int .i64 n)),(51,.d (.bool false))],[(2,sv),(3,bC f),(900,rC s k b1)],[]⟩)) :
  dd T 279 [kV s i b]=some ([.val true [.d (.int .i64 1),.d (.str (TK f)),.row ⟨[],3,false,true,true,false⟩]],[kV s k b1]):=by
 have hz:(aC 256 (C.d (.bool false)))=bC λ_=>false:=by rw[bC,n4];simp
 have hc:=ac3 f;simp only[Cb,mz]at hl;rw[sc (f:=279) rfl rfl,hz];simp only[go_sem,bI,ax,Nat.reduceMul,aZ,ba,pZ,px,oE,mO,uR,Lf,ado,R8,h1,h2,h3,hl,hc,aZ]
end
section
theorem ly{s:ByteArray}{i:Nat}{c:Int}{b:Bool}(hs:s.size<=mg)(h:fU s i c=true):G 275 [.str s,.int .i64 (i:Int),.bool b,.int .u8 c]=some (0,[.bool true,.str s,.int .i64 ((i+1:Nat):Int),.bool b]):=by
 obtain⟨hi,hb⟩:=ko.1 h;have hw:=wj hi hs;refine cq Zy rfl ?_;simp only[go_sem,VE,hi,hb,eo _ _ hi,hw]
theorem lY{s:ByteArray}{i:Nat}{c:Int}{b:Bool}(h:fU s i c=false):G 275 [.str s,.int .i64 (i:Int),.bool b,.int .u8 c]=some (0,[.bool false,.str s,.int .i64 (i:Int),.bool b]):=by
 refine cq Zy rfl ?_;by_cases hi:i < s.size
 ·have hb:=LW h hi;simp only[go_sem,VE,hi,hb,eo _ _ hi]
 ·simp only[go_sem,VE,hi]
theorem ac4(b:Int):G 277 [.int .u8 b]=some (0,[.bool (Jy b)]):=by
 refine cq aeJ rfl ?_;unfold Jy;cases hx:ff 97 122 b<;>cases hy:ff 48 57 b<;>simp only[go_sem,afy,Zc,ac0,hx,hy]
 by_cases h1:b=95
 ·simp only[go_sem,h1]
 ·by_cases h2:b=45
  ·simp only[go_sem,h2]
  ·by_cases h3:b=46
   ·simp only[go_sem,h3]
   ·simp only[go_sem,h1,h2,h3]
def xk(s:ByteArray)(i:Nat):Bool:=decide (i < s.size) && Jy (da s i)
theorem FN{s:ByteArray}{i:Nat}{b:Bool}(hs:s.size<=mg)(h:xk s i=true):G 278 [.str s,.int .i64 (i:Int),.bool b]=some (0,[.int .u8 (da s i),.str s,.int .i64 ((i+1:Nat):Int),.bool b]):=by
 simp only[xk,ab,decide_eq_true_eq]at h;obtain⟨hi,hc⟩:=h;have hw:=wj hi hs;have h1:=ac4 (da s i);have h2:=eo s i hi;have h3:=aff i (by omega);have yx:¬s.size<=i:=by omega
 rw[hc]at h1;refine cq Zz rfl ?_;simp only[go_sem,VF,my,yx,h1,h2,h3,hw]
theorem BE{s:ByteArray}{i:Nat}{b:Bool}(h:xk s i=false):G 278 [.str s,.int .i64 (i:Int),.bool b]=some (0,[.int .u8 0,.str s,.int .i64 (i:Int),.bool true]):=by
 refine cq Zz rfl ?_;by_cases hi:i < s.size
 ·simp only[xk,hi,decide_true,bU]at h;have h1:=ac4 (da s i);have h2:=eo s i hi;have yx:¬s.size<=i:=by omega
  rw[h]at h1;simp only[go_sem,VF,my,yx,h1,h2]
 ·have yx:s.size<=i:=by omega
  simp only[go_sem,VF,my,yx]
theorem Zh(n:Nat):∀p:cx,ah p < n->uw 64 p=true->G 281 (gB p)=some (0,gB p):=by
 induction n with
 |zero=>intro p h;omega
 |succ n ih=>
  intro p hz hp;have hlen:=zm hp;have hk:∀k∈p.kids,G 281 (gB k)=some (0,gB k):=λk hk=>ih k (by have:=cx.J7 hk;omega) (zk hp hk);refine cq aeK (by rw[aF];rfl) ?_;have hl:=eB (b:=lB G Fh) p.kids (λi (a:List cx)=>(0,[bJ p.kids,.int .i64 p.kids.length,.int .i64 (i:Int),.int .i64 p.op,.str p.text,bJ p.kids,.int .i64 0,.str ⟨#[]⟩,bJ a])) (λi=>p.kids.take i) (0,[bJ p.kids,.int .i64 p.kids.length,.int .i64 p.kids.length,.bool false,.int .i64 p.op,.str p.text,bJ p.kids,.int .i64 0,.str ⟨#[]⟩,bJ p.kids]) (by
   intro i k hn;have hi:=aR hn;have hw:=wj (i:=i) (n:=p.kids.length) hi (by simp only[mg];omega);have e1:=hk k (aT hn);have e2:=Hg hn;have e3:=λ(op:Int) (t:ByteArray) (ks:List cx)=>D6 (l:=p.kids.take i) (by rw[aY];simp only[mg];omega) op t ks;rw[aF]at e1;rw[cu _ _ _ hn];simp only[go_sem,bm,Fh,hi,e2,oH];simp only[go_sem,aF k,e1,GA,og,e3,bO,hw]) (by
   rw[aW];simp only[go_sem,bm,Fh,aq]) p.kids.length 0 (by omega)
  have m0:aK (.eg 3 false) []=some (bJ []):=th 3 false;rw[n0,bg]at hl;simp only[go_sem,afz,aF p,m0,hl]
theorem ahV{p:cx}(hp:uw 64 p=true):G 281 (gB p)=some (0,gB p):=Zh _ p (aM _) hp
theorem sf{s:ByteArray}{i i':Nat}{c:Int}{b t:Bool}(h:G 275 [.str s,.int .i64 (i:Int),.bool b,.int .u8 c]=some (0,[.bool t,.str s,.int .i64 (i':Int),.bool b])):dd T 275 [kV s i b,bt c]=some ([ys t],[kV s i' b]):=by
 obtain⟨a,r,v,h1,h2,h3,h4⟩:=CD T GJ 275 _ rfl _ _ _ h;cases h1;cases h2;cases h3
 exact h4
theorem Fy{s:ByteArray}{i i':Nat}{a:Int}{b b':Bool}(h:G 278 [.str s,.int .i64 (i:Int),.bool b]=some (0,[.int .u8 a,.str s,.int .i64 (i':Int),.bool b'])):dd T 278 [kV s i b]=some ([.val false [.d (.int .u8 a)]],[kV s i' b']):=by
 obtain⟨a',r,v,h1,h2,h3,h4⟩:=CD T GJ 278 _ rfl _ _ _ h;cases h1;cases h2;cases h3
 exact h4
theorem Rz{s:ByteArray}{i k:Nat}{p:cx}{b b':Bool}(h:G 280 [.str s,.int .i64 (i:Int),.bool b]=some (0,gB p++[.str s,.int .i64 (k:Int),.bool b'])) :
  dd T 280 [kV s i b]=some ([.val true [.d (.int .i64 p.op),.d (.str p.text),.d (.list 3 false (p.kids.map gB))]],[kV s k b']):=by
 rw[aF]at h;obtain⟨a',r,v,h1,h2,h3,h4⟩:=CD T GJ 280 _ rfl _ _ _ h;cases h1;cases h2;cases h3
 exact h4
theorem RA{s:ByteArray}{i k:Nat}{p:cx}{b b':Bool}(h:G 280 [.str s,.int .i64 (i:Int),.bool b]=some (1,gB p++[.str s,.int .i64 (k:Int),.bool b'])) :
  dd T 280 [kV s i b]=some ([.val true [.d (.int .i64 p.op),.d (.str p.text),.row ⟨p.kids.map gB,3,false,false,true,true⟩]],[kV s k b']):=by
 rw[aF]at h;obtain⟨a',r,v,h1,h2,h3,h4⟩:=CD T GJ 280 _ rfl _ _ _ h;cases h1;cases h2;cases h3
 exact h4
theorem Qx{s:ByteArray}{i k:Nat}{p:cx}{b b':Bool}(h:dd T 279 [kV s i b]=some ([.val true [.d (.int .i64 p.op),.d (.str p.text),.d (.list 3 false (p.kids.map gB))]],[kV s k b'])) :
  G 279 [.str s,.int .i64 (i:Int),.bool b]=some (0,gB p++[.str s,.int .i64 (k:Int),.bool b']):=by
 rw[aF];exact tJ (i:=279) (sg:=⟨279,[.box [.d,.d,.d]],_⟩) (v:=([.val true [.d,.d,.d]],[.box [.d,.d,.d]])) rfl rfl h rfl rfl
theorem Qy{s:ByteArray}{i k:Nat}{p:cx}{b b':Bool}(h:dd T 279 [kV s i b]=some ([.val true [.d (.int .i64 p.op),.d (.str p.text),.row ⟨p.kids.map gB,3,false,false,true,true⟩]],[kV s k b'])) :
  G 279 [.str s,.int .i64 (i:Int),.bool b]=some (1,gB p++[.str s,.int .i64 (k:Int),.bool b']):=by
 rw[aF];exact tJ (i:=279) (sg:=⟨279,[.box [.d,.d,.d]],_⟩) (v:=([.val true [.d,.d,.row 3 false false true true]],[.box [.d,.d,.d]])) rfl rfl h rfl rfl
theorem wE{s:ByteArray}{i k:Nat}{t:ByteArray}{op:Int}{b b':Bool}(h:dd T 279 [kV s i b]=some ([.val true [.d (.int .i64 op),.d (.str t),.row ⟨[],3,false,true,true,false⟩]],[kV s k b'])) :
  G 279 [.str s,.int .i64 (i:Int),.bool b]=some (2,gB ⟨op,t,[]⟩++[.str s,.int .i64 (k:Int),.bool b']):=by
 rw[aF];exact tJ (i:=279) (sg:=⟨279,[.box [.d,.d,.d]],_⟩) (v:=([.val true [.d,.d,.row 3 false true true false]],[.box [.d,.d,.d]])) rfl rfl h rfl rfl
theorem Py(f:Nat->Bool):TK f=TI f:=(rfl)
theorem any_eq:TK (rF 127)=M7:=by
 rw[Py,M7]
 congr 1
 funext x
 simp only[rF]
 congr 1
 apply decide_eq_decide.2
 omega
theorem abD(f:Nat->Bool)(a z:Nat)(l:List (Int×Int)):(λy:Nat=>rg f a z y ||nn l y)=λy=>f y ||nn (((a:Int),(z:Int))::l) y:=Q1 f a z l
def eC(s:ByteArray)(k:Nat)(b:Bool)(n:Int)(f:Nat->Bool):Option (Ex×St):=some (.exit 3,⟨[(0,.ptr 900 0),(2,.ptr 2 0),(3,.ptr 3 0),(6,.d (.int .i64 n)),(51,.d (.bool false))],[(2,sv),(3,bC f),(900,rC s k b)],[]⟩)
theorem N3{s:ByteArray}(hs:s.size<=30):∀(g i n:Nat) (f:Nat->Bool),i<=s.size->s.size+1 - i<=g->n<=i->(n=0->fU s i 93=false)->
  ∃(k:Nat) (b:Bool) (f':Nat->Bool) (n':Int),ev T tv (.loop gh) (Cb s i false n f)=eC s k b n' f'/\i<=k/\k<=s.size/\(match gp s g i with
   |some q=>b=false/\k=q.2/\f'=λy=>f y ||nn q.1 y
   |none=>b=true):=by
 have hm:s.size<=mg:=by simp only[mg];omega
 intro g
 induction g with
 |zero=>intro i n f h1 h2;omega
 |succ g ih=>
  intro i n f hi hg hn h0;cases kj:fU s i 93 with
  |true=>
   have ic:=ll kj;have e:=NM (f:=f) (n:=n) (λh=>by rw[h0 h]at kj;cases kj) (sf (ly (b:=false) hm kj));refine⟨i+1,false,f,n,e,by omega,by omega,?_⟩;have:gp s (g+1) i=some ([],i+1):=by simp only[gp,kj,if_true]
   rw[this];exact⟨rfl,rfl,by funext y;simp[nn]⟩
  |false=>
   have c0:n=0\/dd T 275 [kV s i false,bt 93]=some ([ys false],[kV s i false]):=.inr (sf (lY kj));have hnK:n<=mgK:=by simp only[mgK];omega
   have bad:∀(k a z:Nat),i<=k->k<=s.size->o8 s i=none->ev T tv gh (Cb s i false n f)=some (.norm,Cb s k true (n+1) (rg f a z))->
     ∃(k:Nat) (b:Bool) (f':Nat->Bool) (n':Int),ev T tv (.loop gh) (Cb s i false n f)=eC s k b n' f'/\i<=k/\k<=s.size/\(match gp s (g+1) i with
      |some q=>b=false/\k=q.2/\f'=λy=>f y ||nn q.1 y
      |none=>b=true):=by
    intro k a z k1 k2 hp he;have hx:=Di (s:=s) (i:=(k:Int)) (n:=n+1) (f:=rg f a z);refine⟨k,true,rg f a z,((n+1:Nat):Int),?_,k1,k2,?_⟩
    ·rw[fG,he];exact hx
    ·have:gp s (g+1) i=none:=by simp only[gp,kj,au,if_false,hp]
     rw[this]
   have QB:∀(k a z:Nat) (rs:Int×Int),i < k->k<=s.size->o8 s i=some (rs,k)->rs=((a:Int),(z:Int))->ev T tv gh (Cb s i false n f)=some (.norm,Cb s k false (n+1) (rg f a z))->
     ∃(k:Nat) (b:Bool) (f':Nat->Bool) (n':Int),ev T tv (.loop gh) (Cb s i false n f)=eC s k b n' f'/\i<=k/\k<=s.size/\(match gp s (g+1) i with
      |some q=>b=false/\k=q.2/\f'=λy=>f y ||nn q.1 y
      |none=>b=true):=by
    intro k a z rs k1 k2 hp qX he;obtain⟨k',b',f',n',e1,e2,e3,e4⟩:=ih k (n+1) (rg f a z) k2 (by omega) (by omega) (λh=>by omega);refine⟨k',b',f',n',?_,by omega,e3,?_⟩
    ·rw[fG,he];exact e1
    ·have:gp s (g+1) i=(gp s g k).map λp=>(rs::p.1,p.2):=by simp only[gp,kj,au,if_false,hp]
     rw[this];cases hr:gp s g k with
     |none=>rw[hr]at e4;exact e4
     |some q=>
      rw[hr]at e4;obtain⟨h5,h6,h7⟩:=e4;refine⟨h5,h6,?_⟩;rw[h7,qX];exact abD f a z q.1
   cases hc:xk s i with
   |false=>
    have hp:o8 s i=none:=by
     have LM:(decide (i < s.size) && Jy (da s i))=false:=hc;simp only[o8,LM,au,if_false]
    have f1:=Fy (BE (b:=false) hc);cases ht:fU s i 126 with
    |false=>
     have he:=Av (a:=0) (z0:=0) (f:=f) (i3:=0) (b3:=false) hnK (by decide) (by decide) c0 f1 (sf (lY (b:=true) ht)) (λh=>by cases h);exact bad i 0 0 (aj _) hi hp (by simpa using he)
    |true=>
     have ic:=ll ht;cases nR:xk s (i+1) with
     |false=>
      have he:=Av (a:=0) (z0:=0) (f:=f) hnK (by decide) (by decide) c0 f1 (sf (ly (b:=true) hm ht)) (λ_=>Fy (BE (b:=true) nR));exact bad (i+1) 0 0 (by omega) (by omega) hp (by simpa using he)
     |true=>
      obtain⟨z,hz,QI⟩:=uQ s (i+1);have f3:=Fy (FN (b:=true) hm nR);rw[QI]at f3;have abo:i+1 < s.size:=by simp only[xk,ab,decide_eq_true_eq]at nR;exact nR.1
      have he:=Av (a:=0) (z0:=z) (f:=f) hnK (by decide) hz c0 f1 (sf (ly (b:=true) hm ht)) (λ_=>f3);exact bad (i+1+1) 0 z (by omega) (by omega) hp (by simpa using he)
   |true=>
    obtain⟨a,ha,Tq⟩:=uQ s i;have f1:=Fy (FN (b:=false) hm hc);rw[Tq]at f1;have LM:(decide (i < s.size) && Jy (da s i))=true:=hc;have ic:i < s.size:=by simp only[ab,decide_eq_true_eq]at LM;exact LM.1
    cases ht:fU s (i+1) 126 with
    |false=>
     have he:=Av (a:=a) (z0:=0) (f:=f) (i3:=0) (b3:=false) hnK ha (by decide) c0 f1 (sf (lY (b:=false) ht)) (λh=>by cases h);exact QB (i+1) a a (da s i,da s i) (by omega) (by omega) (by simp only[o8,LM,ht,if_true,au,if_false]) (by rw[Tq]) (by simpa using he)
    |true=>
     have abo:=ll ht;cases nR:xk s (i+1+1) with
     |false=>
      have hp:o8 s i=none:=by
       have Nt:(decide (i+2 < s.size) && Jy (da s (i+2)))=false:=nR;simp only[o8,LM,ht,if_true,<- fW,Nt,df,au,if_false]
      have he:=Av (a:=a) (z0:=0) (f:=f) hnK ha (by decide) c0 f1 (sf (ly (b:=false) hm ht)) (λ_=>Fy (BE (b:=false) nR));exact bad (i+1+1) a 0 (by omega) (by omega) hp (by simpa using he)
     |true=>
      obtain⟨z,hz,QI⟩:=uQ s (i+1+1);have f3:=Fy (FN (b:=false) hm nR);rw[QI]at f3;have Nt:(decide (i+2 < s.size) && Jy (da s (i+2)))=true:=nR;have ait:i+1+1 < s.size:=by simp only[ab,decide_eq_true_eq]at Nt;exact Nt.1
      have he:=Av (a:=a) (z0:=z) (f:=f) hnK ha hz c0 f1 (sf (ly (b:=false) hm ht)) (λ_=>f3);by_cases hza:z < a
      ·have hle:¬da s i<=da s (i+2):=by rw[Tq,QI];omega
       have hp:o8 s i=none:=by simp only[o8,LM,ht,if_true,<- fW,Nt,bU,hle,decide_false,au,if_false]
       exact bad (i+1+1+1) a z (by omega) (by omega) hp (by simpa [hza] using he)
      ·have hle:da s i<=da s (i+2):=by rw[Tq,QI];omega
       exact QB (i+1+1+1) a z (da s i,da s (i+2)) (by omega) (by omega) (by simp only[o8,LM,ht,if_true,<- fW,Nt,bU,hle,decide_true]) (by rw[Tq,QI]) (by simpa [hza] using he)
end
section
def ixB(t:ByteArray)(c:Int):Int:=Lib.indexByte t.data.toList c.toNat.toUInt8
theorem adk(t:ByteArray)(c:Int):G 9002 [.str t,.int .u8 c]=some (0,[.int .i64 (ixB t c)]):=
 tJ (i:=9002) (sg:=⟨9002,[.val false [.d],.val false [.d]],[([.val false [.d]],[])]⟩) (v:=([.val false [.d]],[])) (j:=0) (r:=([.val false [.d (.int .i64 (ixB t c))]],[])) (ws:=[.str t,.int .u8 c]) rfl rfl ((Rv T rfl [.val false [.d (.str t)],.val false [.d (.int .u8 c)]]).trans rfl) rfl rfl
theorem Q6:∀(l:List UInt8) (c:UInt8),-1<=Lib.indexByte l c
 |[],c=>by simp[Lib.indexByte]
 |b::l,c=>by
  have ih:=Q6 l c;simp only[Lib.indexByte];split
  ·omega
  ·split<;>omega
theorem Wu:∀(l:List UInt8) (c:UInt8),decide (0<=Lib.indexByte l c)=l.any λx=>x ==c
 |[],c=>by simp[Lib.indexByte]
 |b::l,c=>by
  have ih:=Wu l c;have key:Lib.indexByte (b::l) c=if (b ==c)=true then 0 else if (Lib.indexByte l c == -1)=true then -1 else Lib.indexByte l c+1:=rfl
  rw[kT,<- ih];have h2:=Q6 l c;by_cases h:(b ==c)=true
  ·rw[h,l6,decide_eq_true_eq,key,if_pos h];exact Int.le_refl 0
  ·rw[cT.2 h,fQ]
   apply decide_eq_decide.2
   rw[key,if_neg h];split
   ·rename_i h1;rw[beq_iff_eq]at h1;omega
   ·rename_i h1;have h3:¬Lib.indexByte l c=-1:=by simpa using h1
    omega
theorem Uw(t:ByteArray){s:ByteArray}{i:Nat}:decide (0<=ixB t (da s i))=hasB t (da s i):=by
 rw[ixB,Wu,cU,ku,hasB,ku];have e0:∀k,da t k=(((t.data.toList)[k]?.getD 0).toNat:Int):=λk=>by
  unfold da
  congr 2
  simp only[Array.getElem?_toList];rfl
 have hb:(da s i).toNat.toUInt8=s[i]?.getD 0:=by unfold da;simp
 have Ap:da s i=((s[i]?.getD 0).toNat:Int):=rfl;rw[hb]
 constructor
 ·rintro⟨x,hx,hxc⟩
  obtain⟨k,hk,hkx⟩:=List.getElem_of_mem hx;refine⟨k,?_,?_⟩
  ·rw[List.mem_range];simpa using hk
  ·rw[decide_eq_true_eq,e0,Ap,iN hk,hkx];rw[beq_iff_eq]at hxc;rw[hxc];rfl
 ·rintro⟨k,hk,hkc⟩
  rw[List.mem_range]at hk;have gf:k < t.data.toList.length:=by simpa using hk
  rw[decide_eq_true_eq,e0,Ap,iN gf]at hkc;refine⟨_,List.getElem_mem gf,?_⟩;rw[beq_iff_eq];simp only[mK]at hkc;exact UInt8.toNat_inj.1 (by omega)
theorem vV:∀(l:List Bool),jq (l.map xR)=some l
 |[]=>rfl
 |b::l=>by
  have:=vV l;simp only[aN,xR,jq,this,aB]
theorem Jt{a b:List Bool}(h:b.length=a.length)(h0:0 < b.length):aK .Q8 [aV a,aV b]=some (aV (cF a b)):=by
 simp only[aK,vV,av,h];rw[if_pos ⟨trivial,trivial,trivial,trivial,λh'=>by rw[List.map_eq_nil_iff]at h';rw[h']at h0;exact absurd h0 (by simp)⟩];rfl
theorem Js(a b:List Bool):aK .Q7 [aV a,aV b]=some (.bool (lg a b)):=by
 simp only[aK,vV]
theorem N5{s t:ByteArray}{a:List Bool}{op ks:D}(hs:s.size<=mg)(ha:a.length=s.size+1) :
  bR (lB G wX) (0,[.str s,aV a,.int .i64 0,op,.str t,ks,aV (aC (s.size+1) false)])=some (0,[.str s,aV a,.int .i64 s.size,.bool false,op,.str t,ks,aV (I8 t s a)]):=by
 have hJ:=Eb t s a;have hl:=Hz (b:=lB G wX) (λi=>(0,[.str s,aV a,.int .i64 (i:Int),op,.str t,ks,aV (jt (I8 t s a) (i+1))])) s.size (fin:=(0,[.str s,aV a,.int .i64 s.size,.bool false,op,.str t,ks,aV (jt (I8 t s a) (s.size+1))])) (by
  intro i hi;have hw:IntKind.i64.wrap ((i:Int)+1)=((i+1:Nat):Int):=Cv (by omega);have h1:nth a i=some (a[i]'(by omega)):=dF (by omega);have h3:=Mu (t:=t) hi h1;have e1:=Lh h1;have QO:i+1 < (jt (I8 t s a) (i+1)).length:=by rw[vb _ _ (by omega)];omega
  have e2:=p9 QO;have e3:=λc=>zH (c:=c) QO;have e4:=wz h3;have e5:=eo s i hi;have e6:=adk t (da s i);have e7:=Uw t (s:=s) (i:=i);generalize (a[i]'(by omega))=x at *;cases x with
  |false=>
   rw[df]at e4;simp only[go_sem,bm,wX,hi,hw,e1,e2,e3,e4]
  |true=>
   rw[bU]at e4;simp only[go_sem,bm,wX,hi,hw,e1,e2,e3,e4,e5,e6,e7]) (by
  simp only[go_sem,bm,wX,aq])
 have h0:jt (I8 t s a) (0+1)=aC (s.size+1) false:=by
  rw[jt,hJ];simp[I8,fp]
 rw[h0,n0]at hl;rw[hl]
 congr 9
 rw[<- hJ,JO]
theorem UM:Rk=qo:=(rfl)
section
variable {s:ByteArray} {k:cx} {f:List Bool->List Bool} (hf:∀x:List Bool,x.length=s.size+1->(f x).length=s.size+1)
 (ih:∀x:List Bool,x.length=s.size+1->G 308 (gB k++[.str s,aV x])=some (0,[aV (f x)]))
include hf ih
theorem N7{t:ByteArray}:∀(m:Nat) (x:List Bool) (h:Nat) (z:D),h < 2->outs x < m->x.length=s.size+1->
  bR (lB G qo) (h,[.str s,z,.int .i64 4,.str t,bJ [k],aV x])=some (0,[.str s,.bool false,.int .i64 4,.str t,bJ [k],aV (yl f m x)]):=by
 intro m
 induction m with
 |zero=>intro x h z h0 h1;omega
 |succ m im=>
  intro x h z h0 h1 hx;have e1:=ih x hx;rw[aF]at e1;simp only[ai,ak]at e1;have hfx:=hf x hx;have e2:=Jt (a:=x) (b:=f x) (by rw[hfx,hx]) (by omega);have e3:=Js x (f x);have hj:=iH x (f x);have e4:=Db x (f x);simp only[yl];by_cases hc:cF x (f x)=x
  ·rw[if_pos hc];rw[decide_eq_true hc,jB]at e4;rw[e4]at e3;rw[hc]at e2;refine bk ?_
   match h,h0 with
   |0,_=>simp only[go_sem,bm,qo,tD,aF k,e1,e2,e3]
   |1,_=>simp only[go_sem,bm,qo,tD,aF k,e1,e2,e3]
  ·rw[if_neg hc];rw[decide_eq_false hc,fX]at e4;rw[e4]at e3;refine (cE (s':=(1,[.str s,.bool true,.int .i64 4,.str t,bJ [k],aV (cF x (f x))])) ?_).trans (im _ 1 (.bool true) (by decide) (by have:=(tZ x (f x)).2 hc;omega) (by rw[hj];exact hx))
   match h,h0 with
   |0,_=>simp only[go_sem,bm,qo,tD,aF k,e1,e2,e3]
   |1,_=>simp only[go_sem,bm,qo,tD,aF k,e1,e2,e3]
theorem N6{t:ByteArray}{x:List Bool}{z:D}(hx:x.length=s.size+1) :
  bR (lB G qo) (0,[.str s,z,.int .i64 5,.str t,bJ [k],aV x])=some (0,[.str s,.bool false,.int .i64 5,.str t,bJ [k],aV (cF x (f x))]):=by
 have e1:=ih x hx;rw[aF]at e1;simp only[ai,ak]at e1;have hfx:=hf x hx;have e2:=Jt (a:=x) (b:=f x) (by rw[hfx,hx]) (by omega);have e3:=Js x (f x);refine bk ?_;cases hg:lg x (f x)<;>rw[hg]at e3<;>simp only[go_sem,bm,qo,tD,aF k,e1,e2,e3]
end
def BO(h:Option D)(s:ByteArray)(l:List cx)(i:Nat)(x:List Bool):Nat×List D:=match h with
 |none=>(0,[.str s,bJ l,.int .i64 l.length,.int .i64 (i:Int),aV x])
 |some z=>(1,[.str s,bJ l,.int .i64 l.length,.int .i64 (i:Int),z,aV x])
def Hw(h:Option D)(s:ByteArray)(l:List cx)(x:List Bool):Nat×List D:=match h with
 |none=>(0,[.str s,bJ l,.int .i64 l.length,.int .i64 l.length,.bool false,aV x])
 |some z=>(1,[.str s,bJ l,.int .i64 l.length,.int .i64 l.length,.bool false,z,aV x])
theorem Dp{s:ByteArray}{l:List cx}{f:cx->List Bool->List Bool}(hl:l.length<=mg)(hf:∀(k:cx) (x:List Bool),x.length=s.size+1->(f k x).length=s.size+1)
  (ih:∀k∈l,∀x:List Bool,x.length=s.size+1->G 308 (gB k++[.str s,aV x])=some (0,[aV (f k x)])):∀(m i:Nat) (x:List Bool) (h:Option D),i+m=l.length->x.length=s.size+1->
  ∃h',bR (lB G wY) (BO h s l i x)=some (Hw h' s l ((l.drop i).foldl (λo k=>f k o) x))
 |0,i,x,h,hi,hx=>by
  obtain rfl:i=l.length:=by omega
  refine⟨h,bk ?_⟩;rw[cC,uG];cases h with
  |none=>simp only[go_sem,bm,wY,BO,Hw,aq]
  |some z=>simp only[go_sem,bm,wY,BO,Hw,aq]
 |m+1,i,x,h,hi,hx=>by
  have hn:nth l i=some (l[i]'(by omega)):=dF (by omega);have h1:i < l.length:=by omega
  have hw:=wj h1 hl;have e1:=ih _ (aT hn) x hx;have e2:=Hg hn;obtain⟨h',hh⟩:=Dp hl hf ih m (i+1) (f (l[i]'(by omega)) x) (some (h.getD (aV x))) (by omega) (hf _ x hx);refine⟨h',(cE (s':=BO (some (h.getD (aV x))) s l (i+1) (f (l[i]'(by omega)) x)) ?_).trans (hh.trans ?_)⟩
  ·generalize (l[i]'(by omega))=k at *;rw[aF]at e1;simp only[ai,ak]at e1;cases h with
   |none=>
    simp only[go_sem,bm,wY,BO,h1,e2,oH];simp only[go_sem,aF k,e1,hw]
   |some z=>
    simp only[go_sem,bm,wY,BO,h1,e2,oH];simp only[go_sem,aF k,e1,hw]
  ·rw[gY l i _ hn,tm]
theorem Zj{s:ByteArray}(hs:s.size<=mg)(n:Nat):∀(p:cx) (a:List Bool),ah p < n->uw 64 p=true->a.length=s.size+1->G 308 (gB p++[.str s,aV a])=some (0,[aV (gE s n p a)]):=by
 induction n with
 |zero=>intro p a h;omega
 |succ n ih=>
  intro p a hz hp ha;have hlen:=pC (s:=s) n;have hk:∀k∈p.kids,∀x:List Bool,x.length=s.size+1->G 308 (gB k++[.str s,aV x])=some (0,[aV (gE s n k x)]):=λk hk x hx=>ih k x (by have:=cx.J7 hk;omega) (zk hp hk) hx;have hw:=Cv hs;have hm:=uT (n:=s.size+1) (by simp only[mg]at hs;omega);have xX:=zm hp;have hc:=Pu (l:=aC (s.size+1) false) (m:=a) (by simpa using ha);refine cq aeQ (by rw[aF];rfl) ?_;simp only[gE];unfold Hj;by_cases o1:p.op=1
  ·have hl:=N5 (s:=s) (t:=p.text) (a:=a) (op:=.int .i64 1) (ks:=bJ p.kids) hs ha;rw[if_pos o1];simp only[go_sem,hw,hm,Cy,aF p,o1,hl]
  rw[if_neg o1];by_cases o2:p.op=2
  ·rw[if_pos o2];obtain⟨h',hl⟩:=Dp (s:=s) (l:=p.kids) (f:=gE s n) (by simp only[mg];omega) hlen hk p.kids.length 0 a none (by omega) ha;rw[aX]at hl;simp only[BO,n0]at hl;cases h' with
   |none=>
    simp only[Hw]at hl;simp only[go_sem,hw,hm,hc,Cy,aF p,o2,hl]
   |some z=>
    simp only[Hw]at hl;simp only[go_sem,hw,hm,hc,Cy,aF p,o2,hl]
  rw[if_neg o2];by_cases o3:p.op=3
  ·rw[if_pos o3];have hl:=eB (b:=lB G Fk) p.kids (λi (x:List Bool)=>(0,[.str s,aV a,bJ p.kids,.int .i64 p.kids.length,.int .i64 (i:Int),aV x])) (λi=>(p.kids.take i).foldl (λo k=>cF o (gE s n k a)) (aC (s.size+1) false)) (0,[.str s,aV a,bJ p.kids,.int .i64 p.kids.length,.int .i64 p.kids.length,.bool false,aV (p.kids.foldl (λo k=>cF o (gE s n k a)) (aC (s.size+1) false))]) (by
    intro i k hn;have hi:=aR hn;have hwi:=wj (i:=i) (n:=p.kids.length) hi (by simp only[mg];omega);have e1:=hk k (aT hn) a ha;have sR:=wD (s:=s) (g:=λk=>gE s n k a) (p.kids.take i) (aC (s.size+1) false) (by simp);have e2:=Jt (a:=(p.kids.take i).foldl (λo k=>cF o (gE s n k a)) (aC (s.size+1) false)) (b:=gE s n k a) (by rw[hlen k a ha,sR]) (by rw[hlen k a ha];omega);have e3:=Js ((p.kids.take i).foldl (λo k=>cF o (gE s n k a)) (aC (s.size+1) false)) (gE s n k a);rw[aF]at e1;simp only[ai,ak]at e1;rw[tT _ _ _ _ _ hn];simp only[go_sem,bm,Fk,hi,Hg hn,oH];simp only[go_sem,aF k,e1,e2,e3,hwi]) (by
    rw[aW];simp only[go_sem,bm,Fk,aq]) p.kids.length 0 (by omega)
   rw[n0,bg,uG]at hl;simp only[go_sem,hw,hm,Cy,aF p,o3,hl]
  rw[if_neg o3];by_cases o4:p.op=4
  ·rw[if_pos o4];have o5:¬(4:Int)=5:=by decide
   by_cases h1:p.kids.length=1
   ·obtain⟨k,Cs⟩:=cJ.1 h1;have pq:=N7 (t:=p.text) (hlen k) (λx hx=>hk k (by rw[Cs];simp) x hx) (s.size+2) a 0 (.bool false) (by decide) (by have:=FK a;omega) ha;rw[Cs,FI];simp only[go_sem,hw,hm,hc,Cy,aF p,o4,o5,Cs,UM,pq]
   ·rw[FJ h1];have h2:=UZ h1;simp only[go_sem,hw,hm,hc,Cy,aF p,o4,o5,h2]
  rw[if_neg o4];by_cases o5:p.op=5
  ·rw[if_pos o5];by_cases h1:p.kids.length=1
   ·obtain⟨k,Cs⟩:=cJ.1 h1;have pq:=N6 (t:=p.text) (z:=.bool false) (hlen k) (λx hx=>hk k (by rw[Cs];simp) x hx) ha;rw[Cs,FI];simp only[go_sem,hw,hm,hc,Cy,aF p,o5,Cs,pq]
   ·rw[FJ h1];have h2:=UZ h1;simp only[go_sem,hw,hm,hc,Cy,aF p,o5,h2]
  rw[if_neg o5];simp only[go_sem,hw,hm,Cy,aF p,o1,o2,o3,o4,o5]
theorem ahZ{s:ByteArray}{p:cx}(hs:s.size<=mg)(hp:uw 64 p=true):G 309 (gB p++[.str s])=some (0,[.bool (Kb p s)]):=by
 have hw:=Cv hs;have hm:=uT (n:=s.size+1) (by simp only[mg]at hs;omega);have h1:=Zj hs (ah p+1) p (true::aC s.size false) (aM _) hp (by simp);have hl:=pC (s:=s) (ah p+1) p (true::aC s.size false) (by simp);rw[aF]at h1;simp only[ai,ak]at h1;have e1:=p9 (l:=aC (s.size+1) false) (i:=0) (by simp);have e2:=zH (l:=aC (s.size+1) false) (i:=0) (c:=true) (by simp);have e3:(aC (s.size+1) false).set 0 true=true::aC s.size false:=by rw[fp];rfl
 rw[e3]at e2;rw[n0]at e1 e2;have e4:=p9 (l:=gE s (ah p+1) p (true::aC s.size false)) (i:=s.size) (by rw[hl];omega);obtain⟨b,hb⟩:∃b,nth (gE s (ah p+1) p (true::aC s.size false)) s.size=some b:=⟨_,dF (by rw[hl];omega)⟩
 have e5:=zG hb;refine cq aeR (by rw[aF];rfl) ?_;have e6:Kb p s=b:=by rw[Kb,hb];rfl
 rw[e6];generalize gE s (ah p+1) p (true::aC s.size false)=z at *;simp only[go_sem,afE,aF p,hw,hm,e1,e2,h1,e4,e5]
end
section
section
variable {s:ByteArray} {alt:Nat->PR}
theorem ahU(tn:s.size<=30){i:Nat}(hi:i < s.size)(hA:∀j,i < j->j<=s.size->zA 280 s j 0 2 false (alt j)):zA 279 s i 1 3 false (tH alt s i):=by
 have hs:s.size<=mg:=by simp only[mg];omega
 unfold tH;cases h40:fU s i 40 with
 |true=>
  have f1:=sf (ly (b:=false) hs h40);obtain⟨j,p,k,b,hj,hg,p1,p2,p3,p4⟩:=hA (i+1) (by omega) (by omega);rw[if_pos rfl];cases T5:fU s k 41 with
  |true=>
   have f3:=sf (ly (b:=b) hs T5);have hk:=ll T5;have hP:PA s i 1 (match alt (i+1) with
     |some (p,j)=>if fU s j 41=true then some (p,j+1) else none
     |none=>none) p (k+1) b:=by
    refine⟨p1,by omega,by omega,?_⟩;cases hr:alt (i+1) with
    |none=>rw[hr]at p4;exact p4
    |some q=>
     rw[hr]at p4;obtain⟨h5,rfl,p5⟩:=p4;simp only[T5,if_true];exact⟨h5,trivial,by omega⟩
   match j,hj with
   |0,_=>
    have:=EH (.inl ⟨_,rfl⟩) f1 (Rz hg) f3;rw[jB,iM]at this;exact⟨0,p,k+1,b,by decide,Qx this,hP⟩
   |1,_=>
    have:=EH (.inr ⟨_,rfl⟩) f1 (RA hg) f3;rw[jB,iM]at this;exact⟨1,p,k+1,b,by decide,Qy this,hP⟩
  |false=>
   have f3:=sf (lY (b:=b) T5);have hP:PA s i 1 (match alt (i+1) with
     |some (p,j)=>if fU s j 41=true then some (p,j+1) else none
     |none=>none) p k true:=by
    refine⟨p1,by omega,p3,?_⟩;cases hr:alt (i+1) with
    |none=>rfl
    |some q=>
     rw[hr]at p4;obtain⟨h5,rfl,p5⟩:=p4;simp only[T5,au,if_false]
   match j,hj with
   |0,_=>
    have:=EH (.inl ⟨_,rfl⟩) f1 (Rz hg) f3;rw[fX,jo]at this;exact⟨0,p,k,true,by decide,Qx this,hP⟩
   |1,_=>
    have:=EH (.inr ⟨_,rfl⟩) f1 (RA hg) f3;rw[fX,jo]at this;exact⟨1,p,k,true,by decide,Qy this,hP⟩
 |false=>
  have f1:=sf (lY (b:=false) h40);rw[if_neg cj];cases V8:fU s i 46 with
  |true=>
   have f3:=sf (ly (b:=false) hs V8);have XA:fU s i 91=false:=by
    rw[cT];intro h;have a1:=(ko.1 h).2;have a2:=(ko.1 V8).2;omega
   have:=Yk f1 f3;rw[any_eq]at this;rw[XA,if_neg cj,if_pos rfl];exact⟨2,⟨1,M7,[]⟩,i+1,false,by decide,wE this,jf _ _ (vX _),by omega,by omega,rfl,rfl,by omega⟩
  |false=>
   have f3:=sf (lY (b:=false) V8);cases XA:fU s i 91 with
   |true=>
    have f2:=sf (ly (b:=false) hs XA);rw[if_pos rfl];cases kj:fU s (i+1) 93 with
    |false=>
     obtain⟨k,b,f',n',e1,e2,e3,e4⟩:=N3 tn (s.size+1) (i+1) 0 (λ_=>false) (by omega) (by omega) (by omega) (λ_=>kj);have:=Q9 f1 f3 f2 e1;refine⟨2,⟨1,TK f',[]⟩,k,b,by decide,wE this,jf _ _ (vX _),by omega,e3,?_⟩;unfold Iz;cases hr:gp s (s.size+1) (i+1) with
     |none=>rw[hr]at e4;exact e4
     |some q=>
      obtain⟨l,k0⟩:=q;rw[hr]at e4;obtain⟨h5,h6,h7⟩:=e4;dsimp only at h6;subst h5 h6;cases l with
      |nil=>
       exfalso
       simp only[gp,kj,au,if_false]at hr
       split at hr
       ·obtain⟨p,_,h⟩:=ad.1 hr;simp at h
       ·cases hr
      |cons r l=>
       have hf:TK f'=Zs (r::l):=by
        rw[Py,Zs,h7]
        congr 1
       rw[hf];exact⟨rfl,rfl,by omega⟩
    |true=>
     obtain⟨Wh,hb3⟩:=ko.1 kj;have hc:xk s (i+1)=false:=by
      simp only[xk,hb3];rw[Bool.and_eq_false_iff];exact .inr (by decide)
     have ht:fU s (i+1) 126=false:=by
      rw[cT];intro h;have a1:=(ko.1 h).2;omega
     have he:=Av (a:=0) (z0:=0) (f:=λ_=>false) (i3:=0) (b3:=false) (n:=0) (by decide) (by decide) (by decide) (.inl rfl) (Fy (BE (b:=false) hc)) (sf (lY (b:=true) ht)) (λh=>by cases h);have hx:=Di (s:=s) (i:=((i+1:Nat):Int)) (n:=1) (f:=rg (λ_=>false) 0 0);have hl:ev T tv (.loop gh) (Cb s ((i+1:Nat):Int) false 0 λ_=>false)=some (.exit 3,⟨[(0,.ptr 900 0),(2,.ptr 2 0),(3,.ptr 3 0),(6,.d (.int .i64 ((1:Nat):Int))),(51,.d (.bool false))],[(2,sv),(3,bC (rg (λ_=>false) 0 0)),(900,rC s ((i+1:Nat):Int) true)],[]⟩):=by
      rw[fG,he];exact hx
     have:=Q9 f1 f3 f2 hl;refine⟨2,⟨1,TK _,[]⟩,i+1,true,by decide,wE this,jf _ _ (vX _),by omega,by omega,?_⟩;have hr:gp s (s.size+1) (i+1)=some ([],i+1+1):=by simp only[gp,kj,if_true]
     have:Iz s (i+1)=none:=by rw[Iz,hr]
     rw[this]
   |false=>
    have f2:=sf (lY (b:=false) XA);rw[if_neg cj,if_neg cj];cases hc:xk s i with
    |false=>
     have:=Q_ f1 f3 f2 (Fy (BE (b:=false) hc));have hp:(decide (i < s.size) && YC (da s i))=false:=by
      simp only[xk,hi,decide_true,bU,Jy]at hc;simp only[hi,decide_true,bU,YC];generalize ff 97 122 (da s i)=x at *;generalize ff 48 57 (da s i)=y at *;generalize decide (da s i=45)=z at *;cases x<;>cases y<;>cases z<;>simp_all
     rw[hp,if_neg cj];exact⟨2,⟨1,_,[]⟩,i,true,by decide,wE this,jf _ _ (by decide),by omega,by omega,rfl⟩
    |true=>
     have:=Q_ f1 f3 f2 (Fy (FN (b:=false) hs hc));have abc:¬da s i=46:=λh=>by rw[ko.2 ⟨hi,h⟩]at V8;cases V8
     have e1:([cL (da s i).toNat].toArray:Array UInt8)=(Bu (da s i)).data:=rfl;have sz1:(Bu (da s i)).size<=256:=by rw[Bu,ot];simp
     have hp:(decide (i < s.size) && YC (da s i))=!decide (da s i=95):=by
      simp only[xk,hi,decide_true,bU,Jy]at hc;simp only[hi,decide_true,bU,YC];by_cases JS:da s i=95
      ·rw[JS];decide
      ·simp only[JS,abc,decide_false,fQ,iM]at hc;rw[hc];simp[JS]
     rw[hp];by_cases JS:da s i=95
     ·rw[decide_eq_true JS,l6,jo]at this;rw[decide_eq_true JS,jB,if_neg cj];exact⟨2,⟨1,Bu (da s i),[]⟩,i+1,true,by decide,wE this,jf _ _ sz1,by omega,by omega,rfl⟩
     ·rw[decide_eq_false JS,decide_eq_false abc,iM,iM]at this;rw[decide_eq_false JS,fX,if_pos rfl];exact⟨2,⟨1,Bu (da s i),[]⟩,i+1,false,by decide,wE this,jf _ _ sz1,by omega,by omega,rfl,rfl,by omega⟩
theorem ahW(tn:s.size<=30){i:Nat}(agm:zA 279 s i 1 3 false (tH alt s i)):zA 282 s i 1 4 false (pP alt s i):=by
 have hs:s.size<=mg:=by simp only[mg];omega
 obtain⟨j,p,k,b,hj,hg,p1,p2,p3,p4⟩:=agm;simp only[aF,ai,ak]at hg;have q1:=ahV p1;rw[aF]at q1;have g1:=MD (n:=64) (by decide) (s:=s) k p1;have g2:=MB s p k;have hP:PA s i 1 (pP alt s i) (BA s p k).1 (BA s p k).2 b:=by
  refine⟨g1,by omega,g2.2 p3,?_⟩;unfold pP;cases hr:tH alt s i with
  |none=>rw[hr]at p4;exact p4
  |some q=>
   rw[hr]at p4;obtain⟨h5,rfl,p5⟩:=p4;exact⟨h5,rfl,by omega⟩
 unfold BA at hP;cases c1:fU s k 42 with
 |true=>
  have f2:=ly (b:=b) hs c1;rw[c1,if_pos rfl]at hP
  match j,hj with
  |0,_=>exact⟨0,_,_,b,by decide,cq xw rfl (by simp only[go_sem,hg,q9,og,P1,bO,eT,xB,f2,aF]),hP⟩
  |1,_=>exact⟨0,_,_,b,by decide,cq xw rfl (by simp only[go_sem,hg,og,P1,bO,eT,xB,f2,aF]),hP⟩
  |2,_=>exact⟨3,_,_,b,by decide,cq xw rfl (by simp only[go_sem,hg,GA,og,P1,bO,eT,xB,f2,aF]),hP⟩
 |false=>
  have f2:=lY (b:=b) c1;rw[c1,if_neg cj]at hP;cases c2:fU s k 43 with
  |true=>
   have f3:=ly (b:=b) hs c2;rw[c2,if_pos rfl]at hP
   match j,hj with
   |0,_=>exact⟨0,_,_,b,by decide,cq xw rfl (by simp only[go_sem,hg,q9,og,Og,P1,P2,q1,bO,eT,xB,f2,f3,aF]),hP⟩
   |1,_=>exact⟨0,_,_,b,by decide,cq xw rfl (by simp only[go_sem,hg,q9,og,Og,P1,P2,q1,bO,eT,xB,f2,f3,aF]),hP⟩
   |2,_=>exact⟨0,_,_,b,by decide,cq xw rfl (by simp only[go_sem,hg,q9,og,Og,P1,P2,q1,bO,eT,xB,f2,f3,aF]),hP⟩
  |false=>
   have f3:=lY (b:=b) c2;rw[c2,if_neg cj]at hP;cases c3:fU s k 63 with
   |true=>
    have f5:=ly (b:=b) hs c3;rw[c3,if_pos rfl]at hP
    match j,hj with
    |0,_=>exact⟨0,_,_,b,by decide,cq xw rfl (by simp only[go_sem,hg,q9,og,P1,bO,eT,xB,f2,f3,f5,aF]),hP⟩
    |1,_=>exact⟨0,_,_,b,by decide,cq xw rfl (by simp only[go_sem,hg,og,P1,bO,eT,xB,f2,f3,f5,aF]),hP⟩
    |2,_=>exact⟨3,_,_,b,by decide,cq xw rfl (by simp only[go_sem,hg,GA,og,P1,bO,eT,xB,f2,f3,f5,aF]),hP⟩
   |false=>
    have f5:=lY (b:=b) c3;rw[c3,if_neg cj]at hP
    match j,hj with
    |0,_=>exact⟨1,_,_,b,by decide,cq xw rfl (by simp only[go_sem,hg,xB,f2,f3,f5,aF]),hP⟩
    |1,_=>exact⟨2,_,_,b,by decide,cq xw rfl (by simp only[go_sem,hg,xB,f2,f3,f5,aF]),hP⟩
    |2,_=>exact⟨3,_,_,b,by decide,cq xw rfl (by simp only[go_sem,hg,xB,f2,f3,f5,aF]),hP⟩
end
end
section
section
variable {s:ByteArray} {alt:Nat->PR}
theorem N4(tn:s.size<=30){i:Nat}{l:List cx}(hl:l.length<=100)(hM:su s i=true)(agn:zA 282 s i 1 4 false (pP alt s i)) :
  ∃(p:cx) (k:Nat) (b:Bool),lB G lT (0,[.int .i64 0,.str ⟨#[]⟩,.str s,.int .i64 (i:Int),.bool false,bJ l])=some (.go (0,[.int .i64 0,.str ⟨#[]⟩,.str s,.int .i64 (k:Int),.bool b,bJ (l++[p])]))/\PA s i 1 (pP alt s i) p k b:=by
 have yV:l.length<=mg:=by simp only[mg];omega
 simp only[su,ab,decide_eq_true_eq,ck,decide_eq_false_iff_not]at hM;obtain⟨hi,m1,m2⟩:=hM;have f4:=eo s i hi;have fa:=λop t ks=>D6 yV op t ks;obtain⟨j,p,k,b,hj,hg,hP⟩:=agn;simp only[aF,ai,ak]at hg;refine⟨p,k,b,?_,hP⟩
 match j,hj with
 |0,_=>simp only[go_sem,hi,m1,m2,f4,hg,og,fa,bO,bm,lT]
 |1,_=>simp only[go_sem,hi,m1,m2,f4,hg,q9,og,fa,bO,bm,lT]
 |2,_=>simp only[go_sem,hi,m1,m2,f4,hg,og,fa,bO,bm,lT]
 |3,_=>simp only[go_sem,hi,m1,m2,f4,hg,GA,og,fa,bO,bm,lT]
theorem UK(tn:s.size<=30){i0:Nat}(hA:∀j,i0 < j->j<=s.size->zA 280 s j 0 2 false (alt j)):∀(g i:Nat) (l:List cx),i0<=i->i<=s.size->s.size+1 - i<=g->TD l i->
  ∃(l':List cx) (k:Nat) (b:Bool),bR (lB G lT) (0,[.int .i64 0,.str ⟨#[]⟩,.str s,.int .i64 (i:Int),.bool false,bJ l])=some (0,[.bool false,.int .i64 0,.str ⟨#[]⟩,.str s,.int .i64 (k:Int),.bool b,bJ l'])/\Z8 i s l (sr alt s g i) l' k b:=by
 have hs:s.size<=mg:=by simp only[mg];omega
 intro g
 induction g with
 |zero=>intro i l _ h1 h2;omega
 |succ g ih=>
  intro i l h0 h1 h2 hl;simp only[sr];cases hM:su s i with
  |false=>
   simp only[au,if_false];refine⟨l,i,false,bk ?_,⟨by have:=hl.1;omega,hl.2⟩,aj _,h1,rfl,by rw[aD],rfl⟩;by_cases hi:i < s.size
   ·have f4:=eo s i hi;simp only[su,hi,decide_true,bU]at hM;by_cases m1:da s i=124
    ·simp only[go_sem,bm,lT,hi,m1,f4]
    ·have m2:da s i=41:=by
      by_cases m2:da s i=41
      ·exact m2
      ·simp[m1,m2]at hM
     have m3:¬(41:Int)=124:=by decide
     simp only[go_sem,bm,lT,hi,m2,m3,f4]
   ·simp only[go_sem,bm,lT,hi]
  |true=>
   have hi:i < s.size:=by simp only[su,ab,decide_eq_true_eq]at hM;exact hM.1
   simp only[if_true];obtain⟨p,k,b,e1,p1,p2,p3,p4⟩:=N4 tn (l:=l) (by have:=hl.1;omega) hM (ahW tn (ahU tn hi λj hj LP=>hA j (by omega) LP));cases hr:pP alt s i with
   |none=>
    rw[hr]at p4;subst p4;refine⟨l++[p],k,true,(cE e1).trans (bk ?_),nh (n:=30) ⟨by have:=hl.1;omega,hl.2⟩ p1 (by decide),p2,p3,rfl⟩;simp only[go_sem,bm,lT]
   |some q=>
    rw[hr]at p4;obtain⟨rfl,rfl,p5⟩:=p4;obtain⟨l',k',b',e2,e3⟩:=ih k (l++[p]) (by omega) p3 (by omega) (nh hl p1 (by omega));exact⟨l',k',b',(cE e1).trans e2,uN (by omega) e3⟩
theorem ac5(tn:s.size<=30){i:Nat}(h1:i<=s.size)(hA:∀j,i < j->j<=s.size->zA 280 s j 0 2 false (alt j)):zA 283 s i 0 2 false (yF alt s i):=by
 obtain⟨l',k,b,e1,e2,e3,e4,e5⟩:=UK tn hA (s.size+1) i [] (aj _) h1 (by omega) ⟨by simp,by simp⟩;have m0:aK (.eg 3 false) []=some (bJ []):=th 3 false;have hP:PA s i 0 (yF alt s i) (pS 2 l') k b:=by
  refine⟨sE (by have:=e2.1;omega) e2.2,e3,e4,?_⟩;unfold yF;cases hr:sr alt s (s.size+1) i with
  |none=>rw[hr]at e5;exact e5
  |some q=>
   rw[hr]at e5;obtain⟨h5,h6,h7⟩:=e5;subst h6 h7;exact⟨h5,rfl,by omega⟩
 by_cases hl:l'.length=1
 ·obtain⟨p,rfl⟩:=cJ.1 hl;have hw:pS 2 [p]=p:=rfl;rw[hw]at hP;refine⟨0,p,k,b,by decide,cq Vp rfl ?_,hP⟩;simp only[go_sem,VG,m0,e1,CY,CQ,aF p]
 ·rw[Gk hl]at hP;refine⟨1,_,k,b,by decide,cq Vp rfl ?_,hP⟩;simp only[go_sem,VG,m0,e1,Du,hl,aF,eT]
theorem Zi{i:Nat}(h1:i<=s.size):zA 283 s i 0 2 true none:=by
 have m0:aK (.eg 3 false) []=some (bJ []):=th 3 false;have hl:bR (lB G lT) (0,[.int .i64 0,.str ⟨#[]⟩,.str s,.int .i64 (i:Int),.bool true,bJ []])=some (0,[.bool false,.int .i64 0,.str ⟨#[]⟩,.str s,.int .i64 (i:Int),.bool true,bJ []]):=by
  refine bk ?_;simp only[go_sem,bm,lT]
 refine⟨1,⟨2,eT,[]⟩,i,true,by decide,cq Vp rfl ?_,ux xS (by simp) (by simp),aj _,h1,rfl⟩;simp only[go_sem,VG,n0,m0,hl,aF,eT]
theorem HT(tn:s.size<=30):∀(g i:Nat) (l:List cx),i<=s.size->s.size+1 - i<=g->TD l (i+2)->
  ∃(l':List cx) (k:Nat),bR (lB G mR) (0,[.int .i64 0,.str ⟨#[]⟩,.str s,.int .i64 (i:Int),.bool true,bJ l])=some (0,[.bool false,.int .i64 0,.str ⟨#[]⟩,.str s,.int .i64 (k:Int),.bool true,bJ l'])/\TD l' 40/\i<=k/\k<=s.size:=by
 have hs:s.size<=mg:=by simp only[mg];omega
 intro g
 induction g with
 |zero=>intro i l h1 h2;omega
 |succ g ih=>
  intro i l h1 h2 hl;cases hM:fU s i 124 with
  |false=>
   have f1:=lY (b:=true) hM;exact⟨l,i,bk (by simp only[go_sem,bm,mR,f1]),⟨by have:=hl.1;omega,hl.2⟩,aj _,h1⟩
  |true=>
   have f1:=ly (b:=true) hs hM;have hi:=ll hM;have yV:l.length<=mg:=by have:=hl.1;simp only[mg];omega
   have fa:=λop t ks=>D6 yV op t ks;obtain⟨j,p,k,b,hj,hg,p1,p2,p3,p4⟩:=Zi (s:=s) (i:=i+1) (by omega);simp only[aF,ai,ak]at hg;have p4':b=true:=p4;subst p4';have go:lB G mR (0,[.int .i64 0,.str ⟨#[]⟩,.str s,.int .i64 (i:Int),.bool true,bJ l])=some (.go (0,[.int .i64 0,.str ⟨#[]⟩,.str s,.int .i64 (k:Int),.bool true,bJ (l++[p])])):=by
    match j,hj with
    |0,_=>simp only[go_sem,bm,mR,f1,hg,q9,og,fa,bO]
    |1,_=>simp only[go_sem,bm,mR,f1,hg,og,fa,bO]
   obtain⟨l',k',e1,e2,e3,e4⟩:=ih k (l++[p]) p3 (by omega) (nh hl p1 (by omega));exact⟨l',k',(cE go).trans e1,e2,by omega,e4⟩
theorem UJ(tn:s.size<=30){i0:Nat}(hA:∀j,i0 < j->j<=s.size->zA 280 s j 0 2 false (alt j)):∀(g i:Nat) (l:List cx),i0<=i->i<=s.size->s.size+1 - i<=g->TD l (i+1)->
  ∃(l':List cx) (k:Nat) (b:Bool),bR (lB G mR) (0,[.int .i64 0,.str ⟨#[]⟩,.str s,.int .i64 (i:Int),.bool false,bJ l])=some (0,[.bool false,.int .i64 0,.str ⟨#[]⟩,.str s,.int .i64 (k:Int),.bool b,bJ l'])/\Z8 i s l (yd alt s g i) l' k b:=by
 have hs:s.size<=mg:=by simp only[mg];omega
 intro g
 induction g with
 |zero=>intro i l _ h1 h2;omega
 |succ g ih=>
  intro i l h0 h1 h2 hl;simp only[yd];cases hM:fU s i 124 with
  |false=>
   have f1:=lY (b:=false) hM;simp only[au,if_false];refine⟨l,i,false,bk ?_,⟨by have:=hl.1;omega,hl.2⟩,aj _,h1,rfl,by rw[aD],rfl⟩;simp only[go_sem,bm,mR,f1]
  |true=>
   have f1:=ly (b:=false) hs hM;have hi:=ll hM;have yV:l.length<=mg:=by have:=hl.1;simp only[mg];omega
   have fb:=λx=>Pd yV x;have fa:=λop t ks=>D6 yV op t ks;simp only[if_true];obtain⟨j,p,k,b,hj,hg,p1,p2,p3,p4⟩:=ac5 tn (i:=i+1) (by omega) λj hj LP=>hA j (by omega) LP;simp only[aF,ai,ak]at hg;have go:lB G mR (0,[.int .i64 0,.str ⟨#[]⟩,.str s,.int .i64 (i:Int),.bool false,bJ l])=some (.go (0,[.int .i64 0,.str ⟨#[]⟩,.str s,.int .i64 (k:Int),.bool b,bJ (l++[p])])):=by
    match j,hj with
    |0,_=>simp only[go_sem,bm,mR,f1,hg,q9,og,fa,bO]
    |1,_=>simp only[go_sem,bm,mR,f1,hg,og,fa,bO]
   cases hr:yF alt s (i+1) with
   |none=>
    rw[hr]at p4;subst p4;obtain⟨l',k',e1,e2,e3,e4⟩:=HT tn (s.size+1) k (l++[p]) p3 (by omega) (nh hl p1 (by omega));exact⟨l',k',true,(cE go).trans e1,e2,by omega,e4,rfl⟩
   |some q=>
    rw[hr]at p4;obtain⟨rfl,rfl,p5⟩:=p4;obtain⟨l',k',b',e2,e3⟩:=ih k (l++[p]) (by omega) p3 (by omega) (nh hl p1 (by omega));exact⟨l',k',b',(cE go).trans e2,uN (by omega) e3⟩
theorem Zg(tn:s.size<=30){i:Nat}(h1:i<=s.size)(hA:∀j,i < j->j<=s.size->zA 280 s j 0 2 false (alt j)):zA 280 s i 0 2 false (Bz alt s i):=by
 obtain⟨j,p,k,b,hj,hg,p1,p2,p3,p4⟩:=ac5 tn h1 hA;simp only[aF,ai,ak]at hg;have he:∃(l':List cx) (k':Nat) (b':Bool),bR (lB G mR) (0,[.int .i64 0,.str ⟨#[]⟩,.str s,.int .i64 (k:Int),.bool b,bJ [p]])=some (0,[.bool false,.int .i64 0,.str ⟨#[]⟩,.str s,.int .i64 (k':Int),.bool b',bJ l'])/\PA s i 0 (Bz alt s i) (pS 3 l') k' b':=by
  unfold Bz;cases hr:yF alt s i with
  |none=>
   rw[hr]at p4;subst p4;obtain⟨l',k',e1,e2,e3,e4⟩:=HT tn (s.size+1) k [p] p3 (by omega) ⟨by simp,by simpa using p1⟩;exact⟨l',k',true,e1,sE (by have:=e2.1;omega) e2.2,by omega,e4,rfl⟩
  |some q=>
   rw[hr]at p4;obtain⟨rfl,rfl,p5⟩:=p4;obtain⟨l',k',b',e1,e2,e3,e4,e5⟩:=UJ tn hA (s.size+1) k [p] p2 p3 (by omega) ⟨by simp,by simpa using p1⟩;refine⟨l',k',b',e1,sE (by have:=e2.1;omega) e2.2,by omega,e4,?_⟩;dsimp only;cases EF:yd alt s (s.size+1) k with
   |none=>rw[EF]at e5;exact e5
   |some q=>
    rw[EF]at e5;obtain⟨h5,h6,h7⟩:=e5;subst h6 h7;exact⟨h5,rfl,by omega⟩
 obtain⟨l',k',b',e1,hP⟩:=he;have hg':∀(t:Nat×List D) (h:dL G (OB) 0 [.str s,.int .i64 (i:Int),.bool false]=some t),True:=λ_ _=>trivial;by_cases hl:l'.length=1
 ·obtain⟨q,rfl⟩:=cJ.1 hl;have hw:pS 3 [q]=q:=rfl;rw[hw]at hP;refine⟨0,q,k',b',by decide,cq ZA rfl ?_,hP⟩
  match j,hj with
  |0,_=>simp only[go_sem,OB,hg,q9,og,P1,bO,e1,CY,CQ,aF q]
  |1,_=>simp only[go_sem,OB,hg,og,P1,bO,e1,CY,CQ,aF q]
 ·rw[Gk hl]at hP;refine⟨1,_,k',b',by decide,cq ZA rfl ?_,hP⟩
  match j,hj with
  |0,_=>simp only[go_sem,OB,hg,q9,og,P1,bO,e1,Du,hl,aF,eT]
  |1,_=>simp only[go_sem,OB,hg,og,P1,bO,e1,Du,hl,aF,eT]
theorem RU(tn:s.size<=30):∀(g i:Nat),i<=s.size->s.size+1 - i<=g->zA 280 s i 0 2 false (Oo s g i)
 |0,i,h1,h2=>by omega
 |g+1,i,h1,h2=>Zg tn h1 λj hj LP=>RU tn g j LP (by omega)
end
theorem ac6{s:ByteArray}:∃j p,j < 3/\G 284 [.str s]=some (j,gB p++[.bool (lp s)])/\∀q,ye s=some q->p=q/\uw 64 p=true:=by
 unfold lp ye;by_cases h:30 < s.size
 ·refine⟨0,⟨0,eT,[]⟩,by decide,cq Sa rfl ?_,λq hq=>by rw[if_pos h]at hq;cases hq⟩;rw[if_pos h];simp only[go_sem,IS,ve,h,aF,ej];rfl
 ·rw[if_neg h];obtain⟨j,p,k,b,hj,hg,p1,p2,p3,p4⟩:=RU (s:=s) (by omega) (s.size+1) 0 (by omega) (by omega);simp only[aF,ai,ak,n0]at hg;cases hr:Oo s (s.size+1) 0 with
  |none=>
   rw[hr]at p4;subst p4;refine⟨0,⟨0,eT,[]⟩,by decide,cq Sa rfl ?_,λq hq=>by cases hq⟩
   match j,hj with
   |0,_=>simp only[go_sem,IS,ve,h,hg,aF,ej];rfl
   |1,_=>simp only[go_sem,IS,ve,h,hg,aF,ej];rfl
  |some q=>
   rw[hr]at p4;obtain⟨rfl,rfl,p5⟩:=p4;dsimp only;by_cases hk:k=s.size
   ·rw[if_pos hk];refine⟨j+1,p,by omega,cq Sa rfl ?_,λq hq=>by cases hq;exact⟨rfl,p1⟩⟩
    match j,hj with
    |0,_=>simp only[go_sem,IS,ve,h,hg,hk,aF,gR]
    |1,_=>simp only[go_sem,IS,ve,h,hg,hk,aF,gR]
   ·rw[if_neg hk];refine⟨0,⟨0,eT,[]⟩,by decide,cq Sa rfl ?_,λq hq=>by cases hq⟩
    match j,hj with
    |0,_=>simp only[go_sem,IS,ve,Mr,h,hg,hk,aF,ej];rfl
    |1,_=>simp only[go_sem,IS,ve,Mr,h,hg,hk,aF,ej];rfl
theorem ac7(s:ByteArray):G 285 [.str s]=some (0,[.bool (lp s)]):=by
 obtain⟨j,p,hj,hg,_⟩:=ac6 (s:=s);simp only[aF,ai,ak]at hg;refine cq aeL rfl ?_
 match j,hj with
 |0,_=>simp only[go_sem,VH,hg]
 |1,_=>simp only[go_sem,VH,hg]
 |2,_=>simp only[go_sem,VH,hg]
theorem ac_{t s:ByteArray}(hs:s.size<=mg):G 310 [.str t,.str s]=some (0,[.bool (FC t s)]):=by
 obtain⟨j,p,hj,hg,hq⟩:=ac6 (s:=t);simp only[aF,ai,ak]at hg;have DL:∀b,aK .pl [.bool b]=some (.bool false):=λb=>rfl;refine cq aeS rfl ?_;unfold FC;cases hp:ye t with
 |none=>
  have hi:lp t=false:=by rw[lp,hp];rfl
  rw[hi]at hg
  match j,hj with
  |0,_=>simp only[go_sem,KP,hg]
  |1,_=>simp only[go_sem,KP,hg]
  |2,_=>simp only[go_sem,KP,hg]
 |some q=>
  have hi:lp t=true:=by rw[lp,hp];rfl
  obtain⟨rfl,bY⟩:=hq q hp;have h5:=ahZ hs bY;simp only[aF,ai,ak]at h5;rw[hi]at hg
  match j,hj with
  |0,_=>simp only[go_sem,KP,hg,h5,DL]
  |1,_=>simp only[go_sem,KP,hg,h5]
  |2,_=>simp only[go_sem,KP,hg,h5,DL]
end
def gv(c:Bool)(r:Option D):Option D:=if c=true then r else some (.bool false)
def gw(c:Bool)(x:D):D:=if c=true then x else .bool false
@[congr] theorem abb {c c':Bool} {r r':Option D} (h:c=c') (h':c'=true->r=r'):gv c r=gv c' r':=by
 subst h;unfold gv;split
 ·exact h' (by assumption)
 ·rfl
theorem jj(r:Option D):gv false r=some (.bool false):=(rfl)
theorem dx(c:Bool)(x:D):gv c (some x)=some (gw c x):=by cases c<;>rfl
theorem fT(x:D):gw true x=x:=(rfl)
theorem ki(x:D):gw false x=.bool false:=(rfl)
theorem dy(c b:Bool):gw c (.bool b)=.bool (c && b):=by cases c<;>rfl
theorem dB(G:Gf)(ρ:List D)(c:Bool)(o:PO)(es:List SE)(t:ST):RH (some c) G o es t ρ=YB (gv c (YE o (gU ρ es))) G t ρ:=by cases c<;>rfl
theorem aa8(G:Gf)(ρ:List D)(c:Bool)(a b:ST):OR (some c) G a b ρ=if c=true then OR (some true) G a b ρ else OR (some false) G a b ρ:=by cases c<;>rfl
theorem YR(k:IntKind)(a b:Int):aK (.bin .eql) [.int k a,.int k b]=some (.bool (decide (a=b))):=by rw[yf];rfl
theorem YW(k:IntKind)(a b:Int):aK (.bin .neq) [.int k a,.int k b]=some (.bool (!decide (a=b))):=by rw[yf];rfl
theorem YV(k:IntKind)(a b:Int):aK (.bin .lss) [.int k a,.int k b]=some (.bool (decide (a < b))):=by rw[yf];rfl
theorem YU(k:IntKind)(a b:Int):aK (.bin .leq) [.int k a,.int k b]=some (.bool (decide (a<=b))):=by rw[yf];rfl
theorem YT(k:IntKind)(a b:Int):aK (.bin .gtr) [.int k a,.int k b]=some (.bool (decide (b < a))):=by rw[yf];rfl
theorem YS(k:IntKind)(a b:Int):aK (.bin .geq) [.int k a,.int k b]=some (.bool (decide (b<=a))):=by rw[yf];rfl
theorem YP(k:IntKind)(a b:Int):aK (.bin .add) [.int k a,.int k b]=some (.int k (k.wrap (a+b))):=by rw[yf];rfl
theorem YY(a b:ByteArray):aK (.bin .eql) [.str a,.str b]=some (.bool (decide (a=b))):=by rw[RO];rfl
theorem YX(a b:ByteArray):aK (.bin .neq) [.str a,.str b]=some (.bool (!decide (a=b))):=by rw[RO];rfl
theorem YQ(a b:Bool):aK (.uS .neq) [.bool a,.bool b]=some (.bool (!decide (a=b))):=(rfl)
attribute [go_sem 2000] YR YW YV YU YT YS YP YY YX YQ
theorem Tn(a b:Bool):(a ||(!a && b))=(a ||b):=by cases a<;>rfl
theorem V0(a b:Bool):(!a ||(a && b))=(!a ||b):=by cases a<;>rfl
theorem ahf(k:IntKind)(n:Int):aK .pl [.int k n]=some (.bool false):=(rfl)
theorem ahe(b:Bool):aK .pl [.bool b]=some (.bool false):=(rfl)
attribute [go_sem] ahf ahe
section
theorem DL(n:Int):aK .pl [.int .i64 n]=some (.bool false):=(rfl)
theorem U_(b:Bool):aK .pl [.bool b]=some (.bool false):=(rfl)
theorem wk{l:List aJ}{i:Nat}{y:aJ}(h:nth l i=some y):aK (.el 3) [bl l,.int .i64 (i:Int)]=some (.list 0 false [bD y]):=by
 rw[BC,aH,h];rfl
theorem wM{l:List aJ}{y:aJ}(hs:cA bD l<=mg)(h:y∈l):y.kids.length<=mg/\cA bD y.kids<=mg:=by
 have a1:=eS bD h;rw[jL]at a1;refine⟨?_,by omega⟩;simp only[cA]at a1 hs;omega
theorem yZ{n:af}(hn:fc (aw n)<=mg):n.keys.length<=mg:=by
 rw[dK]at hn;simp only[cA]at hn;omega
theorem Mv:∀{a b:List ByteArray},a.length=b.length->(∀j x,nth a j=some x->nth b j=some x)->a=b
 |[],[],_,_=>rfl
 |x::a,y::b,h,hh=>by
  have h0:=hh 0 x rfl;cases h0;rw[Mv (a:=a) (b:=b) (by simpa using h) λj z hz=>hh (j+1) z hz]
theorem TF{a b:List ByteArray}(h:a.length=b.length):allI (λi e=>decide (nth b i=some e)) 0 a=decide (a=b):=by
 rw[cU,nI];simp only[bo,decide_eq_true_eq];exact⟨λhh=>Mv h hh,λe j x hx=>e▸hx⟩
theorem ahg{a b:List ByteArray}(ha:a.length<=mg):G 100 [bp a,bp b]=some (0,[.bool (decide (a=b))]):=by
 refine cq adr rfl ?_;by_cases hl:a.length=b.length
 ·have rq:(a.length:Int)=(b.length:Int):=by omega
  have h:=nk (b:=lB G AI) a (λi=>(0,[bp a,bp b,.int .i64 a.length,.int .i64 (i:Int)])) (λi e=>decide (nth b i=some e)) (1,[bp a,bp b,.int .i64 a.length,.int .i64 a.length,.bool false]) (0,[.bool false]) (by
   intro i e hn;have hi:=aR hn;have hw:=wj hi ha;have h2:nth b i=some (b[i]'(by omega)):=dF (by omega);rw[h2];generalize (b[i]'(by omega))=f at *;by_cases c:e=f
   ·subst c;simp only[go_sem,bm,AI,hi,hw,aH,hn,h2,gC]
   ·have c':¬f=e:=λh=>c h.symm;simp only[go_sem,bm,AI,hi,aH,hn,h2,gC,c,c',aa]) (by simp only[go_sem,bm,AI,aq]) a.length 0 (by omega)
  rw[n0,aX,TF hl]at h;rw[hl]at h;cases hd:decide (a=b)<;>rw[hd]at h<;>simp only[go_sem]at h<;>simp only[go_sem,t100,rq,h]
 ·have rq:¬(a.length:Int)=(b.length:Int):=by omega
  have hab:¬a=b:=λh=>hl (by rw[h]);simp only[go_sem,t100,rq,hab]
theorem abP(j:Nat):decide ((j:Int) < 0)=false:=by simp only[decide_eq_false_iff_not];omega
theorem yc(k:Int)(e:af)(b:Bool):aK .yb [.int .i64 k,.str e.name,.int .i64 e.type.kind,eR e.type.ranges,bp e.type.names,.str e.type.pattern,.str e.type.path,bp e.keys,bp e.unique,.str e.default,.bool e.given,.bool e.dZ,.bool e.cP,.bool e.fixed,.int .i64 e.min,.int .i64 e.max,cW e.when,cW e.hO,aA e.kids,.bool b]=some (.bool false):=(rfl)
end
section
theorem pF{α:Type}(l:List α):decide ((0:Int) < (l.length:Int))=!l.isEmpty:=by cases l<;>simp
theorem NR{n:af}(hs:fc (aw n)<=mg) :
  bR (lB G wO) (0,.int .i64 0::aw n)=some (if n.keys.all (Cu n.kids)=true then (1,.int .i64 n.keys.length::.bool false::aw n) else (0,[.bool false])):=by
 have hz:=hs;rw[dK]at hz;have xX:n.keys.length<=mg:=by simp only[cA]at hz;omega
 have rk:n.kids.length<=mg:=by simp only[cA]at hz;omega
 have hl:=iG (b:=lB G wO) n.keys (λi=>(0,.int .i64 (i:Int)::aw n)) (Cu n.kids) (1,.int .i64 n.keys.length::.bool false::aw n) (0,[.bool false]) (by
  intro i e hn;have hi:=aR hn;have hw:=wj hi xX;have f1:=WR (l:=n.kids) (nm:=e) rk;clear hs hz;cases hf:fF n.kids e with
  |none=>
   have hk:Cu n.kids e=false:=by simp only[Cu,ub,hf]
   rw[hf]at f1;simp +contextual -implicitDefEqProofs only [go_sem,dB,jj,dx,dy,bm,wO,ae n,hi,aH,hn,gC,f1,kR,hk]
  |some j=>
   obtain⟨x,hj,_⟩:=dr hf;have hk:Cu n.kids e=(decide (x.kind=3) && NO x):=by simp only[Cu,ub,hf,hj]
   have k0:decide ((j:Int) < 0)=false:=by simp only[decide_eq_false_iff_not];omega
   rw[hf]at f1;rw[hk,NO];simp +contextual -implicitDefEqProofs only [go_sem,dB,dx,dy,bm,wO,ae n,hi,aH,hn,gC,f1,kR]
   simp +contextual -implicitDefEqProofs only [go_sem,dB,dx,fT,dy,k0,hj,aH,ae x,pF]
   rw[aa8];generalize decide (x.kind=3)=v3;generalize x.when.isEmpty=w;generalize x.given=g;generalize decide (x.type.kind=6)=v6;cases v3<;>cases w<;>cases g<;>cases v6<;>simp +contextual -implicitDefEqProofs only [go_sem,hw]) (by simp +contextual -implicitDefEqProofs only [go_sem,bm,wO,ae n,aq])
 exact hl
theorem NS{n:af}(hs:fc (aw n)<=mg) :
  bR (lB G wP) (0,.int .i64 0::aw n)=some (if n.unique.all (BX n.kids)=true then (1,.int .i64 n.unique.length::.bool false::aw n) else (0,[.bool false])):=by
 have hz:=hs;rw[dK]at hz;have xX:n.unique.length<=mg:=by simp only[cA]at hz;omega
 have rk:n.kids.length<=mg:=by simp only[cA]at hz;omega
 have hl:=iG (b:=lB G wP) n.unique (λi=>(0,.int .i64 (i:Int)::aw n)) (BX n.kids) (1,.int .i64 n.unique.length::.bool false::aw n) (0,[.bool false]) (by
  intro i e hn;have hi:=aR hn;have hw:=wj hi xX;have f1:=WR (l:=n.kids) (nm:=e) rk;clear hs hz;cases hf:fF n.kids e with
  |none=>
   have hk:BX n.kids e=false:=by simp only[BX,ub,hf]
   rw[hf]at f1;simp +contextual -implicitDefEqProofs only [go_sem,dB,jj,dx,dy,bm,wP,ae n,hi,aH,hn,gC,f1,kR,hk]
  |some j=>
   obtain⟨x,hj,_⟩:=dr hf;have hk:BX n.kids e=decide (x.kind=3):=by simp only[BX,ub,hf,hj]
   have k0:decide ((j:Int) < 0)=false:=by simp only[decide_eq_false_iff_not];omega
   rw[hf]at f1;rw[hk];simp +contextual -implicitDefEqProofs only [go_sem,dB,dx,dy,bm,wP,ae n,hi,aH,hn,gC,f1,kR]
   simp +contextual -implicitDefEqProofs only [go_sem,dB,dx,fT,dy,k0,hj,ae x]
   rw[aa8];generalize decide (x.kind=3)=v3;cases v3<;>simp +contextual -implicitDefEqProofs only [go_sem,hw]) (by simp +contextual -implicitDefEqProofs only [go_sem,bm,wP,ae n,aq])
 exact hl
theorem aho{n:af}(hs:fc (aw n)<=mg):G 214 (aw n)=some (0,[.bool (Dx n)]):=by
 have hz:=hs;rw[dK]at hz;have l0:=NR hs;have l1:=NS hs;have f1:=acM n.type;have f2:=acN (l:=n.keys) (by simp only[cA]at hz;omega);have f3:=acN (l:=n.unique) (by simp only[cA]at hz;omega);have f4:=acO n;clear hs hz;unfold Dx;rw[ew]at f1;simp only[ae n]at l0 l1 f4;refine cq adT (by rw[ae];rfl) ?_;generalize n.keys.all (Cu n.kids)=r0 at *;generalize n.unique.all (BX n.kids)=r1 at *;generalize zT n.type=z at *;generalize so n.keys=a at *;generalize so n.unique=b at *;generalize kH n=o at *;cases r0
 ·simp +contextual -implicitDefEqProofs only [go_sem]at l0
  simp +contextual -implicitDefEqProofs only [go_sem,t214,ae n,l0]
 cases r1
 ·simp +contextual -implicitDefEqProofs only [go_sem]at l0
  simp +contextual -implicitDefEqProofs only [go_sem]at l1
  simp +contextual -implicitDefEqProofs only [go_sem,t214,ae n,l0,l1]
 simp +contextual -implicitDefEqProofs only [go_sem]at l0
 simp +contextual -implicitDefEqProofs only [go_sem]at l1
 cases z
 ·simp only[go_sem,dB,jj,dx,ki,dy,f1,t214,ae n,l0,l1]
 cases hk:n.keys.isEmpty
 rotate_left
 ·simp only[go_sem,dB,dx,fT,dy,pF,f1,t214,ae n,l0,l1,hk]
 cases a
 ·simp only[go_sem,dB,dx,fT,dy,pF,f1,f2,t214,ae n,l0,l1,hk]
 cases b
 ·simp only[go_sem,dB,dx,fT,dy,pF,f1,f2,f3,t214,ae n,l0,l1,hk]
 cases o<;>simp only[go_sem,dB,dx,fT,dy,pF,f1,f2,f3,f4,cy,t214,ae n,l0,l1,hk]
 generalize n.given=b1;generalize n.dZ=b2;generalize n.cP=b3;generalize n.fixed=b4;cases b1<;>cases b2<;>cases b3<;>cases b4<;>rfl
end
section
theorem Iu(o:Option Nat)(i:Nat):decide (kR o=(i:Int))=decide (o=some i):=by
 cases o with
 |none=>simp[kR]
 |some j=>exact decide_eq_decide.2 ⟨λh=>congrArg some (Int.ofNat.inj h),λh=>congrArg Int.ofNat (eJ h)⟩
theorem age{d:List af}{j:Nat}{e:af}(h:nth d j=some e):aK (.nN 19 1 1 true) [aA d,.int .i64 (j:Int)]=some (.list 0 false [aw e]):=by
 simp only[aK,cB,aH,h,aB];rw[ae];exact if_pos ⟨trivial,by decide,by simp only[aE];omega,rfl⟩
section
variable {ip:ByteArray->Bool} {mt:ByteArray->ByteArray->Bool} (hP:∀s:ByteArray,s.size<=mg->G 227 [.str s]=some (0,[.bool (ip s)])) (hM:∀p s:ByteArray,p.size<=mg->s.size<=mg->G 236 [.str p,.str s]=some (0,[.bool (mt p s)]))
include hP hM
theorem ahy{n:af}{free:Bool}(hs:fc (aw n)<=mg):G 239 (aw n++[.bool free])=some (0,[.bool (Bl ip mt n free)]):=by
 have hz:=hs;rw[dK]at hz;have f1:=Vh (s:=n.name) (by omega);have f2:G 210 [cW n.when,.int .i64 1]=_:=acL (m:=1) (by omega);have f3:G 210 [cW n.hO,.int .i64 3]=_:=acL (m:=3) (by omega);have f4:=acM n.type;have f5:=aho hs;have f6:=acV hP (t:=n.type) (by omega);have f7:=acO n;have f8:=acY hP hM (t:=n.type) (s:=n.default) (by omega) (by omega);clear hs hz hP hM;simp only[ew,ae n,ai,ak]at f4 f5 f6 f7 f8;refine cq aeb (by rw[ae];rfl) ?_;unfold Bl Df;generalize isName n.name=h1 at *;generalize Cm n.when 1=h2 at *;generalize Cm n.hO 3=h3 at *;generalize QY:zT n.type=z at *;generalize hi_:isType ip n.type=it at *;generalize ho_:kH n=os at *;cases h1
 ·simp +contextual -implicitDefEqProofs only [go_sem,dB,dx,fT,dy,br,f1,qq,cy,t239,ae n]
 cases h2
 ·simp +contextual -implicitDefEqProofs only [go_sem,dB,dx,fT,dy,br,f1,f2,qq,cy,t239,ae n]
 cases h3
 ·simp +contextual -implicitDefEqProofs only [go_sem,dB,dx,fT,dy,br,f1,f2,f3,qq,cy,t239,ae n]
 have hN:(n.keys.isEmpty && n.unique.isEmpty && decide (n.default.size=0) && !n.given && !n.fixed && decide (n.min=0) && decide (n.max=0))=oG n:=by simp only[oG,fW]
 by_cases k1:n.kind=1
 ·have k2:iW ip mt n free=(oG n && (!n.dZ && z)):=by simp only[iW,k1,QY];rfl
  rw[k2];simp +contextual -implicitDefEqProofs only [go_sem,dB,dx,fT,dy,br,f1,f2,f3,qq,cy,t239,ae n,k1]
  rw[hN];generalize oG n=v at *;clear hN;obtain⟨w,hw⟩:∃w,n.dZ=w:=⟨_,rfl⟩
  cases v<;>cases w<;>simp only[go_sem,f4,hw]
 by_cases k2:n.kind=2
 ·have e:iW ip mt n free=Dx n:=by simp only[iW,k2,if_true];rfl
  rw[e];rw[k2]at f5;simp +contextual -implicitDefEqProofs only [go_sem,dB,dx,fT,dy,br,f1,f2,f3,qq,cy,t239,ae n,k2,f5]
 by_cases k3:n.kind=3
 ·obtain⟨g,hL⟩:∃g,(n.keys.isEmpty && n.unique.isEmpty && decide (n.min=0) && decide (n.max=0) && !n.cP && n.kids.isEmpty)=g:=⟨_,rfl⟩
  have e:A_ ip n=(g && it):=by simp only[A_,<- hL,fW,hi_]
  have e2:iW ip mt n free=if n.given=true then (g && it) && (free && (!n.dZ && (n.when.isEmpty && isVal ip mt n.type n.default))) else (g && it) && decide (n.default.size=0):=by
   simp only[iW,k3,e];rfl
  rw[e2];generalize isVal ip mt n.type n.default=iv at *;obtain⟨gi,hg⟩:∃w,n.given=w:=⟨_,rfl⟩
  obtain⟨ne,hn⟩:∃w,n.dZ=w:=⟨_,rfl⟩
  obtain⟨we,hw⟩:∃w,n.when.isEmpty=w:=⟨_,rfl⟩
  rw[hg];simp +contextual -implicitDefEqProofs only [go_sem,dB,dx,fT,dy,br,f1,f2,f3,qq,cy,t239,ae n,k3]
  rw[hL];clear hL e e2;cases g
  ·cases gi<;>simp +contextual -implicitDefEqProofs only [go_sem,dB,jj,dx,ki,dy,cy,hg]
  cases it
  ·cases gi<;>simp +contextual -implicitDefEqProofs only [go_sem,dB,jj,dx,ki,dy,cy,f6,hg]
  cases gi
  ·simp +contextual -implicitDefEqProofs only [go_sem,dB,dx,dy,cy,f6,hg]
  cases free
  ·simp +contextual -implicitDefEqProofs only [go_sem,dB,jj,dx,ki,dy,f6,hg]
  cases ne
  rotate_left
  ·simp +contextual -implicitDefEqProofs only [go_sem,dB,jj,dx,ki,dy,f6,hg,hn]
  cases we<;>simp +contextual -implicitDefEqProofs only [go_sem,dB,dx,fT,dy,qq,f6,hg,hn,hw,f8]
 by_cases k4:n.kind=4
 ·obtain⟨g,hL⟩:∃g,(n.keys.isEmpty && n.unique.isEmpty && decide (n.default.size=0) && !n.given && !n.fixed && !n.dZ && !n.cP && n.kids.isEmpty)=g:=⟨_,rfl⟩
  have e:iW ip mt n free=(g && (os && it)):=by simp only[iW,k4,<- hL,Ie,fW,hi_,ho_];rfl
  rw[e];rw[k4]at f7;simp +contextual -implicitDefEqProofs only [go_sem,dB,dx,fT,dy,br,f1,f2,f3,qq,cy,t239,ae n,k4]
  rw[hL];clear hL e;cases g
  ·simp +contextual -implicitDefEqProofs only [go_sem]
  cases os<;>simp +contextual -implicitDefEqProofs only [go_sem,dB,dx,dy,f7,f6]
 by_cases k5:n.kind=5
 ·have e:iW ip mt n free=(oG n && (!n.cP && (n.hO.isEmpty && z))):=by simp only[iW,k5,QY];rfl
  rw[e];simp +contextual -implicitDefEqProofs only [go_sem,dB,dx,fT,dy,br,f1,f2,f3,qq,cy,t239,ae n,k5]
  rw[hN];generalize oG n=v at *;clear hN;obtain⟨w,hw⟩:∃w,n.cP=w:=⟨_,rfl⟩
  obtain⟨u,hu⟩:∃w,n.hO.isEmpty=w:=⟨_,rfl⟩
  cases v<;>cases w<;>cases u<;>simp only[go_sem,f4,hw,hu]
 by_cases k6:n.kind=6
 ·have e:iW ip mt n free=(oG n && (!n.cP && (!n.dZ && (n.hO.isEmpty && z)))):=by simp only[iW,k6,QY];rfl
  rw[e];simp +contextual -implicitDefEqProofs only [go_sem,dB,dx,fT,dy,br,f1,f2,f3,qq,cy,t239,ae n,k6]
  rw[hN];generalize oG n=v at *;clear hN;obtain⟨w,hw⟩:∃w,n.cP=w:=⟨_,rfl⟩
  obtain⟨u,hu⟩:∃w,n.hO.isEmpty=w:=⟨_,rfl⟩
  obtain⟨ne,hn⟩:∃w,n.dZ=w:=⟨_,rfl⟩
  cases v<;>cases w<;>cases u<;>cases ne<;>simp only[go_sem,f4,hw,hu,hn]
 have e:iW ip mt n free=false:=by simp only[iW,k1,k2,k3,k4,k5,k6,if_false]
 rw[e];simp +contextual -implicitDefEqProofs only [go_sem,dB,dx,fT,dy,br,f1,f2,f3,qq,cy,t239,ae n,k1,k2,k3,k4,k5,k6]
theorem Y7(m:Nat):∀(l:List af) (k:Int) (free:Bool) (deep:Nat),ah l < m->cA aw l<=mg->deep+qg l<=2 * mg->
  G 240 [aA l,.int .i64 k,.bool free,.int .i64 (deep:Int)]=some (0,[.bool (AA ip mt m l k free deep)]):=by
 induction m with
 |zero=>intro l k free deep h;omega
 |succ m ih=>
  intro l k free deep hz hs hd;have hl:l.length<=mg:=by simp only[cA]at hs;omega
  have f0:=q81 hs;have xW:(dk l).length<=mg:=by have:=qM (es:=l);simp only[cA]at this hs;omega
  have h1:=nk (b:=lB G ug) l (λi=>(0,[aA l,.int .i64 k,.bool free,.int .i64 (deep:Int),.int .i64 (i:Int),aA (dk l)])) (λi n=>decide (fF l n.name=some i) && (decide (decide (k=5)=decide (n.kind=6)) && (Bl ip mt n free && AA ip mt m n.kids n.kind (tM n free) (deep+1))))
   (1,[aA l,.int .i64 k,.bool free,.int .i64 (deep:Int),.int .i64 l.length,.bool false,aA (dk l)]) (0,[.bool false]) (by
   intro i n hn;have hi:=aR hn;have hw:=wj hi hl;have hm:=aT hn;have J0:fc (aw n)<=mg:=by have:=eS aw hm;omega
   have f1:=WR (l:=l) (nm:=n.name) hl;have f2:=ahy hP hM (n:=n) (free:=free) J0;have f3:=ih n.kids n.kind (tM n free) (deep+1) (by have:=aU hm;have:=af.fq n;omega) (az (hX n) J0) (by have:=(yR l _).1 (aj _) n hm;omega);have e1:=Iu (fF l n.name) i;have e2:IntKind.i64.wrap ((deep:Int)+1)=((deep+1:Nat):Int):=by rw[wrap_i64 (by simp only[mg]at hd;omega)];omega
   have hB:(free && n.when.isEmpty && !decide (n.kind=6))=tM n free:=by simp only[tM,fW]
   simp only[ae n,ai,ak]at f2;clear ih hP hM hs hz hd J0 f0;rw[<- hB]at f3 ⊢;clear hB;generalize Bl ip mt n free=ns at *;generalize AA ip mt m n.kids n.kind (free && n.when.isEmpty && !decide (n.kind=6)) (deep+1)=ks at *;generalize decide (fF l n.name=some i)=si at *;obtain⟨di,QL⟩:∃b,decide (decide (k=5)=decide (n.kind=6))=b:=⟨_,rfl⟩
   rw[QL];cases si
   ·simp +contextual -implicitDefEqProofs only [go_sem,dB,jj,dx,fT,ki,dy,br,bm,ug,hi,aH,hn,ae n,qq,f1,e1]
   cases di
   ·simp +contextual -implicitDefEqProofs only [go_sem,dB,jj,dx,fT,ki,dy,br,bm,ug,hi,aH,hn,ae n,qq,QL,f1,e1]
   cases ns
   ·simp +contextual -implicitDefEqProofs only [go_sem,dB,jj,dx,fT,ki,dy,br,bm,ug,hi,aH,hn,ae n,qq,QL,f1,e1,e2,f2]
   cases ks<;>simp +contextual -implicitDefEqProofs only [go_sem,dB,dx,fT,dy,br,bm,ug,hi,hw,aH,hn,ae n,qq,QL,f1,e1,e2,f2,f3]
   ) (by simp only[go_sem,bm,ug,aq]) l.length 0 (by omega)
  have h2:=nk (b:=lB G E4) (dk l) (λi=>(0,[aA l,.int .i64 (deep:Int),.int .i64 (i:Int),aA (dk l)])) (λi n=>decide (fF (dk l) n.name=some i))
   (1,[aA l,.int .i64 (deep:Int),.int .i64 (dk l).length,.bool false,aA (dk l)]) (0,[.bool false]) (by
   intro i n hn;have hi:=aR hn;have hw:=wj hi xW;have f1:=WR (l:=dk l) (nm:=n.name) xW;have e1:=Iu (fF (dk l) n.name) i;have g1:=lV 19 false ((dk l).map aw) i (by rw[av];exact hi);have g2:=age hn;clear ih hP hM hs hz hd f0;generalize decide (fF (dk l) n.name=some i)=si at *;cases si<;>simp +contextual -implicitDefEqProofs only [go_sem,bm,E4,hi,hw,ae n,f1,e1,g1,g2]
   ) (by simp only[go_sem,bm,E4,aq]) (dk l).length 0 (by omega)
  rw[n0,aX]at h1 h2;have hd8:decide ((deep:Int)<=8)=decide (deep<=8):=decide_eq_decide.2 (by omega);refine cq aec rfl ?_;rw[AA];generalize allI _ 0 l=a1 at *;generalize allI _ 0 (dk l)=a2 at *;clear ih hP hM;cases a1
  ·simp only[go_sem]at h1;simp +contextual -implicitDefEqProofs only [go_sem,t240,f0,h1]
  cases a2
  ·simp only[go_sem]at h1;simp only[go_sem]at h2;simp +contextual -implicitDefEqProofs only [go_sem,t240,f0,h1,h2]
  simp only[go_sem]at h1;simp only[go_sem]at h2;simp +contextual -implicitDefEqProofs only [go_sem,dB,dx,fT,dy,Tn,t240,f0,h1,h2,hd8,qq]
theorem ahz{l:List af}(hs:cA aw l<=mg):G 241 [aA l]=some (0,[.bool (Dh ip mt l)]):=by
 obtain⟨r,h1,h2⟩:=ahh hs (x:=60) (by omega) (by omega);have h3:=Y7 hP hM (ah l+1) l 0 true 1 (aM _) hs (by have:=PQ (l:=l);simp only[mg]at *;omega);rw[n1]at h3;have hr:decide (0<=r)=decide (dq l<=60):=by
  apply decide_eq_decide.2
  unfold sH at h2;omega
 clear hP hM h2;refine cq aed rfl ?_;unfold Dh;generalize AA ip mt (ah l+1) l 0 true 1=k at *;generalize decide (dq l<=60)=c at *;cases c<;>simp +contextual -implicitDefEqProofs only [go_sem,dB,dx,dy,t241,h1,hr,h3]
end
end
section
theorem Xy{α β:Type}(a:List α)(b:List β)(ha:a.length<=mg)(hb:b.length<=mg):decide ((0:Int) < IntKind.i64.wrap ((a.length:Int)+(b.length:Int)))=!(a.isEmpty && b.isEmpty):=by
 rw[wrap_i64 (by simp only[mg]at ha hb;omega)];cases a<;>cases b<;>simp<;>omega
theorem rV{α:Type}(a:List α):decide ((1:Int)<=(a.length:Int))=!a.isEmpty:=by cases a<;>simp;omega
section
variable {ip:ByteArray->Bool} {mt:ByteArray->ByteArray->Bool} (hP:∀s:ByteArray,s.size<=mg->G 285 [.str s]=some (0,[.bool (ip s)])) (hM:∀p s:ByteArray,p.size<=mg->s.size<=mg->G 310 [.str p,.str s]=some (0,[.bool (mt p s)]))
include hP hM
theorem ah1{n:af}(hs:fc (aw n)<=mg):G 313 (aw n)=some (0,[.bool (vu ip mt n)]):=by
 have hz:=hs;rw[dK]at hz;have f1:=Vj (s:=n.name) (by omega);have f2:G 269 [cW n.when,.int .i64 1]=_:=ac1 (m:=1) (by omega);have f3:G 269 [cW n.hO,.int .i64 3]=_:=ac1 (m:=3) (by omega);have f4:=ahR n.type;have f5:=ahS n;have f6:=ac8 hP (t:=n.type) (by omega);have f7:=ada hP hM (t:=n.type) (s:=n.default) (by omega) (by omega);have f8:=vS n.kind;have xX:n.keys.length<=mg:=by simp only[cA]at hz;omega
 have hul:n.unique.length<=mg:=by simp only[cA]at hz;omega
 have g1:=Xy n.keys n.unique xX hul;have g2:=Ov (l:=n.keys) xX;have g3:=Ov (l:=n.unique) hul;have g4:=Zf (l:=n.keys) (by omega);have g5:=Zf (l:=n.unique) (by omega);have g6:decide ((n.keys.length:Int)<=3)=decide (n.keys.length<=3):=decide_eq_decide.2 (by omega);have g7:decide ((n.unique.length:Int)<=3)=decide (n.unique.length<=3):=decide_eq_decide.2 (by omega);clear hs hz hP hM xX hul;simp only[ew,ae n,ai,ak]at f4 f5 f6 f7;refine cq aeV (by rw[ae];rfl) ?_;unfold vu Df;generalize isName n.name=h1 at *;generalize Cm n.when 1=h2 at *;generalize Cm n.hO 3=h3 at *;generalize QY:zT n.type=z at *;generalize hi_:isType ip n.type=it at *;generalize ho_:kH n=os at *;cases h1
 ·simp +contextual -implicitDefEqProofs only [go_sem,dB,dx,dy,f1,yH,ae n]
 cases h2
 ·simp +contextual -implicitDefEqProofs only [go_sem,dB,dx,dy,f1,f2,yH,ae n]
 cases h3
 ·simp +contextual -implicitDefEqProofs only [go_sem,dB,dx,dy,f1,f2,f3,yH,ae n]
 by_cases k1:n.kind=1
 ·have f8:G 92 [.int .i64 1]=some (0,[.bool true]):=vS 1;have hb:nJ n=(!z ||!(n.keys.isEmpty && n.unique.isEmpty) ||(!decide (n.default.size=0) ||n.given ||n.fixed) ||n.dZ ||(!decide (n.min=0) ||!decide (n.max=0))):=by simp[nJ,k1,QY,lS,ff,fR]
  have hc:jD ip mt n=true:=by simp[jD,k1]
  rw[hb,hc];simp +contextual -implicitDefEqProofs only [go_sem,dB,dx,fT,dy,br,Tn,V0,fm,wF,ir,f1,f2,f3,cy,yH,ae n,f4,g1,k1]
  generalize (!z ||!(n.keys.isEmpty && n.unique.isEmpty) ||(!decide (n.default.size=0) ||n.given ||n.fixed) ||n.dZ ||(!decide (n.min=0) ||!decide (n.max=0)))=F at *;clear hb hc;cases F<;>simp +contextual -implicitDefEqProofs only [go_sem,dB,jj,dx,ki,dy,ir,f8]
 by_cases k2:n.kind=2
 ·have f8:G 92 [.int .i64 2]=some (0,[.bool true]):=vS 2;rw[k2]at f5;have hb:nJ n=(!z ||(!decide (n.default.size=0) ||n.given ||n.fixed) ||n.dZ ||n.cP):=by simp[nJ,k2,QY,lS,ff,fR]
  have hc:jD ip mt n=(!n.keys.isEmpty && (lx n.keys && (lx n.unique && os))):=by simp[jD,k2,ho_]
  rw[hb,hc];simp +contextual -implicitDefEqProofs only [go_sem,dB,jj,dx,ki,dy,br,Tn,V0,fm,wF,ir,f1,f2,f3,cy,yH,ae n,f4,k2]
  generalize (!z ||(!decide (n.default.size=0) ||n.given ||n.fixed) ||n.dZ ||n.cP)=F at *;clear hb hc;unfold lx;generalize decide (n.keys.length<=3)=c1 at *;generalize decide (n.unique.length<=3)=c2 at *;generalize qf n.keys=c3 at *;generalize qf n.unique=c4 at *;generalize n.keys.all isName=c5 at *;generalize n.unique.all isName=c6 at *;obtain⟨ke,hm⟩:∃b,n.keys.isEmpty=b:=⟨_,rfl⟩
  rw[hm];cases F
  rotate_left
  ·simp +contextual -implicitDefEqProofs only [go_sem]
  cases ke
  rotate_left
  ·simp +contextual -implicitDefEqProofs only [go_sem,dB,jj,dx,ki,dy,ir,f8,rV,hm]
  cases c1
  ·simp +contextual -implicitDefEqProofs only [go_sem,dB,jj,dx,fT,ki,dy,ir,f8,rV,hm,g6]
  cases c3
  ·simp +contextual -implicitDefEqProofs only [go_sem,dB,jj,dx,fT,ki,dy,ir,f8,rV,hm,g6,g2]
  cases c5
  ·simp +contextual -implicitDefEqProofs only [go_sem,dB,jj,dx,fT,ki,dy,ir,f8,rV,hm,g6,g2,g4]
  cases c2
  ·simp +contextual -implicitDefEqProofs only [go_sem,dB,jj,dx,fT,ki,dy,ir,f8,rV,hm,g6,g2,g4,g7]
  cases c4
  ·simp +contextual -implicitDefEqProofs only [go_sem,dB,jj,dx,fT,ki,dy,ir,f8,rV,hm,g6,g2,g4,g7,g3]
  cases c6
  ·simp +contextual -implicitDefEqProofs only [go_sem,dB,jj,dx,fT,ki,dy,ir,f8,rV,hm,g6,g2,g4,g7,g3,g5]
  cases os<;>simp +contextual -implicitDefEqProofs only [go_sem,dB,jj,dx,fT,ki,dy,ir,f8,rV,hm,g6,g2,g4,g7,g3,g5,f5]
 by_cases k3:n.kind=3
 ·have f8:G 92 [.int .i64 3]=some (0,[.bool true]):=vS 3;have hb:nJ n=(!(n.keys.isEmpty && n.unique.isEmpty) ||n.cP ||(!decide (n.min=0) ||!decide (n.max=0)) ||!n.kids.isEmpty):=by simp[nJ,k3,QY,lS,ff,fR]
  have hc:jD ip mt n=(it && (!(n.given && (n.dZ ||!n.when.isEmpty)) && (if n.given=true then isVal ip mt n.type n.default else decide (n.default.size=0)))):=by simp[jD,k3,hi_]
  rw[hb,hc];simp +contextual -implicitDefEqProofs only [go_sem,dB,dx,fT,dy,br,Tn,V0,fm,wF,ir,f1,f2,f3,cy,yH,ae n,g1,k3]
  generalize (!(n.keys.isEmpty && n.unique.isEmpty) ||n.cP ||(!decide (n.min=0) ||!decide (n.max=0)))=F at *;clear hb hc;generalize isVal ip mt n.type n.default=iv at *;obtain⟨ke,hm⟩:∃b,n.kids.isEmpty=b:=⟨_,rfl⟩
  obtain⟨gi,hg⟩:∃b,n.given=b:=⟨_,rfl⟩
  obtain⟨ne,hn⟩:∃b,n.dZ=b:=⟨_,rfl⟩
  obtain⟨we,hw⟩:∃b,n.when.isEmpty=b:=⟨_,rfl⟩
  rw[hm,hg,hn,hw];cases F
  rotate_left
  ·simp +contextual -implicitDefEqProofs only [go_sem]
  cases ke
  ·simp +contextual -implicitDefEqProofs only [go_sem,dB,jj,dx,fT,ki,dy,ir,pF,f8,hm]
  cases it
  ·simp +contextual -implicitDefEqProofs only [go_sem,dB,jj,dx,fT,ki,dy,wF,ir,pF,f8,hm,f6]
  cases gi
  ·simp +contextual -implicitDefEqProofs only [go_sem,dB,jj,dx,fT,ki,dy,wF,ir,cy,pF,f8,hm,f6]
  cases ne
  rotate_left
  ·simp +contextual -implicitDefEqProofs only [go_sem,dB,jj,dx,fT,ki,dy,wF,ir,pF,f8,hm,f6]
  cases we
  ·simp +contextual -implicitDefEqProofs only [go_sem,dB,jj,dx,fT,ki,dy,wF,ir,pF,f8,hm,f6,hw]
  cases iv<;>simp +contextual -implicitDefEqProofs only [go_sem,dB,jj,dx,fT,ki,dy,wF,ir,cy,pF,f8,hm,f6,hw,f7]
 by_cases k4:n.kind=4
 ·have f8:G 92 [.int .i64 4]=some (0,[.bool true]):=vS 4;rw[k4]at f5;have hb:nJ n=(!(n.keys.isEmpty && n.unique.isEmpty) ||(!decide (n.default.size=0) ||n.given ||n.fixed) ||n.dZ ||n.cP ||!n.kids.isEmpty):=by simp[nJ,k4,QY,lS,ff,fR]
  have hc:jD ip mt n=(it && os):=by simp[jD,k4,hi_,ho_]
  rw[hb,hc];simp +contextual -implicitDefEqProofs only [go_sem,dB,dx,fT,dy,br,Tn,V0,fm,wF,ir,f1,f2,f3,cy,yH,ae n,g1,k4]
  generalize (!(n.keys.isEmpty && n.unique.isEmpty) ||(!decide (n.default.size=0) ||n.given ||n.fixed) ||n.dZ ||n.cP)=F at *;clear hb hc;obtain⟨ke,hm⟩:∃b,n.kids.isEmpty=b:=⟨_,rfl⟩
  rw[hm];cases F
  rotate_left
  ·simp +contextual -implicitDefEqProofs only [go_sem]
  cases ke
  ·simp +contextual -implicitDefEqProofs only [go_sem,dB,jj,dx,fT,ki,dy,ir,pF,f8,hm]
  cases it
  ·simp +contextual -implicitDefEqProofs only [go_sem,dB,jj,dx,fT,ki,dy,ir,pF,f8,hm,f6]
  cases os<;>simp +contextual -implicitDefEqProofs only [go_sem,dB,jj,dx,fT,ki,dy,ir,pF,f8,hm,f6,f5]
 by_cases k5:n.kind=5
 ·have f8:G 92 [.int .i64 5]=some (0,[.bool false]):=vS 5;have hb:nJ n=(!z ||!(n.keys.isEmpty && n.unique.isEmpty) ||(!decide (n.default.size=0) ||n.given ||n.fixed) ||n.cP ||(!decide (n.min=0) ||!decide (n.max=0)) ||!n.hO.isEmpty):=by simp[nJ,k5,QY,lS,ff,fR]
  have hc:jD ip mt n=true:=by simp[jD,k5]
  rw[hb,hc];simp +contextual -implicitDefEqProofs only [go_sem,dB,dx,fT,dy,br,Tn,V0,fm,wF,ir,f1,f2,f3,cy,yH,ae n,f4,g1,k5]
  generalize (!z ||!(n.keys.isEmpty && n.unique.isEmpty) ||(!decide (n.default.size=0) ||n.given ||n.fixed) ||n.cP ||(!decide (n.min=0) ||!decide (n.max=0)))=F at *;clear hb hc;obtain⟨me,hm⟩:∃b,n.hO.isEmpty=b:=⟨_,rfl⟩
  rw[hm];cases F<;>cases me<;>simp +contextual -implicitDefEqProofs only [go_sem,dB,jj,dx,fT,ki,dy,ir,pF,f8,hm]
 by_cases k6:n.kind=6
 ·have f8:G 92 [.int .i64 6]=some (0,[.bool false]):=vS 6;have hb:nJ n=(!z ||!(n.keys.isEmpty && n.unique.isEmpty) ||(!decide (n.default.size=0) ||n.given ||n.fixed) ||n.dZ ||n.cP ||(!decide (n.min=0) ||!decide (n.max=0)) ||!n.hO.isEmpty):=by simp[nJ,k6,QY,lS,ff,fR]
  have hc:jD ip mt n=true:=by simp[jD,k6]
  rw[hb,hc];simp +contextual -implicitDefEqProofs only [go_sem,dB,dx,fT,dy,br,Tn,V0,fm,wF,ir,f1,f2,f3,cy,yH,ae n,f4,g1,k6]
  generalize (!z ||!(n.keys.isEmpty && n.unique.isEmpty) ||(!decide (n.default.size=0) ||n.given ||n.fixed) ||n.dZ ||n.cP ||(!decide (n.min=0) ||!decide (n.max=0)))=F at *;clear hb hc;obtain⟨me,hm⟩:∃b,n.hO.isEmpty=b:=⟨_,rfl⟩
  rw[hm];cases F<;>cases me<;>simp +contextual -implicitDefEqProofs only [go_sem,dB,jj,dx,fT,ki,dy,ir,pF,f8,hm]
 by_cases k7:n.kind=7
 ·have f8:G 92 [.int .i64 7]=some (0,[.bool false]):=vS 7;have hb:nJ n=(!z ||!(n.keys.isEmpty && n.unique.isEmpty) ||(!decide (n.default.size=0) ||n.given ||n.fixed) ||n.dZ ||n.cP ||(!decide (n.min=0) ||!decide (n.max=0)) ||!n.hO.isEmpty):=by simp[nJ,k7,QY,lS,ff,fR]
  have hc:jD ip mt n=(n.when.isEmpty && n.kids.isEmpty):=by simp[jD,k7]
  rw[hb,hc];simp +contextual -implicitDefEqProofs only [go_sem,dB,dx,fT,dy,br,Tn,V0,fm,wF,ir,f1,f2,f3,cy,yH,ae n,f4,g1,k7]
  generalize (!z ||!(n.keys.isEmpty && n.unique.isEmpty) ||(!decide (n.default.size=0) ||n.given ||n.fixed) ||n.dZ ||n.cP ||(!decide (n.min=0) ||!decide (n.max=0)))=F at *;clear hb hc;obtain⟨me,hm⟩:∃b,n.hO.isEmpty=b:=⟨_,rfl⟩
  rw[hm];cases F<;>cases me<;>simp +contextual -implicitDefEqProofs only [go_sem,dB,jj,dx,fT,ki,dy,br,ir,qq,pF,f8,hm]
 ·have f9:G 92 [.int .i64 n.kind]=some (0,[.bool false]):=by rw[f8,lS,show ff 1 4 n.kind=false from by rw[cT,Ne,fH];omega]
  have hc:jD ip mt n=false:=by simp[jD,k1,k2,k3,k4,k5,k6,k7]
  rw[hc];simp +contextual -implicitDefEqProofs only [go_sem,dB,dx,fT,dy,br,Tn,V0,fm,wF,ir,f1,f2,f3,cy,yH,ae n,f4,g1,k1,k2,k3,k4,k5]
  generalize (!z ||!(n.keys.isEmpty && n.unique.isEmpty) ||(!decide (n.default.size=0) ||n.given ||n.fixed) ||n.dZ ||n.cP ||(!decide (n.min=0) ||!decide (n.max=0)))=F at *;obtain⟨me,hm⟩:∃b,n.hO.isEmpty=b:=⟨_,rfl⟩
  cases F<;>cases me<;>simp +contextual -implicitDefEqProofs only [go_sem,dB,jj,dx,fT,ki,dy,ir,pF,k1,k2,k3,k4,k5,k6,k7,f9,hm]
end
end
section
theorem N8{n:af}{l:List af}{k:Int}{b:Bool}{cnt i:Nat}(hn:fc (aw n)<=mg) :
  bR (lB G wZ) (0,[.int .i64 k,.bool b,aA l,.int .i64 cnt,.int .i64 (i:Int),bp n.keys,.int .i64 n.keys.length,.int .i64 0]++aw n) =
   some (if n.keys.all (tt n.kids)=true then (1,[.int .i64 k,.bool b,aA l,.int .i64 cnt,.int .i64 (i:Int),bp n.keys,.int .i64 n.keys.length,.int .i64 n.keys.length,.bool false]++aw n) else (0,[.bool false])):=by
 have hz:=hn;rw[dK]at hz;have xX:n.keys.length<=mg:=by simp only[cA]at hz;omega
 have rk:n.kids.length<=mg:=by simp only[cA]at hz;omega
 have h:=iG (b:=lB G wZ) n.keys (λj=>(0,[.int .i64 k,.bool b,aA l,.int .i64 cnt,.int .i64 (i:Int),bp n.keys,.int .i64 n.keys.length,.int .i64 (j:Int)]++aw n)) (tt n.kids)
  (1,[.int .i64 k,.bool b,aA l,.int .i64 cnt,.int .i64 (i:Int),bp n.keys,.int .i64 n.keys.length,.int .i64 n.keys.length,.bool false]++aw n) (0,[.bool false]) (by
  intro j e hj;have hi:=aR hj;have hw:=wj hi xX;have f1:=adb (l:=n.kids) (nm:=e) rk;cases hf:jZ n.kids e with
  |none=>
   rw[hf]at f1;simp only[FD,ae,ai,ak]at f1;have hk:tt n.kids e=false:=by simp only[tt,hf,ub]
   simp +contextual -implicitDefEqProofs only [go_sem,dB,jj,dx,ki,dy,bm,wZ,ae n,hi,aH,hj,gC,f1,hk]
  |some jx=>
   obtain⟨x,hjx,_⟩:=dr hf;rw[hf]at f1;simp only[hjx,ae,ai,ak]at f1;obtain⟨we,h1⟩:∃b,x.when.isEmpty=b:=⟨_,rfl⟩
   obtain⟨gi,h2⟩:∃b,x.given=b:=⟨_,rfl⟩
   obtain⟨kd,h3⟩:∃b,decide (x.type.kind=6)=b:=⟨_,rfl⟩
   have hk:tt n.kids e=(we && (!gi && !kd)):=by simp only[tt,hf,ub,hjx,NO,h1,h2,h3]
   rw[hk];cases we<;>cases gi<;>cases kd<;>simp +contextual -implicitDefEqProofs only [go_sem,dB,dx,fT,dy,bm,wZ,ae n,hi,aH,hj,gC,f1,pF,h1,h2,h3,hw]
   ) (by simp +contextual -implicitDefEqProofs only [go_sem,bm,wZ,ae n,aq])
 exact h
theorem N9{n:af}{l:List af}{k:Int}{b:Bool}{cnt i:Nat}(hn:fc (aw n)<=mg) :
  bR (lB G w8) (0,[.int .i64 k,.bool b,aA l,.int .i64 cnt,.int .i64 (i:Int),bp n.unique,.int .i64 n.unique.length,.int .i64 0]++aw n) =
   some (if n.unique.all (λu=>(jZ n.kids u).isSome)=true then (1,[.int .i64 k,.bool b,aA l,.int .i64 cnt,.int .i64 (i:Int),bp n.unique,.int .i64 n.unique.length,.int .i64 n.unique.length,.bool false]++aw n) else (0,[.bool false])):=by
 have hz:=hn;rw[dK]at hz;have xX:n.unique.length<=mg:=by simp only[cA]at hz;omega
 have rk:n.kids.length<=mg:=by simp only[cA]at hz;omega
 have h:=iG (b:=lB G w8) n.unique (λj=>(0,[.int .i64 k,.bool b,aA l,.int .i64 cnt,.int .i64 (i:Int),bp n.unique,.int .i64 n.unique.length,.int .i64 (j:Int)]++aw n)) (λu=>(jZ n.kids u).isSome)
  (1,[.int .i64 k,.bool b,aA l,.int .i64 cnt,.int .i64 (i:Int),bp n.unique,.int .i64 n.unique.length,.int .i64 n.unique.length,.bool false]++aw n) (0,[.bool false]) (by
  intro j e hj;have hi:=aR hj;have hw:=wj hi xX;have f1:=adb (l:=n.kids) (nm:=e) rk;cases hf:jZ n.kids e with
  |none=>
   rw[hf]at f1;simp only[FD,ae,ai,ak]at f1;simp +contextual -implicitDefEqProofs only [go_sem,bm,w8,ae n,hi,aH,hj,gC,f1,Option.isSome]
  |some jx=>
   obtain⟨x,hjx,_⟩:=dr hf;rw[hf]at f1;simp only[hjx,ae,ai,ak]at f1;simp +contextual -implicitDefEqProofs only [go_sem,bm,w8,ae n,hi,aH,hj,gC,f1,hw,Option.isSome]
   ) (by simp +contextual -implicitDefEqProofs only [go_sem,bm,w8,ae n,aq])
 exact h
section
variable {ip:ByteArray->Bool} {mt:ByteArray->ByteArray->Bool} (hP:∀s:ByteArray,s.size<=mg->G 285 [.str s]=some (0,[.bool (ip s)])) (hM:∀p s:ByteArray,p.size<=mg->s.size<=mg->G 310 [.str p,.str s]=some (0,[.bool (mt p s)]))
include hP hM
theorem Zk(m:Nat):∀(l:List af) (k:Int) (b:Bool),ah l < m->cA aw l<=mg->
  G 315 [aA l,.int .i64 k,.bool b]=some (0,[.bool (tu ip mt m l k b)]):=by
 induction m with
 |zero=>intro l k b h;omega
 |succ m ih=>
  intro l k b hz hs;have hl:l.length<=mg:=by simp only[cA]at hs;omega
  have h2:=iG (b:=lB G o0) l (λi=>(0,[.int .i64 k,.bool b,aA l,.int .i64 l.length,.int .i64 (i:Int)])) (λn=>vu ip mt n && (!decide (n.kind=7) && (decide (decide (n.kind=6)=decide (k=5)) && (!(n.given && b) && (n.keys.all (tt n.kids) && (n.unique.all (λu=>(jZ n.kids u).isSome) && tu ip mt m n.kids n.kind (b ||(!n.when.isEmpty ||decide (n.kind=6)))))))))
   (1,[.int .i64 k,.bool b,aA l,.int .i64 l.length,.int .i64 l.length,.bool false]) (0,[.bool false]) (by
   intro i n hn;have hi:=aR hn;have hw:=wj hi hl;have hm:=aT hn;have J0:fc (aw n)<=mg:=by have:=eS aw hm;omega
   have f1:=ah1 hP hM J0;have e1:=N8 (n:=n) (l:=l) (k:=k) (b:=b) (cnt:=l.length) (i:=i) J0;have e2:=N9 (n:=n) (l:=l) (k:=k) (b:=b) (cnt:=l.length) (i:=i) J0;have f2:=ih n.kids n.kind (b ||!n.when.isEmpty ||decide (n.kind=6)) (by have:=aU hm;have:=af.fq n;omega) (az (hX n) J0);rw[<- fR b];simp only[ae n,ai,ak]at f1 e1 e2;clear ih hP hM hs hz J0;generalize vu ip mt n=ns at *;generalize tu ip mt m n.kids n.kind (b ||!n.when.isEmpty ||decide (n.kind=6))=ks at *;generalize n.keys.all (tt n.kids)=ka at *;generalize n.unique.all (λu=>(jZ n.kids u).isSome)=ua at *;obtain⟨k7,h7⟩:∃b,decide (n.kind=7)=b:=⟨_,rfl⟩
   obtain⟨di,QL⟩:∃x,decide (decide (n.kind=6)=decide (k=5))=x:=⟨_,rfl⟩
   obtain⟨gb,uJ⟩:∃x,(n.given && b)=x:=⟨_,rfl⟩
   rw[h7,QL,uJ];cases ns
   ·simp +contextual -implicitDefEqProofs only [go_sem,dB,jj,dx,dy,ir,bm,o0,hi,aH,hn,ae n,f1,h7]
   cases k7
   rotate_left
   ·simp +contextual -implicitDefEqProofs only [go_sem,dB,jj,dx,dy,ir,bm,o0,hi,aH,hn,ae n,f1,h7]
   cases di
   ·simp +contextual -implicitDefEqProofs only [go_sem,dB,jj,dx,dy,ir,bm,o0,hi,aH,hn,ae n,f1,h7,QL]
   cases gb
   rotate_left
   ·simp +contextual -implicitDefEqProofs only [go_sem,dB,dx,dy,ir,bm,o0,hi,aH,hn,ae n,f1,h7,QL,uJ]
   cases ka
   ·simp only[go_sem]at e1;simp +contextual -implicitDefEqProofs only [go_sem,dB,dx,dy,ir,bm,o0,hi,aH,hn,ae n,f1,h7,QL,uJ,e1]
   simp only[go_sem]at e1;cases ua
   ·simp only[go_sem]at e2;simp +contextual -implicitDefEqProofs only [go_sem,dB,dx,dy,ir,bm,o0,hi,aH,hn,ae n,f1,h7,QL,uJ,e1,e2]
   simp only[go_sem]at e2;cases ks<;>simp +contextual -implicitDefEqProofs only [go_sem,dB,dx,fT,dy,Tn,ir,bm,o0,hi,hw,aH,hn,ae n,pF,f1,h7,QL,uJ,e1,e2,f2]
   ) (by simp +contextual -implicitDefEqProofs only [go_sem,bm,o0,aq])
  rw[n0]at h2;have c1:=q95 hl;have c2:=Ov (l:=l.map af.name) (by rw[av];exact hl);have xW:(dk l).length<=mg:=by have:=qM (es:=l);simp only[cA]at this hs;omega
  have c3:=q94 hs;have c4:=q95 xW;have c5:=Ov (l:=(dk l).map af.name) (by rw[av];exact xW);refine cq aeX rfl ?_;rw[tu];clear ih hP hM;generalize l.all _=a1 at *;generalize qf (l.map af.name)=d1 at *;generalize qf ((dk l).map af.name)=d2 at *;unfold od;obtain⟨k5,h5⟩:∃x,decide (k=5)=x:=⟨_,rfl⟩
  obtain⟨k6,h6⟩:∃x,decide (k=6)=x:=⟨_,rfl⟩
  rw[h5,h6];have hkE:kE (dk l)=0\/kE (dk l)=1:=by cases dk l<;>simp[kE]
  cases d1
  ·cases k5<;>cases k6<;>simp +contextual -implicitDefEqProofs only [go_sem,dB,dx,dy,ir,OC,c1,c2,h5,h6]
  cases k5
  rotate_left
  ·cases a1<;>simp only[go_sem]at h2<;>cases k6<;>simp +contextual -implicitDefEqProofs only [go_sem,dB,dx,dy,ir,OC,c1,c2,h5,h6,h2]
  cases k6
  rotate_left
  ·cases a1<;>simp only[go_sem]at h2<;>simp +contextual -implicitDefEqProofs only [go_sem,dB,dx,dy,ir,OC,c1,c2,h5,h6,h2]
  cases d2
  ·rcases hkE with e|e<;>rw[e]at c3<;>simp +contextual -implicitDefEqProofs only [go_sem,dB,dx,dy,ir,OC,c1,c2,h5,h6,c3,c4,c5]
  cases a1<;>simp only[go_sem]at h2<;>rcases hkE with e|e<;>rw[e]at c3<;>simp +contextual -implicitDefEqProofs only [go_sem,dB,dx,dy,ir,OC,c1,c2,h5,h6,c3,c4,c5,h2]
theorem ah2{l:List af}(hs:cA aw l<=mg):G 316 [aA l]=some (0,[.bool (Dh ip mt l)]):=by
 have h1:=ahI hs;have h2:=ahJ hs;have h3:=Zk hP hM (ah l+1) l 0 false (aM _) hs;have e1:decide ((dq l:Int)<=60)=decide (dq l<=60):=decide_eq_decide.2 (by omega);have e2:decide ((qg l:Int)<=8)=decide (qg l<=8):=decide_eq_decide.2 (by omega);clear hP hM;refine cq aeY rfl ?_;rw[Uv];generalize tu ip mt (ah l+1) l 0 false=k at *;generalize decide (dq l<=60)=c at *;generalize decide (qg l<=8)=d at *;cases c
 ·simp +contextual -implicitDefEqProofs only [go_sem,dB,dx,dy,ZK,h1,e1]
 cases d<;>simp +contextual -implicitDefEqProofs only [go_sem,dB,dx,dy,ZK,h1,e1,h2,e2,h3]
end
end
section
noncomputable def EG(s:List af)(l:List aJ):Bool:=tY lp FC (Dh lp FC s) s l
theorem yY{s:List af}{l:List aJ}(h:EG s l=true):Rt lp FC (dk s) l:=NK h
section
variable {s:List af} (hs:cA aw s<=mg)
include hs
theorem WO{l:List aJ}(hl:cA bD l<=mg):G 250 [aA s,bl l]=some (0,[.bool (EG s l)]):=
 ahF (λt _=>acU t) (λ_ _ _ h=>acX h) hs hl (ahz (λt _=>acU t) (λ_ _ _ h=>acX h) hs)
theorem WQ{l:List aJ}(hl:cA bD l<=mg):G 327 [aA s,bl l]=some (0,[.bool (EG s l)]):=
 ah8 (λt _=>ac7 t) (λ_ _ _ h=>ac_ h) hs hl (ah2 (λt _=>ac7 t) (λ_ _ _ h=>ac_ h) hs)
end
end
section
def mD(n:af)(x:aJ)(ks:List aJ):List aJ:=if (!decide (n.kind=1) ||(n.cP ||!ks.isEmpty))=true then [⟨x.name,x.value,ks⟩] else []
def vZ(pr:aJ->Option (af×aJ))(f:af->aJ->aJ->List aJ)(x:aJ):List aJ:=match pr x with
 |some (n,y)=>mD n x (f n x y)
 |none=>[]
def qd(ix:af->List aJ->aJ->Option Nat):Nat->List af->List aJ->List aJ->List aJ
 |0,_,_,_=>[]
 |m+1,s,a,b=>a.flatMap (vZ (mB ix s b) λn x y=>qd ix m n.kids x.kids y.kids)
theorem Vg{n:af}{x:aJ}{ks:List aJ}(h:cA bD ks<=cA bD x.kids):cA bD (mD n x ks)<=fc (bD x)+1:=by
 unfold mD;split
 ·rw[lD,jL,jL];simp only[cA,aQ,dD,n7]at *;omega
 ·simp[cA,n7]
theorem LC{g:aJ->List aJ}:∀{a:List aJ},(∀x∈a,cA bD (g x)<=fc (bD x)+1)->cA bD (a.flatMap g)<=cA bD a
 |[],_=>aj _
 |x::a,h=>by
  have h1:=h x dQ;have h2:=LC (a:=a) λy hy=>h y (cp _ hy);rw[pW,F7,lD];omega
theorem Xe{ix:af->List aJ->aJ->Option Nat}(m:Nat):∀{s:List af} {a b:List aJ},cA bD (qd ix m s a b)<=cA bD a:=by
 induction m with
 |zero=>intro s a b;simp[qd,cA,n7]
 |succ m ih=>
  intro s a b;refine LC λx hx=>?_;unfold vZ;split
  ·exact Vg ih
  ·simp[cA,n7]
theorem RQ{n:af}{x:aJ}{ks:List aJ}:(mD n x ks).length<=1:=by unfold mD;split<;>simp
theorem G8{pr:aJ->Option (af×aJ)}{f:af->aJ->aJ->List aJ}{x:aJ}:(vZ pr f x).length<=1:=by
 unfold vZ;split
 ·exact RQ
 ·simp
theorem wA{g:aJ->List aJ}(h:∀x,(g x).length<=1):∀(a:List aJ),(a.flatMap g).length<=a.length
 |[]=>aj _
 |x::a=>by
  have h1:=h x;have h2:=wA h a;rw[pW,aO,aE];omega
theorem C8{a:List aJ}{g:aJ->List aJ}{i:Nat}{x:aJ}(hn:nth a i=some x):(a.take (i+1)).flatMap g=(a.take i).flatMap g++g x:=by
 rw[cu a i x hn,List.flatMap_append,pW,List.flatMap_nil,aD]
theorem VY{l:List aJ}(h:l.length<=mg)(nm v:ByteArray)(ks:List aJ):aK (.app 3 56) [bl l,.list 3 false [[.str nm,.str v,bl ks]]]=some (bl (l++[⟨nm,v,ks⟩])):=by
 have h1:=fI 3 56 false (l.map bD) [[.str nm,.str v,bl ks]] (by decide) (by simp only[mg,av,aE,aQ]at *;omega);rw[h1];simp[bl,aP]
theorem abZ(nm v:ByteArray)(ks:List aJ):aK (.eg 3 false) [.str nm,.str v,bl ks]=some (.list 3 false [[.str nm,.str v,bl ks]]):=kI 3 _ rfl (by decide)
theorem acH(a b:ByteArray):aK .pl [.str a,.str b]=some (.bool false):=(rfl)
theorem Kc:aK (.eg 3 false) []=some (bl []):=(rfl)
theorem dz0:decide ((0:Int) < ((0:Nat):Int))=false:=(rfl)
theorem dzs(n:Nat):decide ((0:Int) < ((n+1:Nat):Int))=true:=by simp only[decide_eq_true_eq];omega
theorem de0:decide (((0:Nat):Int)=0)=true:=(rfl)
theorem Nh(n:Nat):decide (((n+1:Nat):Int)=0)=false:=by simp only[decide_eq_false_iff_not];omega
end
section
theorem ahG{n:af}{l:List aJ}{v:ByteArray}{key:List ByteArray}(hn:fc (aw n)<=mg)(hl:cA bD l<=mg)(hk:key.length<=mg) :
  G 251 (aw n++[bl l,.str v,bp key])=some (0,[.int .i64 (kR (Ut n l v key))]):=by
 have yV:l.length<=mg:=by simp only[cA]at hl;omega
 have xX:=yZ hn;have h:=nP (b:=lB G r9) l (λi=>(0,[bl l,.str v,bp key,.int .i64 (i:Int)]++aw n)) (λy=>decide (y.name=n.name) && (!(decide (n.kind=4) && !decide (y.value=v)) && (!decide (n.kind=2) ||(!kP (keyOf n y).1 key && !kP key (keyOf n y).1))))
  (1,[bl l,.str v,bp key,.int .i64 l.length,.bool false]++aw n) (λi y=>(0,[.int .i64 (i:Int)])) (by
  intro i y hy;have hi:=aR hy;have hw:=wj hi yV;have e1:=wk hy;have f1:=RT (n:=n) (x:=y) xX (wM hl (aT hy)).1;have f2:=Y_ (a:=(keyOf n y).1) (b:=key) (kO xX) hk;have f3:=Y_ (a:=key) (b:=(keyOf n y).1) hk (kO xX);simp only[ae,aP,ai,ak]at f1;generalize (keyOf n y).1=ky at *;generalize kP ky key=a1 at *;generalize kP key ky=a2 at *;by_cases c1:y.name=n.name
  ·rw[c1]at f1;by_cases c4:n.kind=4
   ·have c2:¬(4:Int)=2:=by decide
    rw[c4]at f1;by_cases cv:y.value=v
    ·simp only[go_sem,bm,r9,ae n,hi,e1,fg,aP y,f1,f2,f3,U_,hw,c1,c4,cv,c2]
    ·simp only[go_sem,bm,r9,ae n,hi,e1,fg,aP y,f1,f2,f3,U_,hw,c1,c4,cv,c2]
   ·by_cases c2:n.kind=2
    ·have c24:¬(2:Int)=4:=by decide
     rw[c2]at f1;cases a1<;>cases a2<;>simp only[go_sem,bm,r9,ae n,hi,e1,fg,aP y,f1,f2,f3,U_,hw,c1,c2,c24,f1]
    ·simp only[go_sem,bm,r9,ae n,hi,e1,fg,aP y,f1,f2,f3,U_,hw,c1,c2,c4]
  ·simp only[go_sem,bm,r9,ae n,hi,e1,fg,aP y,f1,f2,f3,U_,hw,c1]
  ) (by simp only[go_sem,bm,r9,ae n,aq])
 rw[n0]at h;simp only[ae n,ai,ak]at h;refine cq aen (by rw[ae];rfl) ?_;simp only[go_sem,t251,ae n,h];unfold Ut;generalize hf:pV _ l 0=o;cases o with
 |none=>simp only[go_sem,kR]
 |some j=>
  obtain⟨y,h1,_⟩:=dr hf;simp only[go_sem,h1,kR]
theorem ahH{n:af}{l:List aJ}{x:aJ}(hn:fc (aw n)<=mg)(hl:cA bD l<=mg)(hx:x.kids.length<=mg) :
  G 252 (aw n++[bl l]++bD x)=some (0,[.int .i64 (kR (Gz n l x))]):=by
 have xX:=yZ hn;have f1:=RT (n:=n) (x:=x) xX hx;have f2:=ahG (n:=n) (l:=l) (v:=x.value) (key:=(keyOf n x).1) hn hl (kO xX);simp only[ae,aP,ai,ak]at f1 f2;refine cq aeo (by rw[ae,aP];rfl) ?_;unfold Gz;simp only[go_sem,t252,ae n,aP x,f1,f2,DL]
theorem ah9{n:af}{a b:aJ}(hn:fc (aw n)<=mg)(ha:a.kids.length<=mg)(hb:b.kids.length<=mg):G 328 (aw n++bD a++bD b)=some (0,[.bool (yg n a b)]):=by
 have xX:=yZ hn;have f1:=RW (n:=n) (x:=a) xX ha;have f2:=RW (n:=n) (x:=b) xX hb;have f3:=ahg (a:=(keyOf n a).1) (b:=(keyOf n b).1) (kO xX);simp only[ae,aP,ai,ak]at f1 f2;refine cq ae8 (by rw[ae,aP,aP];rfl) ?_;unfold yg lq;obtain⟨v2,c2⟩:∃v,decide (n.kind=2)=v:=⟨_,rfl⟩
 obtain⟨v4,c4⟩:∃v,decide (n.kind=4)=v:=⟨_,rfl⟩
 generalize (keyOf n a).1=x at *;generalize (keyOf n b).1=y at *;generalize (keyOf n a).2=u at *;generalize (keyOf n b).2=w at *;cases v2<;>cases v4<;>simp only[go_sem,afP,ae n,aP,c2,c4,f1,f2]
 all_goals cases u<;>cases w<;>simp only[go_sem,f3,U_,c2,c4]
theorem ah_{n:af}{l:List aJ}{x:aJ}(hn:fc (aw n)<=mg)(hl:cA bD l<=mg)(hx:x.kids.length<=mg) :
  G 329 (aw n++[bl l]++bD x)=some (0,[.int .i64 (kR (pI n l x))]):=by
 have yV:l.length<=mg:=by simp only[cA]at hl;omega
 have xX:=yZ hn;have h:=nP (b:=lB G xd) l (λi=>(0,[bl l,.int .i64 l.length,.int .i64 (i:Int)]++aw n++bD x)) (λy=>decide (y.name=n.name) && (decide (qS n x y=0) && yg n x y))
  (1,[bl l,.int .i64 l.length,.int .i64 l.length,.bool false]++aw n++bD x) (λi y=>(0,[.int .i64 (i:Int)])) (by
  intro i y hy;have hi:=aR hy;have hw:=wj hi yV;have e1:=wk hy;have hyk:=(wM hl (aT hy)).1;have f1:=adf (n:=n) (a:=x) (b:=y) xX hx hyk;have f2:=ah9 (n:=n) (a:=x) (b:=y) hn hx hyk;simp only[ae,aP,ai,ak]at f1 f2;generalize qS n x y=o at *;generalize yg n x y=sk at *;by_cases c1:y.name=n.name
  ·rw[c1]at f1 f2;by_cases co:o=0
   ·subst co;cases sk<;>simp only[go_sem,bm,xd,ae n,hi,e1,fg,aP,f1,f2,U_,hw,c1]
   ·simp only[go_sem,bm,xd,ae n,hi,e1,fg,aP,f1,f2,U_,hw,c1,co]
  ·simp only[go_sem,bm,xd,ae n,hi,e1,fg,aP,f1,f2,U_,hw,c1]
  ) (by simp only[go_sem,bm,xd,ae n,aP x,aq])
 rw[n0]at h;simp only[ae n,aP x,ai,ak]at h;refine cq ae9 (by rw[ae,aP];rfl) ?_;simp only[go_sem,afQ,ae n,aP x,h];unfold pI;generalize hf:pV _ l 0=o;cases o with
 |none=>simp only[go_sem,kR]
 |some j=>
  obtain⟨y,h1,_⟩:=dr hf;simp only[go_sem,h1,kR]
end
section
theorem Zp(M:Nat):∀(s:List af) (a b:List aJ),ah a < M->cA aw s<=mg->cA bD a<=mg->cA bD b<=mg->Rt lp FC (dk s) a->
  G 334 [aA s,bl a,bl b]=some (0,[bl (qd Gz M s a b)]):=by
 induction M with
 |zero=>intro s a b h;omega
 |succ M ih=>
  intro s a b hz hs ha hb hR;have hal:a.length<=mg:=by simp only[cA]at ha;omega
  have hdk:=qM (es:=s);have xW:(dk s).length<=mg:=by simp only[cA]at hdk hs;omega
  have f0:=q81 hs;have hl:=eB (b:=lB G o6) a (λi t=>(0,[bl a,bl b,.int .i64 (i:Int),bl t,aA (dk s)])) (λi=>(a.take i).flatMap (vZ (mB Gz s b) λn x y=>qd Gz M n.kids x.kids y.kids)) (0,[bl a,bl b,.int .i64 a.length,.bool false,bl (a.flatMap (vZ (mB Gz s b) λn x y=>qd Gz M n.kids x.kids y.kids)),aA (dk s)]) (by
   intro i x hn;have hi:=aR hn;have hw:=wj hi hal;have e1:=wk hn;obtain⟨k,n,h1,h2,_,h4⟩:=vT hR (aT hn);have Wl:n.name=x.name:=by
    obtain⟨e,e1,e2⟩:=dr h1;rw[h2]at e1;cases e1
    simpa using e2
   have f1:=WR (l:=dk s) (nm:=x.name) xW;rw[h1]at f1;have J0:fc (aw n)<=mg:=by have:=eS aw (aT h2);omega
   have hnk:cA aw n.kids<=mg:=az (hX n) J0;obtain⟨x1,x2⟩:=wM ha (aT hn);have f2:=ahH (n:=n) (l:=b) (x:=x) J0 hb x1;have g1:=lV 19 false ((dk s).map aw) k (by rw[av];exact aR h2);have g2:=PT h2;have hp:mB Gz s b x=(match Gz n b x with
     |some j=>(match nth b j with
      |some y=>if (decide (n.kind=3) && !decide (y.value=x.value))=true then none else some (n,y)
      |none=>none)
     |none=>none):=by
    unfold mB;simp only[h1,h2];cases Gz n b x with
    |none=>rfl
    |some j=>cases nth b j<;>rfl
   have ht:=az (wA (g:=vZ (mB Gz s b) λn x y=>qd Gz M n.kids x.kids y.kids) (λx=>G8) (a.take i)) (az (List.length_take_le' _ _) hal);rw[C8 hn];generalize (a.take i).flatMap _=t at *;simp only[ae,aP,ai,ak]at f2;unfold vZ;rw[hp];rw[Wl]at f2;cases Ud:Gz n b x with
   |none=>
    rw[Ud]at f2;simp only[go_sem,bm,o6,hi,hw,e1,fg,aP,ae n,f1,kR,f2,g1,g2,DL,hw,Wl,aD]
   |some j=>
    obtain⟨y,hy,_⟩:=dr (show pV _ b 0=some j from Ud);have k0:=abP j;have e2:=wk hy;obtain⟨y1,y2⟩:=wM hb (aT hy);have f3:=ih n.kids x.kids y.kids (by have:=aU (aT hn);have:=aJ.fq x;omega) hnk x2 y2 h4;generalize Dg:qd Gz M n.kids x.kids y.kids=ks at f3;have g3:=abZ x.name x.value ks;have g4:=VY ht x.name x.value ks;have g5:=acH x.name x.value;rw[Ud]at f2;simp only[hy];by_cases c3:n.kind=3
    ·have qk:mD n x ks=[⟨x.name,x.value,ks⟩]:=by simp[mD,c3]
     rw[c3]at f2;by_cases cv:y.value=x.value
     ·simp only[go_sem,bm,o6,hi,hw,e1,fg,aP,ae n,f1,kR,f2,g1,g2,DL,hw,Wl,k0,c3,cv,e2,f3,f2,g3,g4,g5,qk,Dg,dz0,dzs]
     ·simp only[go_sem,bm,o6,hi,hw,e1,fg,aP,ae n,f1,kR,f2,g1,g2,DL,hw,Wl,k0,c3,cv,e2,f2,aD]
    ·by_cases c1:n.kind=1
     ·rw[c1]at f2;cases HK:n.cP<;>rw[HK]at f2
      ·cases ks with
       |nil=>
        have qk:mD n x []=[]:=by simp[mD,c1,HK]
        simp only[go_sem,bm,o6,hi,hw,e1,fg,aP,ae n,f1,kR,f2,g1,g2,DL,hw,Wl,k0,c1,HK,e2,f3,f2,g3,g4,g5,qk,Dg,dz0,dzs,aD]
       |cons z ks=>
        have qk:mD n x (z::ks)=[⟨x.name,x.value,z::ks⟩]:=by simp[mD,c1,HK]
        simp only[go_sem,bm,o6,hi,hw,e1,fg,aP,ae n,f1,kR,f2,g1,g2,DL,hw,Wl,k0,c1,HK,e2,f3,f2,g3,g4,g5,qk,Dg,dz0,dzs]
      ·have qk:mD n x ks=[⟨x.name,x.value,ks⟩]:=by simp[mD,c1,HK]
       simp only[go_sem,bm,o6,hi,hw,e1,fg,aP,ae n,f1,kR,f2,g1,g2,DL,hw,Wl,k0,c1,HK,e2,f3,f2,g3,g4,g5,qk,Dg,dz0,dzs]
     ·have qk:mD n x ks=[⟨x.name,x.value,ks⟩]:=by simp[mD,c1]
      simp only[go_sem,bm,o6,hi,hw,e1,fg,aP,ae n,f1,kR,f2,g1,g2,DL,hw,Wl,k0,c1,c3,e2,f3,f2,g3,g4,g5,qk,Dg,dz0,dzs]
   ) (by simp only[go_sem,bm,o6,aq,aW]) a.length 0 (by omega)
  rw[n0,bg,List.flatMap_nil]at hl;refine cq ae_ rfl ?_;simp only[go_sem,afR,f0,Kc,hl,qd]
theorem Zq(M:Nat):∀(s:List af) (a b:List aJ),ah a < M->cA aw s<=mg->cA bD a<=mg->cA bD b<=mg->Rt lp FC (dk s) a->
  G 336 [aA s,bl a,bl b]=some (0,[bl (qd pI M s a b)]):=by
 induction M with
 |zero=>intro s a b h;omega
 |succ M ih=>
  intro s a b hz hs ha hb hR;have hal:a.length<=mg:=by simp only[cA]at ha;omega
  have hdk:=qM (es:=s);have hl:=eB (b:=lB G o7) a (λi t=>(0,[aA s,bl b,bl a,.int .i64 a.length,.int .i64 (i:Int),bl t])) (λi=>(a.take i).flatMap (vZ (mB pI s b) λn x y=>qd pI M n.kids x.kids y.kids)) (0,[aA s,bl b,bl a,.int .i64 a.length,.int .i64 a.length,.bool false,bl (a.flatMap (vZ (mB pI s b) λn x y=>qd pI M n.kids x.kids y.kids))]) (by
   intro i x hn;have hi:=aR hn;have hw:=wj hi hal;have e1:=wk hn;obtain⟨k,n,h1,h2,_,h4⟩:=vT hR (aT hn);have f1:=adn (l:=s) (nm:=x.name) hs;rw[h1]at f1;simp only[h2,bp,aN,dD,gC]at f1;have J0:fc (aw n)<=mg:=by have:=eS aw (aT h2);omega
   have hnk:cA aw n.kids<=mg:=az (hX n) J0;obtain⟨x1,x2⟩:=wM ha (aT hn);have f2:=ah_ (n:=n) (l:=b) (x:=x) J0 hb x1;have hp:mB pI s b x=(match pI n b x with
     |some j=>(match nth b j with
      |some y=>if (decide (n.kind=3) && !decide (y.value=x.value))=true then none else some (n,y)
      |none=>none)
     |none=>none):=by
    unfold mB;simp only[h1,h2];cases pI n b x with
    |none=>rfl
    |some j=>cases nth b j<;>rfl
   have ht:=az (wA (g:=vZ (mB pI s b) λn x y=>qd pI M n.kids x.kids y.kids) (λx=>G8) (a.take i)) (az (List.length_take_le' _ _) hal);rw[C8 hn];generalize (a.take i).flatMap _=t at *;simp only[ae,aP,ai,ak]at f1 f2;have g3:=RC x.name;unfold vZ;rw[hp];cases Ud:pI n b x with
   |none=>
    rw[Ud]at f2;simp only[go_sem,bm,o7,hi,hw,e1,fg,aP,f1,g3,kR,f2,yc,hw,aD]
   |some j=>
    obtain⟨y,hy,_⟩:=dr (show pV _ b 0=some j from Ud);have k0:=abP j;have e2:=wk hy;obtain⟨y1,y2⟩:=wM hb (aT hy);have f3:=ih n.kids x.kids y.kids (by have:=aU (aT hn);have:=aJ.fq x;omega) hnk x2 y2 h4;generalize Dg:qd pI M n.kids x.kids y.kids=ks at f3;have g6:=abZ x.name x.value ks;have g4:=VY ht x.name x.value ks;have g5:=acH x.name x.value;rw[Ud]at f2;simp only[hy];by_cases c3:n.kind=3
    ·have qk:mD n x ks=[⟨x.name,x.value,ks⟩]:=by simp[mD,c3]
     rw[c3]at f2;by_cases cv:y.value=x.value
     ·simp only[go_sem,bm,o7,hi,hw,e1,fg,aP,f1,g3,kR,f2,yc,hw,k0,c3,cv,e2,f3,g4,g5,g6,qk,Dg]
     ·simp only[go_sem,bm,o7,hi,hw,e1,fg,aP,f1,g3,kR,f2,yc,hw,k0,c3,cv,e2,aD]
    ·by_cases c1:n.kind=1
     ·rw[c1]at f2;have g7:=yc 1 n true;cases HK:n.cP<;>rw[HK]at f2 g7
      ·cases ks with
       |nil=>
        have qk:mD n x []=[]:=by simp[mD,c1,HK]
        simp only[go_sem,bm,o7,hi,hw,e1,fg,aP,f1,g3,kR,f2,yc,hw,k0,c1,HK,e2,g7,f3,qk,aD,Dg,de0]
       |cons z ks=>
        have qk:mD n x (z::ks)=[⟨x.name,x.value,z::ks⟩]:=by simp[mD,c1,HK]
        simp only[go_sem,bm,o7,hi,hw,e1,fg,aP,f1,g3,kR,f2,yc,hw,k0,c1,HK,e2,g7,f3,g4,g5,g6,qk,Dg,Nh]
      ·have qk:mD n x ks=[⟨x.name,x.value,ks⟩]:=by simp[mD,c1,HK]
       simp only[go_sem,bm,o7,hi,hw,e1,fg,aP,f1,g3,kR,f2,yc,hw,k0,c1,HK,e2,g7,f3,g4,g5,g6,qk,Dg]
     ·have qk:mD n x ks=[⟨x.name,x.value,ks⟩]:=by simp[mD,c1]
      simp only[go_sem,bm,o7,hi,hw,e1,fg,aP,f1,g3,kR,f2,yc,hw,k0,c1,c3,e2,f3,g4,g5,g6,qk,Dg]
   ) (by simp only[go_sem,bm,o7,aq,aW]) a.length 0 (by omega)
  rw[n0,bg,List.flatMap_nil]at hl;refine cq afb rfl ?_;simp only[go_sem,afS,Kc,hl,qd]
theorem PB{ip:ByteArray->Bool}{mt:ByteArray->ByteArray->Bool}:∀(m:Nat) (s:List af) (a b:List aJ),Rt ip mt (dk s) a->Rt ip mt (dk s) b->qd Gz m s a b=qd pI m s a b
 |0,_,_,_,_,_=>rfl
 |m+1,s,a,b,ha,hb=>by
  simp only[qd,List.flatMap];refine congrArg List.flatten (List.map_congr_left λx hx=>?_);unfold vZ;rw[U9 ha hb hx];cases hp:mB pI s b x with
  |none=>rfl
  |some p=>
   obtain⟨n,y⟩:=p;obtain⟨r1,r2,_⟩:=U8 NJ ha hb hx hp;exact congrArg (mD n x) (PB m n.kids x.kids y.kids r1 r2)
noncomputable def v7(s:List af)(a b:List aJ):List aJ×Bool:=if (EG s a && EG s b)=true then (qd Gz (ah a+1) s a b,true) else ([],false)
section
variable {s:List af} (hs:cA aw s<=mg)
variable {a b:List aJ} (ha:cA bD a<=mg) (hb:cA bD b<=mg)
include hs ha hb
theorem aia:G 335 [aA s,bl a,bl b]=some (0,[bl (v7 s a b).1,.bool (v7 s a b).2]):=by
 have f1:=WO hs ha;have f2:=WO hs hb;refine cq afa rfl ?_;unfold v7;cases h1:EG s a<;>rw[h1]at f1
 ·simp only[go_sem,ZL,f1,Kc]
 ·have f3:=Zp (ah a+1) s a b (aM _) hs ha hb (yY h1);cases h2:EG s b<;>rw[h2]at f2<;>simp only[go_sem,ZL,f1,f2,f3,Kc]
theorem aib:G 337 [aA s,bl a,bl b]=some (0,[bl (v7 s a b).1,.bool (v7 s a b).2]):=by
 have f1:=WQ hs ha;have f2:=WQ hs hb;refine cq afc rfl ?_;unfold v7;cases h1:EG s a<;>rw[h1]at f1
 ·simp only[go_sem,VI,f1,Kc]
 ·have f3:=Zq (ah a+1) s a b (aM _) hs ha hb (yY h1);cases h2:EG s b<;>rw[h2]at f2
  ·simp only[go_sem,VI,f1,f2,Kc]
  ·rw[<- PB _ _ _ _ (yY h1) (yY h2)]at f3;simp only[go_sem,VI,f1,f2,f3,Kc]
end
end
section
open Go.RowKit
def Yl:KF:=⟨3,.seq (.cz [i_ 6 (.mv (.k (.d (.bool false))))] ⟨[0,1,2],[],[]⟩) (.seq (.cz [i_ 7 (.mv (Z_ 1048576))] ⟨[0,1,2,7],[],[]⟩) (.seq (.cz [i_ 20 (.mv (S_ 0)),i_ 21 (.mv (S_ 7)),i_ 22 (.call 56 [S_ 20,S_ 21]),i_ 7 (.mv (S_ 22))] ⟨[0,1,2,7],[],[]⟩) (.seq (.seq (.cz [i_ 23 (.mv (S_ 7)),i_ 24 (.bin .lss (S_ 23) (Z_ 0))] ⟨[0,1,2,7,24],[],[]⟩) (.cond (S_ 24) (.seq (.cz [i_ 6 (.mv (.k (.d (.bool true))))] ⟨[6],[],[]⟩) (.ret)) (.skip))) (.seq (.cz [i_ 25 (.mv (S_ 1)),i_ 26 (.mv (S_ 7)),i_ 27 (.call 4 [S_ 25,S_ 26]),i_ 7 (.mv (S_ 27))] ⟨[0,1,2,7],[],[]⟩) (.seq (.seq (.cz [i_ 28 (.mv (S_ 7)),i_ 29 (.bin .lss (S_ 28) (Z_ 0))] ⟨[0,1,2,7,29],[],[]⟩) (.cond (S_ 29) (.seq (.cz [i_ 6 (.mv (.k (.d (.bool true))))] ⟨[6],[],[]⟩) (.ret)) (.skip))) (.seq (.cz [i_ 30 (.mv (S_ 2)),i_ 31 (.mv (S_ 7)),i_ 32 (.call 4 [S_ 30,S_ 31]),i_ 7 (.mv (S_ 32))] ⟨[0,1,2,7],[],[]⟩) (.seq (.seq (.cz [i_ 33 (.mv (S_ 7)),i_ 34 (.bin .lss (S_ 33) (Z_ 0))] ⟨[0,1,2,34],[],[]⟩) (.cond (S_ 34) (.seq (.cz [i_ 6 (.mv (.k (.d (.bool true))))] ⟨[6],[],[]⟩) (.ret)) (.skip))) (.seq (.cz [i_ 36 (.mv (S_ 0)),i_ 37 (.call 71 [S_ 36]),i_ 38 (.mv (S_ 1)),i_ 39 (.call 6 [S_ 38]),i_ 40 (.mv (S_ 2)),i_ 41 (.call 6 [S_ 40]),i_ 42 (.call 335 [S_ 37,S_ 39,S_ 41]),i_ 35 (.mv (S_ 42)),i_ 43 (.ext (S_ 35) 0),i_ 44 (.ext (S_ 35) 1),i_ 8 (.mv (S_ 43)),i_ 9 (.mv (S_ 44))] ⟨[0,1,2,8,9],[],[43000]⟩) (.seq (.cz [i_ 45 (.mv (S_ 0)),i_ 46 (.call 71 [S_ 45]),i_ 10 (.mv (S_ 46))] ⟨[0,1,2,8,9,10],[],[43000,47000]⟩) (.seq (.cz [i_ 47 (.mv (S_ 1)),i_ 48 (.call 6 [S_ 47]),i_ 11 (.mv (S_ 48))] ⟨[0,1,2,8,9,10,11],[],[43000,47000,49000]⟩) (.seq (.cz [i_ 49 (.mv (S_ 2)),i_ 50 (.call 6 [S_ 49]),i_ 12 (.mv (S_ 50))] ⟨[0,1,2,8,9,10,11,12],[],[43000,47000,49000,51000]⟩) (.seq (.cz [i_ 52 (.mv (S_ 10)),i_ 53 (.mv (S_ 11)),i_ 54 (.mv (S_ 12)),i_ 55 (.call 337 [S_ 52,S_ 53,S_ 54]),i_ 51 (.mv (S_ 55)),i_ 56 (.ext (S_ 51) 0),i_ 57 (.ext (S_ 51) 1),i_ 13 (.mv (S_ 56)),i_ 14 (.mv (S_ 57))] ⟨[0,1,2,8,9,10,11,12,13,14],[],[43000,47000,49000,51000,56000]⟩) (.seq (.seq (.cz [i_ 58 (.mv (S_ 13)),i_ 59 (.mv (S_ 8)),i_ 60 (.call 10 [S_ 58,S_ 59]),i_ 61 (.not (S_ 60)),i_ 62 (.mv (S_ 61)),g_ 63 62 false (.mv (S_ 14)),g_ 64 62 false (.mv (S_ 9)),g_ 65 62 false (.uS .neq (S_ 63) (S_ 64)),i_ 66 (.pick (S_ 62) (.k (.d (.bool true))) (S_ 65))] ⟨[0,1,2,8,9,10,11,12,13,14,66],[],[43000,47000,49000,51000,56000]⟩) (.cond (S_ 66) (.seq (.cz [i_ 6 (.mv (.k (.d (.bool false))))] ⟨[6],[],[]⟩) (.ret)) (.skip))) (.seq (.seq (.cz [i_ 67 (.mv (S_ 10)),i_ 68 (.mv (S_ 0)),i_ 69 (.call 71 [S_ 68]),i_ 70 (.call 120 [S_ 67,S_ 69]),i_ 71 (.not (S_ 70))] ⟨[0,1,2,8,9,10,11,12,13,14,71],[],[43000,47000,49000,51000,56000]⟩) (.cond (S_ 71) (.seq (.cz [i_ 6 (.mv (.k (.d (.bool false))))] ⟨[6],[],[]⟩) (.ret)) (.skip))) (.seq (.seq (.cz [i_ 72 (.mv (S_ 11)),i_ 73 (.mv (S_ 1)),i_ 74 (.call 6 [S_ 73]),i_ 75 (.call 10 [S_ 72,S_ 74]),i_ 76 (.not (S_ 75))] ⟨[0,1,2,8,9,10,11,12,13,14,76],[],[43000,47000,49000,51000,56000]⟩) (.cond (S_ 76) (.seq (.cz [i_ 6 (.mv (.k (.d (.bool false))))] ⟨[6],[],[]⟩) (.ret)) (.skip))) (.seq (.seq (.cz [i_ 77 (.mv (S_ 12)),i_ 78 (.mv (S_ 2)),i_ 79 (.call 6 [S_ 78]),i_ 80 (.call 10 [S_ 77,S_ 79]),i_ 81 (.not (S_ 80))] ⟨[0,1,2,8,9,10,11,12,13,14,81],[],[43000,47000,49000,51000,56000]⟩) (.cond (S_ 81) (.seq (.cz [i_ 6 (.mv (.k (.d (.bool false))))] ⟨[6],[],[]⟩) (.ret)) (.skip))) (.seq (.cz [i_ 15 (.mv (Z_ 1))] ⟨[0,1,2,8,9,10,11,12,13,14,15],[],[43000,47000,49000,51000,56000]⟩) (.seq (.cz [i_ 82 (.mv (S_ 10)),i_ 83 (.mv (S_ 15)),i_ 84 (.Mp 153 (S_ 82) (S_ 83)),i_ 15 (.mv (S_ 84))] ⟨[0,1,2,8,9,11,12,13,14,15],[],[43000,49000,51000,56000]⟩) (.seq (.cz [i_ 85 (.mv (S_ 11)),i_ 86 (.mv (S_ 15)),i_ 87 (.Mp 17 (S_ 85) (S_ 86)),i_ 15 (.mv (S_ 87))] ⟨[0,1,2,8,9,12,13,14,15],[],[43000,51000,56000]⟩) (.seq (.cz [i_ 88 (.mv (S_ 12)),i_ 89 (.mv (S_ 15)),i_ 90 (.Mp 17 (S_ 88) (S_ 89)),i_ 15 (.mv (S_ 90))] ⟨[0,1,2,8,9,13,14,15],[],[43000,56000]⟩) (.seq (.seq (.cz [i_ 91 (.mv (S_ 15)),i_ 92 (.bin .lss (S_ 91) (Z_ 0)),i_ 93 (.mv (S_ 92)),g_ 94 93 false (.mv (S_ 13)),g_ 95 93 false (.mv (S_ 8)),g_ 96 93 false (.call 10 [S_ 94,S_ 95]),g_ 97 93 false (.not (S_ 96)),i_ 98 (.pick (S_ 93) (.k (.d (.bool true))) (S_ 97)),i_ 99 (.mv (S_ 98)),g_ 100 99 false (.mv (S_ 14)),g_ 101 99 false (.mv (S_ 9)),g_ 102 99 false (.uS .neq (S_ 100) (S_ 101)),i_ 103 (.pick (S_ 99) (.k (.d (.bool true))) (S_ 102))] ⟨[0,1,2,8,9,13,103],[],[43000,56000]⟩) (.cond (S_ 103) (.seq (.cz [i_ 6 (.mv (.k (.d (.bool false))))] ⟨[6],[],[]⟩) (.ret)) (.skip))) (.seq (.cz [i_ 16 (.mv (Z_ 1))] ⟨[0,1,2,8,9,13,16],[],[43000,56000]⟩) (.seq (.cz [i_ 104 (.mv (S_ 13)),i_ 105 (.mv (S_ 16)),i_ 106 (.Mp 17 (S_ 104) (S_ 105)),i_ 16 (.mv (S_ 106))] ⟨[0,1,2,8,9,13,16],[],[43000,56000]⟩) (.seq (.cz [i_ 17 (.mv (Z_ 1))] ⟨[0,1,2,8,9,13,16,17],[],[43000,56000]⟩) (.seq (.cz [i_ 107 (.mv (S_ 13)),i_ 108 (.mv (S_ 17)),i_ 109 (.call 21 [S_ 107,S_ 108]),i_ 17 (.mv (S_ 109))] ⟨[0,1,2,8,9,13,16,17],[],[43000,56000]⟩) (.seq (.seq (.cz [i_ 110 (.mv (S_ 17)),i_ 111 (.bin .lss (S_ 110) (Z_ 0))] ⟨[0,1,2,8,9,13,16,17,111],[],[43000,56000]⟩) (.cond (S_ 111) (.seq (.cz [i_ 6 (.mv (.k (.d (.bool false))))] ⟨[6],[],[]⟩) (.ret)) (.skip))) (.seq (.seq (.cz [i_ 112 (.mv (S_ 17)),i_ 113 (.mv (S_ 16)),i_ 114 (.bin .neq (S_ 112) (S_ 113))] ⟨[0,1,2,8,9,13,16,114],[],[43000,56000]⟩) (.cond (S_ 114) (.seq (.cz [i_ 6 (.mv (.k (.d (.bool false))))] ⟨[6],[],[]⟩) (.ret)) (.skip))) (.seq (.cz [i_ 116 (.mv (S_ 0)),i_ 117 (.call 71 [S_ 116]),i_ 118 (.mv (S_ 1)),i_ 119 (.call 6 [S_ 118]),i_ 120 (.mv (S_ 2)),i_ 121 (.call 6 [S_ 120]),i_ 122 (.call 337 [S_ 117,S_ 119,S_ 121]),i_ 115 (.mv (S_ 122)),i_ 123 (.ext (S_ 115) 0),i_ 124 (.ext (S_ 115) 1),i_ 18 (.mv (S_ 123)),i_ 19 (.mv (S_ 124))] ⟨[8,9,13,16,18,19],[],[43000,56000,123000]⟩) (.seq (.seq (.cz [i_ 125 (.mv (S_ 18)),i_ 126 (.mv (S_ 8)),i_ 127 (.call 10 [S_ 125,S_ 126]),i_ 128 (.not (S_ 127)),i_ 129 (.mv (S_ 128)),g_ 130 129 false (.mv (S_ 19)),g_ 131 129 false (.mv (S_ 9)),g_ 132 129 false (.uS .neq (S_ 130) (S_ 131)),i_ 133 (.pick (S_ 129) (.k (.d (.bool true))) (S_ 132))] ⟨[13,16,133],[],[43000,56000,123000]⟩) (.cond (S_ 133) (.seq (.cz [i_ 6 (.mv (.k (.d (.bool false))))] ⟨[6],[],[]⟩) (.ret)) (.skip))) (.seq (.cz [i_ 17 (.mv (Z_ 1))] ⟨[13,16,17],[],[56000]⟩) (.seq (.cz [i_ 134 (.mv (S_ 13)),i_ 135 (.mv (S_ 17)),i_ 136 (.call 21 [S_ 134,S_ 135]),i_ 17 (.mv (S_ 136))] ⟨[16,17],[],[]⟩) (.seq (.seq (.cz [i_ 137 (.mv (S_ 17)),i_ 138 (.bin .lss (S_ 137) (Z_ 0))] ⟨[16,17,138],[],[]⟩) (.cond (S_ 138) (.seq (.cz [i_ 6 (.mv (.k (.d (.bool false))))] ⟨[6],[],[]⟩) (.ret)) (.skip))) (.seq (.seq (.cz [i_ 139 (.mv (S_ 17)),i_ 140 (.mv (S_ 16)),i_ 141 (.bin .neq (S_ 139) (S_ 140))] ⟨[141],[],[]⟩) (.cond (S_ 141) (.seq (.cz [i_ 6 (.mv (.k (.d (.bool false))))] ⟨[6],[],[]⟩) (.ret)) (.skip))) (.seq (.cz [i_ 6 (.mv (.k (.d (.bool true))))] ⟨[6],[],[]⟩) (.ret))))))))))))))))))))))))))))))))))),[.t 6]⟩
theorem acn:okF Tryz.prog num 338 Yl=true:=by kernel_rfl
end
end Go.Proofs.YtcdjbelccndadaaGreatDoor
