/- Part of the proof. Condition: none. -/
import Derived.Test.YtnnjajingjfjiaaGreatDoorZz17
set_option linter.unusedVariables false
set_option linter.unusedSimpArgs false
set_option linter.unusedSectionVars false
open Bool renaming and_eq_true->ai,false_eq_true->aF,and_self_left->cp,not_eq_true'->cq,false_and->cP,eq_iff_iff->cR,true_and->cW,or_eq_true->da,false_ne_true->dq,eq_false_iff->ej,not_not->fM,not_false->ga,false_or->gA,or_assoc->hY,and_assoc->iy,and_self->jm,or_false->kc,and_false->kH,or_true->ll,not_true->lJ,true_or->mQ,and_eq_false_iff->pw,true->I,false->J
open ByteArray renaming size->og
open Int renaming toNat_natCast->bW,natCast_nonneg->ch,lt_irrefl->fy,zero_add->sn
open List renaming cons_append->au,nil_append->av,length_map->ay,length_cons->aH,length_nil->aJ,append_nil->aK,mem_cons->aL,take_length->aR,take_zero->aV,map_cons->aW,length_take->aY,mem_append->ba,length_append->bh,sizeOf_lt_of_mem->bj,drop_zero->bm,replicate->bn,forall_mem_cons->br,all_eq_true->bw,append_assoc->bB,map_nil->bD,drop_length->bE,nodup_append->bM,map_append->bN,mem_cons_of_mem->bP,mem_cons_self->bQ,mem_map->cj,range->cB,nodup_cons->cC,mem_map_of_mem->cJ,mem_singleton->cT,length_drop->dH,length_eq_one_iff->dP,not_mem_nil->ei,map_id'->eR,pairwise_cons->fh,getElem?_eq_getElem->fu,eraseIdx_sublist->fC,drop_of_length_le->fN,replicate_succ->gE,mem_or_eq_of_mem_set->gL,filter_cons->gZ,isEmpty_nil->g_,isEmpty_cons->iG,take_of_length_le->je,set_cons_zero->jz,length_take_le'->jU,map_take->kg,takeWhile_append_dropWhile->kh,takeWhile_cons->kv,any_eq_true->kI,set_cons_succ->lr,any_cons->nB,map_drop->nC,mem_filter->nE,length_filter_le->px,map_const'->rB,filter_sublist->rF,map_set->rK,getElem_append_left->vf,filter_nil->xM,foldl_cons->xN,takeWhile_prefix->yf,foldl_nil->zt,take->zD
open List.cons renaming sizeOf_spec->bJ,injEq->cl
open Nat renaming reduceEqDiff->aA,lt_irrefl->aC,le_refl->aD,le_trans->aG,lt_succ_self->aP,reduceLeDiff->bl,zero_add->bo,reduceBNe->bz,reduceAdd->bF,add_zero->cd,lt_or_ge->dD,zero_le->jt,sub_self->mZ,reduceMul->qp,mul_one->qD,reduceLT->so,pow_succ->xO
open Option renaming map_eq_some_iff->ak,map_some->aQ,isSome_none->dX,isSome_some->gT,getD_some->jo,some->Z,none->O
open Option.some renaming injEq->ae,inj->ey
open SizeOf renaming sizeOf->aw
open UInt8 renaming ofNat->dz
open Decidable renaming decide->Z'
namespace Go.Proofs.YtnnjajingjfjiaaGreatDoor
set_option maxRecDepth 100000
set_option maxHeartbeats 4000000
section
attribute [go_sem] H9 Xb Yc Ox abe rsl
section
variable (T:Nat->u KF)(cf:Cf)(mf:Mf)(a b:K)(s:St)(d:u Nat)(o:KO)(x y:u (Ex×St))
@[go_sem] theorem y1:cnd T mf (.d (.bool I)) a b s=ev T mf a s:=rfl
@[go_sem] theorem y2:cnd T mf (.d (.bool J)) a b s=ev T mf b s:=rfl
@[go_sem] theorem y3:ife (.d (.bool I)) x y=x:=rfl
@[go_sem] theorem y4:ife (.d (.bool J)) x y=y:=rfl
@[go_sem] theorem y5:gdn cf mf s d o I (.d (.bool I))=Dp cf mf s d o:=rfl
@[go_sem] theorem y6:gdn cf mf s d o J (.d (.bool J))=Dp cf mf s d o:=rfl
@[go_sem] theorem y7:gdn cf mf s d o I (.d (.bool J))=Z (s.put d .vz):=rfl
@[go_sem] theorem y8:gdn cf mf s d o J (.d (.bool I))=Z (s.put d .vz):=rfl
@[go_sem] theorem y9(w:Bool):gdn cf mf s d o w .vz=Z (s.put d .vz):=rfl
end
theorem rJ(a:Int)(t:z)(l:M dx):aZ (.sV 3 J) [E a,.str t,cF l]=Z (.list 3 J [[E a,.str t,cF l]]):=jN 3 _ rfl (by decide)
theorem VJ(a b:Int)(t c:z)(l m:D):aZ (.sV 3 J) [E a,.str t,l,E b,.str c,m]=Z (.list 3 J [[E a,.str t,l],[E b,.str c,m]]):=by
 simp[aZ,chunk]
theorem JL{l:M dx}(h:l.length<=mg)(op:Int)(t:z)(a:M dx):aZ (.app 3 48) [cF l,.list 3 J [[E op,.str t,cF a]]]=Z (cF (l++[⟨op,t,a⟩])):=by
 have h:=eN 3 48 J (l.map i_) [[E op,.str t,cF a]] (by decide) (by simp only[mg,ay,aH,aJ]at *;omega);rw[h];simp[cF,bk]
theorem P1(a:Int)(t:z)(b:M dx):D.list 3 J [[E a,.str t,cF b]]=cF [⟨a,t,b⟩]:=by simp[cF,bk]
theorem P2(a b:Int)(t c:z)(e d:M dx):D.list 3 J [[E a,.str t,cF e],[E b,.str c,cF d]]=cF [⟨a,t,e⟩,⟨b,c,d⟩]:=by simp[cF,bk]
theorem WW{l:M dx}(h:l.length<=mg)(x:dx):aZ (.app 3 48) [cF l,cF [x]]=Z (cF (l++[x])):=by
 have:=JL h x.op x.text x.aa;rw[P1]at this;cases x;exact this
theorem ahw(op:Int)(t:z)(a:M dx):aZ (.app 3 48) [.list 3 J [],.list 3 J [[E op,.str t,cF a]]]=Z (cF [⟨op,t,a⟩]):=JL (l:=[]) (by decide) op t a
theorem cL(p:dx):(⟨p.op,p.text,p.aa⟩:dx)=p:=by cases p;rfl
theorem af1(n:Nat):∀p:dx,aw p < n->yY 64 p=I->G 224 (i_ p)=Z (0,i_ p):=by
 induction n with
 |zero=>intro p h;omega
 |succ n y=>
  intro p C q;have r:=Ef q;have d:∀k∈p.aa,G 224 (i_ k)=Z (0,i_ k):=λk d=>y k (by have:=dx.Kx d;omega) (Ee q d);refine ct t224 (by rw[bk];rfl) ?_;have v:=uw (b:=lB G B3) p.aa (λe=>e) (λi=>(0,[E (i:Int),E p.op,.str p.text,cF p.aa,E 0,.str ⟨#[]⟩,E p.op,.str p.text]))
   (λi a=>(1,[E (i:Int),E p.op,.str p.text,cF p.aa,E 0,.str ⟨#[]⟩,E p.op,.str p.text,cF a]))
   (0,[E 0,.bool J,E p.op,.str p.text,cF p.aa,E 0,.str ⟨#[]⟩,E p.op,.str p.text])
   (λa=>(1,[E p.aa.length,.bool J,E p.op,.str p.text,cF p.aa,E 0,.str ⟨#[]⟩,E p.op,.str p.text,cF a])) (by
    intro k c;have g:=bp c;have o:=wj (i:=0) (n:=p.aa.length) g (by simp only[mg];omega);have f:=d k (bc c);have j:=Nh c;rw[n0]at j;have m:IntKind.i64.wrap 1=1:=wrap_i64 (by decide);rw[bk]at f;have w:(0:Int) < p.aa.length:=by omega
    simp only[go_sem,bG,B3,n0,w,j,sb];simp only[go_sem,bk k,f,MB,rJ,ahw,cL,m]) (by
    intro i k c D;have g:=bp c;have o:=wj (i:=i) (n:=p.aa.length) g (by simp only[mg];omega);have f:=d k (bc c);have j:=Nh c;have A:=λ(op:Int) (t:z) (x:M dx)=>JL (l:=p.aa.take i) (by rw[aY];simp only[mg];omega) op t x;rw[bk]at f;simp only[go_sem,bG,B3,eR,g,j,sb];simp only[go_sem,bk k,f,MB,rJ,A,cL,o]) (by
    intro h;simp only[go_sem,bG,B3,h,n0,aJ,fy]) (by
    intro h;simp only[go_sem,bG,B3,aC,eR])
  rw[n0]at v;simp only[go_sem,t224,bk p,v];cases B:p.aa with
  |nil=>simp only[go_sem,g_];rfl
  |cons s l=>simp only[go_sem,iG,eR]
theorem an7{p:dx}(a:yY 64 p=I):G 224 (i_ p)=Z (0,i_ p):=af1 _ p (aP _) a
section
variable {s:z} {alt:Nat->PR}
theorem Vm(W:s.size<=30){i:Nat}{l:M dx}(X:l.length<=100)(S:wY s i=I)(L:Eo 222 s i 1 3 J (yt alt s i)) :
  ∃(p:dx) (k:Nat) (b:Bool),lB G jw (0,[E 0,.str ⟨#[]⟩,.str s,E (i:Int),.bool J,cF l])=Z (.go (0,[E 0,.str ⟨#[]⟩,.str s,E (k:Int),.bool b,cF (l++[p])]))/\PA s i 1 (tR alt s i) p k b:=by
 have K:s.size<=mg:=by simp only[mg];omega
 have N:l.length<=mg:=by simp only[mg];omega
 simp only[wY,ai,decide_eq_true_eq,cq,decide_eq_false_iff_not]at S;obtain⟨d,g,f⟩:=S;have h:=fH s i d;have fa:=λop t U=>JL N op t U;have r:=λx=>WW N x;obtain⟨j,p,k,b,B,e,F,Q,P,y⟩:=L;simp only[bk,au,av]at e;cases b with
 |true=>
  have a:=λc=>LR (s:=s) (i:=(k:Int)) (c:=c);have v:tR alt s i=O:=by
   unfold tR;cases v:yt alt s i with
   |none=>rfl
   |some q=>rw[v]at y;cases y.1
  rw[v];refine⟨p,k,I,?_,F,Q,P,rfl⟩
  match j,B with
  |0,_=>simp only[go_sem,d,g,f,h,e,MB,rJ,fa,cL,bG,jw,a]
  |1,_=>simp only[go_sem,d,g,f,h,e,vw,rJ,fa,cL,bG,jw,a]
  |2,_=>simp only[go_sem,d,g,f,h,e,rJ,fa,cL,bG,jw,a]
 |false=>
  cases v:yt alt s i with
  |none=>rw[v]at y;cases y
  |some q=>
   rw[v]at y;obtain⟨_,rfl,T⟩:=y;have V:tR alt s i=Z (GP s p k):=by rw[tR,v];rfl
   have o:=TY (n:=64) (by decide) (s:=s) k F;have A:=TX s p k;have D:=an7 F;rw[bk]at D;have Y:i_ ⟨4,eT,[p]⟩=[E 4,.str ⟨#[]⟩,cF [p]]:=bk _;rw[V];unfold GP at o A ⊢;cases c1:ir s k 42 with
   |true=>
    have a:=s_ K c1;have R:=nU c1;rw[c1]at o A;refine⟨⟨4,eT,[p]⟩,k+1,J,?_,o,by omega,by omega,rfl,rfl,by omega⟩
    match j,B with
    |0,_=>simp only[go_sem,d,g,f,h,e,MB,rJ,r,cL,eT,bG,jw,a,P1]
    |1,_=>simp only[go_sem,d,g,f,h,e,vw,rJ,r,cL,eT,bG,jw,a,P1]
    |2,_=>simp only[go_sem,d,g,f,h,e,rJ,r,cL,eT,bG,jw,a,P1]
   |false=>
    have a:=s6 c1;rw[c1]at o A;cases C:ir s k 43 with
    |true=>
     have m:=s_ K C;have R:=nU C;rw[C]at o A;refine⟨⟨2,eT,[p,⟨4,eT,[p]⟩]⟩,k+1,J,?_,o,by omega,by omega,rfl,rfl,by omega⟩
     match j,B with
     |0,_=>simp only[go_sem,d,g,f,h,e,MB,rJ,r,cL,eT,bG,jw,a,m,D,P1,VJ,P2]
     |1,_=>simp only[go_sem,d,g,f,h,e,MB,vw,rJ,r,cL,eT,bG,jw,a,m,D,P1,VJ,P2]
     |2,_=>simp only[go_sem,d,g,f,h,e,MB,rJ,r,cL,eT,bG,jw,a,m,D,P1,VJ,P2]
    |false=>
     have m:=s6 C;rw[C]at o A;cases H:ir s k 63 with
     |true=>
      have w:=s_ K H;have R:=nU H;rw[H]at o A;refine⟨⟨5,eT,[p]⟩,k+1,J,?_,o,by omega,by omega,rfl,rfl,by omega⟩
      match j,B with
      |0,_=>simp only[go_sem,d,g,f,h,e,MB,rJ,r,cL,eT,bG,jw,a,m,w,P1]
      |1,_=>simp only[go_sem,d,g,f,h,e,vw,rJ,r,cL,eT,bG,jw,a,m,w,P1]
      |2,_=>simp only[go_sem,d,g,f,h,e,rJ,r,cL,eT,bG,jw,a,m,w,P1]
     |false=>
      have w:=s6 H;refine⟨p,k,J,?_,F,Q,P,rfl,rfl,T⟩
      match j,B with
      |0,_=>simp only[go_sem,d,g,f,h,e,MB,rJ,fa,cL,bG,jw,a,m,w]
      |1,_=>simp only[go_sem,d,g,f,h,e,vw,rJ,fa,cL,bG,jw,a,m,w]
      |2,_=>simp only[go_sem,d,g,f,h,e,rJ,fa,cL,bG,jw,a,m,w]
def Lsx(l:M dx)(n:Nat):Prop:=l.length<=n/\∀q∈l,yY 64 q=I
theorem pX{l:M dx}{n m:Nat}{p:dx}(h:Lsx l n)(b:yY 64 p=I)(c:n+1<=m):Lsx (l++[p]) m:=by
 refine⟨by rw[bh];have:=h.1;simp;omega,λq a=>?_⟩;rcases ba.1 a with a|a
 ·exact h.2 q a
 ·rw[cT.1 a];exact b
def RdL(i:Nat)(s:z)(l:M dx)(r:u (M dx×Nat))(a:M dx)(k:Nat)(b:Bool):Prop:=Lsx a 40/\i<=k/\k<=s.size/\match r with
 |some q=>b=J/\a=l++q.1/\k=q.2
 |none=>b=I
theorem zJ{i j:Nat}{l a:M dx}{p:dx}{k:Nat}{b:Bool}{r:u (M dx×Nat)}(d:i<=j)(h:RdL j s (l++[p]) r a k b):RdL i s l (r.map λq=>(p::q.1,q.2)) a k b:=by
 obtain⟨n,o,m,c⟩:=h;refine⟨n,by omega,m,?_⟩;cases r with
 |none=>exact c
 |some q=>
  obtain⟨g,f,e⟩:=c;exact⟨g,by rw[f,bB];rfl,e⟩
theorem abP(y:s.size<=30){i0:Nat}(H:∀j,i0 < j->j<=s.size->Eo 223 s j 0 2 J (alt j)):∀(g i:Nat) (l:M dx),i0<=i->i<=s.size->s.size+1 - i<=g->Lsx l i->
  ∃(h:M dx) (k:Nat) (b:Bool),cm (lB G jw) (0,[E 0,.str ⟨#[]⟩,.str s,E (i:Int),.bool J,cF l])=Z (0,[.bool J,E 0,.str ⟨#[]⟩,.str s,E (k:Int),.bool b,cF h])/\RdL i s l (wX alt s g i) h k b:=by
 have F:s.size<=mg:=by simp only[mg];omega
 intro g
 induction g with
 |zero=>intro i l _ v K;omega
 |succ g D=>
  intro i l T v K c;simp only[wX];cases d:wY s i with
  |false=>
   simp only[aF,if_false];refine⟨l,i,J,bg ?_,⟨by have:=c.1;omega,c.2⟩,aD _,v,rfl,by rw[aK],rfl⟩;by_cases a:i < s.size
   ·have w:=fH s i a;simp only[wY,a,decide_true,cW]at d;by_cases r:eB s i=124
    ·simp only[go_sem,bG,jw,a,r,w]
    ·have f:eB s i=41:=by
      by_cases f:eB s i=41
      ·exact f
      ·simp[r,f]at d
     have B:¬(41:Int)=124:=by decide
     simp only[go_sem,bG,jw,a,f,B,w]
   ·simp only[go_sem,bG,jw,a]
  |true=>
   have a:i < s.size:=by simp only[wY,ai,decide_eq_true_eq]at d;exact d.1
   simp only[if_true];obtain⟨p,k,b,x,o,A,m,e⟩:=Vm y (l:=l) (by have:=c.1;omega) d (an6 F a λj S Q=>H j (by omega) Q);cases t:tR alt s i with
   |none=>
    rw[t]at e;subst e;refine⟨l++[p],k,I,(bY x).trans (bg ?_),pX (n:=30) ⟨by have:=c.1;omega,c.2⟩ o (by decide),A,m,rfl⟩;simp only[go_sem,bG,jw]
   |some q=>
    rw[t]at e;obtain⟨rfl,rfl,R⟩:=e;obtain⟨h,C,P,N,L⟩:=D k (l++[p]) (by omega) m (by omega) (pX c o (by omega));exact⟨h,C,P,(bY x).trans N,zJ (by omega) L⟩
theorem IB{k:dx}:aZ (.Wn 3 0 3 J) [cF [k],E 0]=Z (.list 0 J [i_ k]):=by
 have h:nth ([k].map i_) 0=Z (i_ k):=rfl;simp only[aZ,Int.toNat_zero,h,Ng];simp
theorem Iv{k:dx}:aZ .Wj [cF [k],E 0]=Z (.bool J):=(rfl)
theorem I_{l:M dx}:Z' ((l.length:Int)=1)=Z' (l.length=1):=by apply decide_eq_decide.2;omega
theorem Mp{op:Int}{l:M dx}(h:l.length≠1):tZ op l=⟨op,eT,l⟩:=by
 unfold tZ;split
 ·exact absurd rfl h
 ·rfl
theorem akV(m:s.size<=30){i:Nat}(w:i<=s.size)(o:∀j,i < j->j<=s.size->Eo 223 s j 0 2 J (alt j)):Eo 225 s i 0 2 J (DC alt s i):=by
 obtain⟨f,k,b,l,h,y,x,c⟩:=abP m o (s.size+1) i [] (aD _) w (by omega) ⟨by simp,by simp⟩;have e:aZ (.sV 3 J) []=Z (cF []):=xI 3 J;have a:PA s i 0 (DC alt s i) (tZ 2 f) k b:=by
  refine⟨xh (by have:=h.1;omega) h.2,y,x,?_⟩;unfold DC;cases g:wX alt s (s.size+1) i with
  |none=>rw[g]at c;exact c
  |some q=>
   rw[g]at c;obtain⟨v,t,r⟩:=c;subst t r;exact⟨v,rfl,by omega⟩
 by_cases d:f.length=1
 ·obtain⟨p,rfl⟩:=dP.1 d;have n:tZ 2 [p]=p:=rfl;rw[n]at a;refine⟨0,p,k,b,by decide,ct t225 rfl ?_,a⟩;simp only[go_sem,t225,e,l,IB,Iv,bk p]
 ·rw[Mp d]at a;refine⟨1,_,k,b,by decide,ct t225 rfl ?_,a⟩;simp only[go_sem,t225,e,l,I_,d,bk,eT]
theorem abO(B:s.size<=30){i0:Nat}(K:∀j,i0 < j->j<=s.size->Eo 223 s j 0 2 J (alt j)):∀(g i:Nat) (l:M dx),i0<=i->i<=s.size->s.size+1 - i<=g->Lsx l (i+1)->
  ∃(e:M dx) (k:Nat) (b:Bool),cm (lB G uG) (0,[E 0,.str ⟨#[]⟩,.str s,E (i:Int),.bool J,cF l])=Z (0,[.bool J,E 0,.str ⟨#[]⟩,.str s,E (k:Int),.bool b,cF e])/\RdL i s l (C5 alt s g i) e k b:=by
 have H:s.size<=mg:=by simp only[mg];omega
 intro g
 induction g with
 |zero=>intro i l _ A L;omega
 |succ g F=>
  intro i l W A L a;simp only[C5];cases m:ir s i 124 with
  |false=>
   have f:=s6 m;simp only[aF,if_false];refine⟨l,i,J,bg ?_,⟨by have:=a.1;omega,a.2⟩,aD _,A,rfl,by rw[aK],rfl⟩;simp only[go_sem,bG,uG,f]
  |true=>
   have f:=s_ H m;have V:=nU m;have o:l.length<=mg:=by have:=a.1;simp only[mg];omega
   have X:=λx=>WW o x;have fa:=λop t C=>JL o op t C;simp only[if_true];obtain⟨j,p,k,b,y,h,v,U,r,d⟩:=akV B (i:=i+1) (by omega) λj y S=>K j (by omega) S;simp only[bk,au,av]at h;have go:lB G uG (0,[E 0,.str ⟨#[]⟩,.str s,E (i:Int),.bool J,cF l])=Z (.go (0,[E 0,.str ⟨#[]⟩,.str s,E (k:Int),.bool b,cF (l++[p])])):=by
    match j,y with
    |0,_=>simp only[go_sem,bG,uG,f,h,vw,rJ,fa,cL]
    |1,_=>simp only[go_sem,bG,uG,f,h,rJ,fa,cL]
   cases w:DC alt s (i+1) with
   |none=>
    rw[w]at d;subst d;have N:=λc=>LR (s:=s) (i:=(k:Int)) (c:=c);refine⟨l++[p],k,I,(bY go).trans (bg ?_),pX (n:=32) ⟨by have:=a.1;omega,a.2⟩ v (by decide),by omega,r,rfl⟩;simp only[go_sem,bG,uG,N]
   |some q=>
    rw[w]at d;obtain⟨rfl,rfl,T⟩:=d;obtain⟨e,D,R,Q,P⟩:=F k (l++[p]) (by omega) r (by omega) (pX a v (by omega));exact⟨e,D,R,(bY go).trans Q,zJ (by omega) P⟩
theorem af0(r:s.size<=30){i:Nat}(R:i<=s.size)(B:∀j,i < j->j<=s.size->Eo 223 s j 0 2 J (alt j)):Eo 223 s i 0 2 J (GO alt s i):=by
 obtain⟨j,p,k,b,A,g,x,w,v,l⟩:=akV r R B;simp only[bk,au,av]at g;have L:∃(e:M dx) (a:Nat) (d:Bool),cm (lB G uG) (0,[E 0,.str ⟨#[]⟩,.str s,E (k:Int),.bool b,cF [p]])=Z (0,[.bool J,E 0,.str ⟨#[]⟩,.str s,E (a:Int),.bool d,cF e])/\PA s i 0 (GO alt s i) (tZ 3 e) a d:=by
  unfold GO;cases y:DC alt s i with
  |none=>
   rw[y]at l;subst l;have S:=λc=>LR (s:=s) (i:=(k:Int)) (c:=c);exact⟨[p],k,I,bg (by simp only[go_sem,bG,uG,S]),x,w,v,rfl⟩
  |some q=>
   rw[y]at l;obtain⟨rfl,rfl,U⟩:=l;obtain⟨e,a,d,f,C,V,T,o⟩:=abO r B (s.size+1) k [p] w v (by omega) ⟨by simp,by simpa using x⟩;refine⟨e,a,d,f,xh (by have:=C.1;omega) C.2,by omega,T,?_⟩;dsimp only;cases F:C5 alt s (s.size+1) k with
   |none=>rw[F]at o;exact o
   |some q=>
    rw[F]at o;obtain⟨Q,P,N⟩:=o;subst P N;exact⟨Q,rfl,by omega⟩
 obtain⟨e,a,d,f,n⟩:=L;have K:∀(t:Nat×M D) (h:eV G (t223.t) 0 [.str s,E (i:Int),.bool J]=Z t),True:=λ_ _=>trivial;by_cases m:e.length=1
 ·obtain⟨q,rfl⟩:=dP.1 m;have H:tZ 3 [q]=q:=rfl;rw[H]at n;refine⟨0,q,a,d,by decide,ct t223 rfl ?_,n⟩
  match j,A with
  |0,_=>simp only[go_sem,t223,g,vw,rJ,P1,cL,f,IB,Iv,bk q]
  |1,_=>simp only[go_sem,t223,g,rJ,P1,cL,f,IB,Iv,bk q]
 ·rw[Mp m]at n;refine⟨1,_,a,d,by decide,ct t223 rfl ?_,n⟩
  match j,A with
  |0,_=>simp only[go_sem,t223,g,vw,rJ,P1,cL,f,I_,m,bk,eT]
  |1,_=>simp only[go_sem,t223,g,rJ,P1,cL,f,I_,m,bk,eT]
theorem ZK(a:s.size<=30):∀(g i:Nat),i<=s.size->s.size+1 - i<=g->Eo 223 s i 0 2 J (VR s g i)
 |0,i,b,c=>by omega
 |g+1,i,b,c=>af0 a b λj e d=>ZK a g j d (by omega)
end
theorem Am(n:Nat):Z' ((30:Int) < (n:Int))=Z' (30 < n):=by apply decide_eq_decide.2;omega
theorem TJ(a b:Nat):Z' ((a:Int)=(b:Int))=Z' (a=b):=by apply decide_eq_decide.2;omega
theorem akW{s:z}:∃j p,j < 3/\G 226 [.str s]=Z (j,i_ p++[.bool (mh s)])/\∀q,C6 s=Z q->p=q/\yY 64 p=I:=by
 unfold mh C6;by_cases h:30 < s.size
 ·refine⟨0,⟨0,eT,[]⟩,by decide,ct t226 rfl ?_,λq a=>by rw[if_pos h]at a;cases a⟩;rw[if_pos h];simp only[go_sem,t226,Am,h,bk,dX];rfl
 ·rw[if_neg h];obtain⟨j,p,k,b,f,c,i,n,m,e⟩:=ZK (s:=s) (by omega) (s.size+1) 0 (by omega) (by omega);simp only[bk,au,av,n0]at c;cases g:VR s (s.size+1) 0 with
  |none=>
   rw[g]at e;subst e;refine⟨0,⟨0,eT,[]⟩,by decide,ct t226 rfl ?_,λq a=>by cases a⟩
   match j,f with
   |0,_=>simp only[go_sem,t226,Am,h,c,bk,dX];rfl
   |1,_=>simp only[go_sem,t226,Am,h,c,bk,dX];rfl
  |some q=>
   rw[g]at e;obtain⟨rfl,rfl,l⟩:=e;dsimp only;by_cases d:k=s.size
   ·rw[if_pos d];refine⟨j+1,p,by omega,ct t226 rfl ?_,λq a=>by cases a;exact⟨rfl,i⟩⟩
    match j,f with
    |0,_=>simp only[go_sem,t226,Am,h,c,d,bk,gT]
    |1,_=>simp only[go_sem,t226,Am,h,c,d,bk,gT]
   ·rw[if_neg d];refine⟨0,⟨0,eT,[]⟩,by decide,ct t226 rfl ?_,λq a=>by cases a⟩
    match j,f with
    |0,_=>simp only[go_sem,t226,Am,TJ,h,c,d,bk,dX];rfl
    |1,_=>simp only[go_sem,t226,Am,TJ,h,c,d,bk,dX];rfl
theorem af2(s:z):G 227 [.str s]=Z (0,[.bool (mh s)]):=by
 obtain⟨j,p,b,a,_⟩:=akW (s:=s);simp only[bk,au,av]at a;refine ct t227 rfl ?_
 match j,b with
 |0,_=>simp only[go_sem,t227,a]
 |1,_=>simp only[go_sem,t227,a]
 |2,_=>simp only[go_sem,t227,a]
theorem af6{t s:z}(g:s.size<=mg):G 236 [.str t,.str s]=Z (0,[.bool (Dx t s)]):=by
 obtain⟨j,p,f,a,h⟩:=akW (s:=t);simp only[bk,au,av]at a;have n_:∀b,aZ .pl [.bool b]=Z (.bool J):=λb=>rfl;refine ct t236 rfl ?_;unfold Dx;cases d:C6 t with
 |none=>
  have e:mh t=J:=by rw[mh,d];rfl
  rw[e]at a
  match j,f with
  |0,_=>simp only[go_sem,t236,a]
  |1,_=>simp only[go_sem,t236,a]
  |2,_=>simp only[go_sem,t236,a]
 |some q=>
  have e:mh t=I:=by rw[mh,d];rfl
  obtain⟨rfl,i⟩:=h q d;have c:=aoa g i;simp only[bk,au,av]at c;rw[e]at a
  match j,f with
  |0,_=>simp only[go_sem,t236,a,c,n_]
  |1,_=>simp only[go_sem,t236,a,c]
  |2,_=>simp only[go_sem,t236,a,c,n_]
end
section
def bC(f:Nat->Bool):M C:=(cB 256).map λx=>.d (.bool (f x))
def bV(f:Nat->Bool):M RV:=(cB 256).map λx=>.d (.bool (f x))
def eL(f:Nat->Bool)(n:Nat):M (M D):=((cB n).filter f).map λx:Nat=>[D.int .u8 (x:Int)]
def chT(f:Nat->Bool):z:=⟨(((cB 256).filter f).map dz).toArray⟩
theorem mz:((0:Nat):Int)=0:=(rfl)
theorem Tb(f:Nat->Bool)(d:Nat):∀(l:M Nat) (j:Nat) (s:St),ft d j (l.map λx=>RV.d (.bool (f x))) s=(l.map λx=>C.d (.bool (f x)),s)
 |[],j,s=>rfl
 |x::l,j,s=>by
  simp only[aW,ft,Tb f d l (j+1) s]
theorem ai5(f:Nat->Bool)(d j:Nat)(s:St):ft d j (bV f) s=(bC f,s):=Tb f d _ j s
theorem I2(f:Nat->Bool)(i:Nat):∀(l:M Nat),C.kR i (l.map λx=>C.d (.bool (f x)))=l.map λx=>C.d (.bool (f x))
 |[]=>rfl
 |x::l=>by simp only[aW,C.kR,C.kill,I2 f i l]
theorem rZ(f:Nat->Bool)(i:Nat):C.kR i (bC f)=bC f:=I2 f i _
theorem uf(f:Nat->Bool):(bC f).all C.cell=I:=by rw[bC,List.all_map];exact bw.2 λx _=>rfl
theorem tv(f:Nat->Bool):(bC f).all C.const=I:=by rw[bC,List.all_map];exact bw.2 λx _=>rfl
theorem pB(f:Nat->Bool):(bC f).length=256:=by simp[bC]
theorem ach{a:Type}{f:Nat->a}{n x:Nat}(h:x < n):nth ((cB n).map f) x=Z (f x):=by
 rw[ef];simp[h]
theorem aeg(f:Nat->Bool){x:Nat}(h:x < 256):nth (bC f) x=Z (.d (.bool (f x))):=ach h
theorem aba(f:Nat->Bool)(n:Nat):eL f (n+1)=eL f n++(if f n=I then [[D.int .u8 (n:Int)]] else []):=by
 simp only[eL,List.range_succ,List.filter_append,bN]
 congr 1
 by_cases h:f n=I<;>simp[h]
theorem aes(f:Nat->Bool)(n:Nat):(eL f n).length<=n:=by
 have:=px f (cB n)
 simpa [eL] using this
theorem Iq:∀(l:M Nat),bytesOf (l.map λx:Nat=>[D.int .u8 (x:Int)])=Z (l.map λx:Nat=>(x:Int))
 |[]=>rfl
 |x::l=>by simp only[aW,bytesOf,Iq l,aQ]
abbrev wZ:M C:=[.d (.int .i64 0),.d (.str ⟨#[]⟩),.nil 3 J]
def Jz(f:Nat->Bool)(i:Nat):St:=⟨[(1,.ptr 1 0),(2,.ptr 2 0),(3,.ref 5),(6,.d (.int .i64 (i:Int)))],[(1,bC f),(2,wZ)],[(5,⟨eL f i,1,I,I,I,J⟩)]⟩
theorem abS(f:Nat->Bool):ev T tN (.loop AE) (Jz f 0)=Z (.exit 0,⟨[(1,.ptr 1 0),(2,.ptr 2 0),(3,.ref 5),(6,.d (E 256)),(7,.d (.bool J))],[(1,bC f),(2,wZ)],[(5,⟨eL f 256,1,I,I,I,J⟩)]⟩):=by
 refine yp (Jz f) 256 (λh=>by cases h) ?_ ?_
 ·simp only[go_sem,aA,Int.reduceLT,AE,Jz,show ((256:Nat):Int)=256 from rfl]
 ·intro i b;have j:((i:Int) < 256)=True:=by simp;omega
  have g:IntKind.i64.wrap ((i:Int)+1)=((i+1:Nat):Int):=wi b (by decide);have m:IntKind.u8.wrap (i:Int)=(i:Int):=wrap_u8 (by omega);have a:=aeg f b;have e:=aba f i;have n:=aes f i;have l:((eL f i).length+1<=room)=True:=eq_true (by simp only[room];omega);have k:((eL f i).length+1<=maxLen)=True:=eq_true (by simp only[maxLen];omega);cases c:f i with
  |true=>
   rw[c,if_pos rfl]at e;rw[c]at a;simp only[go_sem,aA,bz,so,AE,Jz,j,g,m,a,b,rZ,qD,l,k,e,ch]
  |false=>
   rw[c,if_neg dq,aK]at e;rw[c]at a;simp only[go_sem,aA,AE,Jz,j,g,a,b,qD,e,ch]
theorem ak9(f:Nat->Bool):dM T 276 [.val I (bV f)]=Z ([.val I [.d (E 1),.d (.str (chT f)),.row ⟨[],3,J,I,I,J⟩]],[]):=by
 have b:=abS f;have g:eL f 0=[]:=rfl;have c:bytesOf (eL f 256)=Z (((cB 256).filter f).map λx:Nat=>(x:Int)):=Iq _;have a:(((cB 256).filter f).map λx:Nat=>(x:Int)).map (λn=>dz n.toNat)=((cB 256).filter f).map dz:=by
  rw[List.map_map];rfl
 generalize h:(((cB 256).filter f).map λx:Nat=>(x:Int))=q at c a;have e:(⟨(q.map λn=>dz n.toNat).toArray⟩:z)=chT f:=by rw[a];rfl
 rw[lj (f:=276) rfl rfl];simp only[Jz,g,wZ,show ((0:Nat):Int)=0 from rfl]at b;simp only[go_sem,bF,aA,bl,bz,so,ai5,uf,rZ,b,c,e]
abbrev mgK:Nat:=33554432
abbrev nD(s:z)(i:Int)(b:Bool):A:=.box [.d (.str s),.d (.int .i64 i),.d (.bool b)]
abbrev bt(c:Int):A:=.val J [.d (.int .u8 c)]
abbrev ys(b:Bool):A:=.val J [.d (.bool b)]
theorem Ku{s:z}{i e k c:Int}{b a t:Bool}{op:Int}{tx:z}{kd:RV}(h:(∃es,kd=.d (.list 3 J es))\/∃es,kd=.row ⟨es,3,J,J,I,I⟩)
  (m:dM T 275 [nD s i b,bt 40]=Z ([ys I],[nD s e b])) (l:dM T 280 [nD s e b]=Z ([.val I [.d (E op),.d (.str tx),kd]],[nD s k a]))
  (j:dM T 275 [nD s k a,bt 41]=Z ([ys t],[nD s c a])):dM T 279 [nD s i b]=Z ([.val I [.d (E op),.d (.str tx),kd]],[nD s c (a ||!t)]):=by
 have g:(bn 256 (C.d (.bool J)))=bC λ_=>J:=by rw[bC,rB];simp
 conv at g=>lhs;reduce
 rw[lj (f:=279) rfl rfl,g];rcases h with ⟨es,rfl⟩|⟨es,rfl⟩<;>cases t<;>cases a<;>simp only[go_sem,bF,aA,qp,bl,bz,uf,tv,rZ,pB,m,l,j,bl]
theorem W2(f:Nat->Bool){x:Nat}(h:x < 256):zD x (bC f)++[C.d (.bool I)]++List.drop (x+1) (bC f)=bC λy=>f y ||decide (x=y):=by
 apply List.ext_getElem
 ·simp[bC];omega
 intro i l c;simp only[pB]at c;have e:∀g:Nat->Bool,(bC g)[i]'(by rw[pB];exact c)=C.d (.bool (g i)):=λg=>by simp[bC]
 rw[e];have a:((bC f).take x).length=x:=by simp[bC];omega
 by_cases k:i < x
 ·rw[vf (by simp[a];omega),vf (by omega),List.getElem_take,e];have:¬x=i:=by omega
  simp[this]
 ·by_cases b:i=x
  ·subst b;rw[vf (by simp[a]),List.getElem_append_right (by omega)];simp[a]
  ·rw[List.getElem_append_right (by simp[a];omega),List.getElem_drop];have j:x+1+(i - (zD x (bC f)++[C.d (D.bool I)]).length)=i:=by simp[a];omega
   simp only[j];rw[e];have:¬x=i:=by omega
   simp[this]
theorem zN(f:Nat->Bool):List.drop 256 (bC f)=[]:=fN (by rw[pB];exact aD _)
theorem Se(f:Nat->Bool):zD 256 (bC f)=bC f:=je (by rw[pB];exact aD _)
theorem ZT(f:Nat->Bool)(s:St):∀(l:M Nat),gB (ni s) (l.map λx=>C.d (.bool (f x)))=Z (l.map λx=>RV.d (.bool (f x)))
 |[]=>rfl
 |x::l=>by simp only[aW,gB,ni,ZT f s l,aQ]
theorem alv(f:Nat->Bool)(s:St):gB (ni s) (bC f)=Z (bV f):=ZT f s _
theorem OT(f:Nat->Bool):∀(l:M Nat),rowsOf (l.map λx=>C.d (.bool (f x)))=[]
 |[]=>rfl
 |x::l=>by simp only[aW,rowsOf,OT f l]
theorem ZZ(f:Nat->Bool):rowsOf (bC f)=[]:=OT f _
abbrev vO(x:Nat):Nat->Bool:=λy=>decide (32<=y) && decide (y < x)
def st0(c:M C)(x:Nat):St:=⟨[(0,.ptr 900 0),(2,.ptr 2 0),(3,.ptr 3 0),(5,.d (.int .i64 (x:Int)))],[(2,wZ),(3,bC (vO x)),(900,c)],[]⟩
theorem aed{x:Nat}(h:32<=x):(λy=>vO x y ||decide (x=y))=vO (x+1):=by
 funext y
 simp only[vO];by_cases a:32<=y
 ·by_cases c:y < x
  ·have:y < x+1:=by omega
   simp[a,c,this]
  ·by_cases b:x=y
   ·subst b;simp[a]
   ·have:¬y < x+1:=by omega
    simp[a,c,b,this]
 ·have:¬x=y:=by omega
  simp[a,this]
theorem Vt(c:M C):ev T tN (.loop xC) (st0 c 32)=Z (.exit 1,⟨[(0,.ptr 900 0),(2,.ptr 2 0),(3,.ptr 3 0),(5,.d (E 127)),(28,.d (.bool J))],[(2,wZ),(3,bC (vO 127)),(900,c)],[]⟩):=by
 have h:∀m x,x+m=127->32<=x->ev T tN (.loop xC) (st0 c x)=Z (.exit 1,⟨[(0,.ptr 900 0),(2,.ptr 2 0),(3,.ptr 3 0),(5,.d (E 127)),(28,.d (.bool J))],[(2,wZ),(3,bC (vO 127)),(900,c)],[]⟩):=by
  intro m
  induction m with
  |zero=>
   intro x f _;obtain rfl:x=127:=by omega
   rw[gN];simp only[go_sem,aA,Int.reduceLE,xC,st0,show ((127:Nat):Int)=127 from rfl]
  |succ m e=>
   intro x f a;have l:((x:Int)<=126)=True:=eq_true (by omega);have g:IntKind.i64.wrap ((x:Int)+1)=((x+1:Nat):Int):=wi (n:=127) (by omega) (by decide);have k:(x < 256)=True:=eq_true (by omega);have j:(x+1<=256)=True:=eq_true (by omega);have b:=W2 (vO x) (x:=x) (by omega);rw[aed a]at b;have i:ev T tN xC (st0 c x)=Z (.norm,st0 c (x+1)):=by
    simp only[go_sem,aA,bz,xC,st0,l,g,k,j,b,pB,qD,bo,ch]
   rw[gN,i];exact e (x+1) (by omega) (by omega)
 exact h 95 32 rfl (by omega)
theorem ae3{s:z}{i a:Int}{b:Bool}(j:dM T 275 [nD s i b,bt 40]=Z ([ys J],[nD s i b]))(h:dM T 275 [nD s i b,bt 46]=Z ([ys I],[nD s a b])) :
  dM T 279 [nD s i b]=Z ([.val I [.d (E 1),.d (.str (chT (vO 127))),.row ⟨[],3,J,I,I,J⟩]],[nD s a b]):=by
 have c:(bn 256 (C.d (.bool J)))=bC (vO 32):=by
  have:vO 32=λ_=>J:=by funext y;simp[vO]
  rw[this,bC,rB];simp
 have e:=Vt [.d (.str s),.d (E a),.d (.bool b)];simp only[st0,wZ,show ((32:Nat):Int)=32 from rfl]at e;have g:=ak9 (vO 127)
 conv at c=>lhs;reduce
 rw[lj (f:=279) rfl rfl,c];simp only[go_sem,bF,aA,qp,bl,bz,uf,tv,rZ,pB,zN,Se,alv,ZZ,j,h,e,g,bl]
theorem YW{s:z}{i l a:Int}{b o:Bool}(j:dM T 275 [nD s i b,bt 40]=Z ([ys J],[nD s i b]))(h:dM T 275 [nD s i b,bt 46]=Z ([ys J],[nD s i b]))(g:dM T 275 [nD s i b,bt 91]=Z ([ys J],[nD s i b]))
  (e:dM T 278 [nD s i b]=Z ([.val J [.d (.int .u8 a)]],[nD s l o])) :
  dM T 279 [nD s i b]=Z ([.val I [.d (E 1),.d (.str ⟨[dz a.toNat].toArray⟩),.row ⟨[],3,J,I,I,J⟩]],[nD s l (o ||(Z' (a=95) ||decide (a=46)))]):=by
 have m:(bn 256 (C.d (.bool J)))=bC (vO 32):=by
  have:vO 32=λ_=>J:=by funext y;simp[vO]
  rw[this,bC,rB];simp
 conv at m=>lhs;reduce
 rw[lj (f:=279) rfl rfl,m];by_cases c1:a=95
 ·have c:(a=95)=True:=eq_true c1;simp only[go_sem,bF,aA,bl,bz,so,uf,tv,rZ,pB,zN,j,h,g,e,c,bytesOf,bl]
 ·have c:(a=95)=False:=eq_false c1;by_cases n:a=46
  ·have k:(a=46)=True:=eq_true n;simp only[go_sem,bF,aA,bl,bz,so,uf,tv,rZ,pB,zN,j,h,g,e,c,k,bytesOf,bl]
  ·have k:(a=46)=False:=eq_false n;simp only[go_sem,bF,aA,bl,bz,so,uf,tv,rZ,pB,zN,j,h,g,e,c,k,bytesOf,bl]
abbrev rC(s:z)(i:Int)(b:Bool):M C:=[.d (.str s),.d (.int .i64 i),.d (.bool b)]
def Z7(c:M C)(n:Nat)(a x:Nat)(f:Nat->Bool):St:=⟨[(0,.ptr 900 0),(2,.ptr 2 0),(3,.ptr 3 0),(6,.d (.int .i64 (n:Int))),(8,.d (.int .u8 (a:Int))),(9,.d (.int .i64 (x:Int)))],[(2,wZ),(3,bC f),(900,c)],[]⟩
def rg(f:Nat->Bool)(x a:Nat):Nat->Bool:=λy=>f y ||(Z' (x<=y) && Z' (y<=a))
theorem ad1{f:Nat->Bool}{x a:Nat}(h:a < x):rg f x a=f:=by
 funext y
 unfold rg;by_cases b:x<=y
 ·have:¬y<=a:=by omega
  simp[this]
 ·simp[b]
theorem ao9{f:Nat->Bool}{x a:Nat}(h:x<=a):rg (λy=>f y ||decide (x=y)) (x+1) a=rg f x a:=by
 funext y
 unfold rg;by_cases b:x=y
 ·subst b;simp[h]
 ·by_cases c:x<=y
  ·have:x+1<=y:=by omega
   simp[b,c,this]
  ·have:¬x+1<=y:=by omega
   simp[b,c,this]
theorem I5(c:M C)(n a:Nat)(j:a < 256):∀(m x:Nat) (f:Nat->Bool),x+m=a+1->∃b:Int,ev T tN (.loop qg) (Z7 c n a x f)=Z (.exit 5,⟨[(0,.ptr 900 0),(2,.ptr 2 0),(3,.ptr 3 0),(6,.d (E (n:Int))),(8,.d (.int .u8 (a:Int))),(9,.d (E b)),(72,.d (.bool J))],[(2,wZ),(3,bC (rg f x a)),(900,c)],[]⟩)
 |0,x,f,k=>by
  have h:((x:Int)<=(a:Int))=False:=eq_false (by omega);have g:IntKind.i64.wrap (a:Int)=(a:Int):=bH (by omega);refine⟨x,?_⟩;rw[ad1 (by omega),gN];simp only[go_sem,aA,qg,Z7,h,g]
 |m+1,x,f,k=>by
  have h:((x:Int)<=(a:Int))=True:=eq_true (by omega);have e:IntKind.i64.wrap (a:Int)=(a:Int):=bH (by omega);have g:IntKind.i64.wrap ((x:Int)+1)=((x+1:Nat):Int):=wi (n:=256) (by omega) (by decide);have q:(x < 256)=True:=eq_true (by omega);have p:(x+1<=256)=True:=eq_true (by omega);have l:=W2 f (x:=x) (by omega);obtain⟨b,i⟩:=I5 c n a j m (x+1) (λy=>f y ||decide (x=y)) (by omega);rw[ao9 (by omega)]at i;have o:ev T tN qg (Z7 c n a x f)=Z (.norm,Z7 c n a (x+1) (λy=>f y ||decide (x=y))):=by
   simp only[go_sem,aA,bz,qg,Z7,h,g,e,q,p,l,pB,qD,bo,ch]
  refine⟨b,?_⟩;rw[gN,o];exact i
theorem FL(c:M C)(n a x:Nat)(f:Nat->Bool)(e:a < 256)(j:x < 256):∃b:Int,ev T tN (.loop qg) (Z7 c n a x f)=Z (.exit 5,⟨[(0,.ptr 900 0),(2,.ptr 2 0),(3,.ptr 3 0),(6,.d (E (n:Int))),(8,.d (.int .u8 (a:Int))),(9,.d (E b)),(72,.d (.bool J))],[(2,wZ),(3,bC (rg f x a)),(900,c)],[]⟩):=by
 by_cases h:x<=a+1
 ·exact I5 c n a e (a+1 - x) x f (by omega)
 ·have i:((x:Int)<=(a:Int))=False:=eq_false (by omega);have g:IntKind.i64.wrap (a:Int)=(a:Int):=bH (by omega);refine⟨x,?_⟩;rw[ad1 (by omega),gN];simp only[go_sem,aA,qg,Z7,i,g]
def HC(s:z)(i:Int)(b:Bool)(n:Nat)(f:Nat->Bool):St:=⟨[(0,.ptr 900 0),(2,.ptr 2 0),(3,.ptr 3 0),(6,.d (.int .i64 (n:Int)))],[(2,wZ),(3,bC f),(900,rC s i b)],[]⟩
theorem Fh{s:z}{i B i2 i3:Int}{o b3 t:Bool}{n a z0:Nat}{f:Nat->Bool}(H:n<=mgK)(y:a < 256)(F:z0 < 256)(r:n=0\/dM T 275 [nD s i J,bt 93]=Z ([ys J],[nD s i J]))
  (m:dM T 278 [nD s i J]=Z ([.val J [.d (.int .u8 (a:Int))]],[nD s B o]))
  (l:dM T 275 [nD s B o,bt 126]=Z ([ys t],[nD s i2 o]))
  (G:t=I->dM T 278 [nD s i2 o]=Z ([.val J [.d (.int .u8 (z0:Int))]],[nD s i3 b3])) :
  ev T tN iL (HC s i J n f)=Z (.norm,HC s (if t then i3 else i2) ((if t then b3 else o) ||(t && Z' (z0 < a))) (n+1) (rg f a (if t then z0 else a))):=by
 have e:IntKind.i64.wrap ((n:Int)+1)=((n+1:Nat):Int):=wi (n:=mgK+1) (by omega) (by decide);have c:IntKind.i64.wrap (a:Int)=(a:Int):=bH (by omega);have A:∀(P:Prop),(n=0->P)->(¬n=0->dM T 275 [nD s i J,bt 93]=Z ([ys J],[nD s i J])->P)->P:=λP D C=>by
  by_cases h:n=0
  ·exact D h
  ·rcases r with r|r
   ·exact absurd r h
   ·exact C h r
 cases t with
 |false=>
  obtain⟨w,b⟩:=FL (rC s i2 o) n a a f y y;have k:((a:Int) < (a:Int))=False:=eq_false (by omega);simp only[Z7]at b;refine A _ (λj=>?_) (λj q=>?_)
  ·subst j;simp only[show ((0:Nat):Int)=0 from rfl,bo,sn]at b e ⊢;simp only[go_sem,bF,aA,bl,bz,iL,HC,mz,m,l,k,c,b,e,sn]
  ·have p:((n:Int)=0)=False:=eq_false (by omega);simp only[go_sem,bF,aA,bl,bz,iL,HC,m,l,q,p,k,c,b,e]
 |true=>
  have g:=G rfl;have fin:∀(x:Bool),x=(b3 ||decide (z0 < a))->∃w:Int,ev T tN (.loop qg) (Z7 (rC s i3 x) n z0 a f)=Z (.exit 5,⟨[(0,.ptr 900 0),(2,.ptr 2 0),(3,.ptr 3 0),(6,.d (E (n:Int))),(8,.d (.int .u8 (z0:Int))),(9,.d (E w)),(72,.d (.bool J))],[(2,wZ),(3,bC (rg f a z0)),(900,rC s i3 x)],[]⟩):=λx _=>FL _ n z0 a f F y;by_cases k:z0 < a
  ·obtain⟨w,b⟩:=fin I (by simp[k]);have v:((z0:Int) < (a:Int))=True:=eq_true (by omega);simp only[Z7]at b;simp only[k,decide_true,jm,ll,if_true];refine A _ (λj=>?_) (λj q=>?_)
   ·subst j;simp only[show ((0:Nat):Int)=0 from rfl,bo,sn]at b e ⊢;simp only[go_sem,bF,aA,bl,bz,iL,HC,mz,m,l,g,v,c,b,e,sn]
   ·have p:((n:Int)=0)=False:=eq_false (by omega);simp only[go_sem,bF,aA,bl,bz,iL,HC,m,l,g,q,p,v,c,b,e]
  ·obtain⟨w,b⟩:=fin b3 (by simp[k]);have v:((z0:Int) < (a:Int))=False:=eq_false (by omega);simp only[Z7]at b;simp only[k,decide_false,kH,kc,if_true];refine A _ (λj=>?_) (λj q=>?_)
   ·subst j;simp only[show ((0:Nat):Int)=0 from rfl,bo,sn]at b e ⊢;simp only[go_sem,bF,aA,bl,bz,iL,HC,mz,m,l,g,v,c,b,e,sn]
   ·have p:((n:Int)=0)=False:=eq_false (by omega);simp only[go_sem,bF,aA,bl,bz,iL,HC,m,l,g,q,p,v,c,b,e]
theorem IY{s:z}{i:Int}{n:Nat}{f:Nat->Bool}:ev T tN (.loop iL) (HC s i I n f)=Z (.exit 3,⟨[(0,.ptr 900 0),(2,.ptr 2 0),(3,.ptr 3 0),(6,.d (E (n:Int))),(51,.d (.bool J))],[(2,wZ),(3,bC f),(900,rC s i I)],[]⟩):=by
 rw[gN];simp only[go_sem,bF,aA,bl,iL,HC]
theorem Va{s:z}{i a:Int}{n:Nat}{f:Nat->Bool}(e:n≠0)(c:dM T 275 [nD s i J,bt 93]=Z ([ys I],[nD s a J])) :
  ev T tN (.loop iL) (HC s i J n f)=Z (.exit 3,⟨[(0,.ptr 900 0),(2,.ptr 2 0),(3,.ptr 3 0),(6,.d (E (n:Int))),(51,.d (.bool J))],[(2,wZ),(3,bC f),(900,rC s a J)],[]⟩):=by
 have b:((n:Int)=0)=False:=eq_false (by omega);rw[gN];simp only[go_sem,bF,aA,bl,bz,iL,HC,c,b]
theorem YV{s:z}{i a k:Int}{b g:Bool}{n:Int}{f:Nat->Bool}(m:dM T 275 [nD s i b,bt 40]=Z ([ys J],[nD s i b]))(l:dM T 275 [nD s i b,bt 46]=Z ([ys J],[nD s i b]))(j:dM T 275 [nD s i b,bt 91]=Z ([ys I],[nD s a b]))
  (e:ev T tN (.loop iL) (HC s a b 0 λ_=>J)=Z (.exit 3,⟨[(0,.ptr 900 0),(2,.ptr 2 0),(3,.ptr 3 0),(6,.d (E n)),(51,.d (.bool J))],[(2,wZ),(3,bC f),(900,rC s k g)],[]⟩)) :
  dM T 279 [nD s i b]=Z ([.val I [.d (E 1),.d (.str (chT f)),.row ⟨[],3,J,I,I,J⟩]],[nD s k g]):=by
 have c:(bn 256 (C.d (.bool J)))=bC λ_=>J:=by rw[bC,rB];simp
 have h:=ak9 f;simp only[HC,mz]at e
 conv at c=>lhs;reduce
 rw[lj (f:=279) rfl rfl,c];simp only[go_sem,bF,aA,qp,bl,bz,uf,tv,rZ,pB,zN,Se,alv,ZZ,m,l,j,e,h,bl]
end
section
theorem nX{s:z}{i:Nat}{c:Int}{b:Bool}(e:s.size<=mg)(h:ir s i c=I):G 275 [.str s,E (i:Int),.bool b,.int .u8 c]=Z (0,[.bool I,.str s,E ((i+1:Nat):Int),.bool b]):=by
 obtain⟨a,f⟩:=mL.1 h;have d:=wj a e;refine ct t275 rfl ?_;simp only[go_sem,t275,a,f,fH _ _ a,d]
theorem oK{s:z}{i:Nat}{c:Int}{b:Bool}(h:ir s i c=J):G 275 [.str s,E (i:Int),.bool b,.int .u8 c]=Z (0,[.bool J,.str s,E (i:Int),.bool b]):=by
 refine ct t275 rfl ?_;by_cases a:i < s.size
 ·have d:=Td h a;simp only[go_sem,t275,a,d,fH _ _ a]
 ·simp only[go_sem,t275,a]
theorem ak_(b:Int):G 277 [.int .u8 b]=Z (0,[.bool (P5 b)]):=by
 refine ct t277 rfl ?_;unfold P5;cases f:fO 97 122 b<;>cases e:fO 48 57 b<;>simp only[go_sem,t277,agc,ak6,f,e]
 by_cases d:b=95
 ·simp only[go_sem,d]
 ·by_cases c:b=45
  ·simp only[go_sem,c]
  ·by_cases a:b=46
   ·simp only[go_sem,a]
   ·simp only[go_sem,d,c,a]
def Cn(s:z)(i:Nat):Bool:=Z' (i < s.size) && P5 (eB s i)
theorem LS{s:z}{i:Nat}{b:Bool}(f:s.size<=mg)(h:Cn s i=I):G 278 [.str s,E (i:Int),.bool b]=Z (0,[.int .u8 (eB s i),.str s,E ((i+1:Nat):Int),.bool b]):=by
 simp only[Cn,ai,decide_eq_true_eq]at h;obtain⟨a,g⟩:=h;have e:=wj a f;have c:=ak_ (eB s i);have k:=fH s i a;have j:=alG i (by omega);have d:¬s.size<=i:=by omega
 rw[g]at c;refine ct t278 rfl ?_;simp only[go_sem,t278,pc,d,c,k,j,e]
theorem GU{s:z}{i:Nat}{b:Bool}(h:Cn s i=J):G 278 [.str s,E (i:Int),.bool b]=Z (0,[.int .u8 0,.str s,E (i:Int),.bool I]):=by
 refine ct t278 rfl ?_;by_cases c:i < s.size
 ·simp only[Cn,c,decide_true,cW]at h;have d:=ak_ (eB s i);have e:=fH s i c;have a:¬s.size<=i:=by omega
  rw[h]at d;simp only[go_sem,t278,pc,a,d,e]
 ·have a:s.size<=i:=by omega
  simp only[go_sem,t278,pc,a]
theorem agi(n:Nat):∀p:dx,aw p < n->yY 64 p=I->G 281 (i_ p)=Z (0,i_ p):=by
 induction n with
 |zero=>intro p h;omega
 |succ n r=>
  intro p x e;have f:=Ef e;have d:∀k∈p.aa,G 281 (i_ k)=Z (0,i_ k):=λk d=>r k (by have:=dx.Kx d;omega) (Ee e d);refine ct t281 (by rw[bk];rfl) ?_;have g:=cN (b:=lB G K_) p.aa (λi (a:M dx)=>(0,[cF p.aa,E p.aa.length,E (i:Int),E p.op,.str p.text,cF p.aa,E 0,.str ⟨#[]⟩,cF a])) (λi=>p.aa.take i) (0,[cF p.aa,E p.aa.length,E p.aa.length,.bool J,E p.op,.str p.text,cF p.aa,E 0,.str ⟨#[]⟩,cF p.aa]) (by
   intro i k c;have j:=bp c;have s:=wj (i:=i) (n:=p.aa.length) j (by simp only[mg];omega);have m:=d k (bc c);have w:=Nh c;have v:=λ(op:Int) (t:z) (q:M dx)=>JL (l:=p.aa.take i) (by rw[aY];simp only[mg];omega) op t q;rw[bk]at m;rw[bZ _ _ _ c];simp only[go_sem,bG,K_,j,w,sb];simp only[go_sem,bk k,m,MB,rJ,v,cL,s]) (by
   rw[aR];simp only[go_sem,bG,K_,aC]) p.aa.length 0 (by omega)
  have o:aZ (.sV 3 J) []=Z (cF []):=xI 3 J;rw[n0,aV]at g;simp only[go_sem,t281,bk p,o,g]
theorem aou{p:dx}(a:yY 64 p=I):G 281 (i_ p)=Z (0,i_ p):=agi _ p (aP _) a
theorem wO{s:z}{i d:Nat}{c:Int}{b t:Bool}(h:G 275 [.str s,E (i:Int),.bool b,.int .u8 c]=Z (0,[.bool t,.str s,E (d:Int),.bool b])):dM T 275 [nD s i b,bt c]=Z ([ys t],[nD s d b]):=by
 obtain⟨a,r,v,j,g,f,e⟩:=Ih T qq 275 _ rfl _ _ _ h;cases j;cases g;cases f
 exact e
theorem Lt{s:z}{i c:Nat}{a:Int}{b e:Bool}(h:G 278 [.str s,E (i:Int),.bool b]=Z (0,[.int .u8 a,.str s,E (c:Int),.bool e])):dM T 278 [nD s i b]=Z ([.val J [.d (.int .u8 a)]],[nD s c e]):=by
 obtain⟨l,r,v,k,j,g,f⟩:=Ih T qq 278 _ rfl _ _ _ h;cases k;cases j;cases g
 exact f
theorem Zi{s:z}{i k:Nat}{p:dx}{b a:Bool}(h:G 280 [.str s,E (i:Int),.bool b]=Z (0,i_ p++[.str s,E (k:Int),.bool a])) :
  dM T 280 [nD s i b]=Z ([.val I [.d (E p.op),.d (.str p.text),.d (.list 3 J (p.aa.map i_))]],[nD s k a]):=by
 rw[bk]at h;obtain⟨j,r,v,g,f,e,c⟩:=Ih T qq 280 _ rfl _ _ _ h;cases g;cases f;cases e
 exact c
theorem Zj{s:z}{i k:Nat}{p:dx}{b a:Bool}(h:G 280 [.str s,E (i:Int),.bool b]=Z (1,i_ p++[.str s,E (k:Int),.bool a])) :
  dM T 280 [nD s i b]=Z ([.val I [.d (E p.op),.d (.str p.text),.row ⟨p.aa.map i_,3,J,J,I,I⟩]],[nD s k a]):=by
 rw[bk]at h;obtain⟨j,r,v,g,f,e,c⟩:=Ih T qq 280 _ rfl _ _ _ h;cases g;cases f;cases e
 exact c
theorem Yg{s:z}{i k:Nat}{p:dx}{b a:Bool}(h:dM T 279 [nD s i b]=Z ([.val I [.d (E p.op),.d (.str p.text),.d (.list 3 J (p.aa.map i_))]],[nD s k a])) :
  G 279 [.str s,E (i:Int),.bool b]=Z (0,i_ p++[.str s,E (k:Int),.bool a]):=by
 rw[bk];exact yx (i:=279) (sg:=⟨279,[.box [.d,.d,.d]],_⟩) (v:=([.val I [.d,.d,.d]],[.box [.d,.d,.d]])) rfl rfl h rfl rfl
theorem Yh{s:z}{i k:Nat}{p:dx}{b a:Bool}(h:dM T 279 [nD s i b]=Z ([.val I [.d (E p.op),.d (.str p.text),.row ⟨p.aa.map i_,3,J,J,I,I⟩]],[nD s k a])) :
  G 279 [.str s,E (i:Int),.bool b]=Z (1,i_ p++[.str s,E (k:Int),.bool a]):=by
 rw[bk];exact yx (i:=279) (sg:=⟨279,[.box [.d,.d,.d]],_⟩) (v:=([.val I [.d,.d,.row 3 J J I I]],[.box [.d,.d,.d]])) rfl rfl h rfl rfl
theorem BG{s:z}{i k:Nat}{t:z}{op:Int}{b a:Bool}(h:dM T 279 [nD s i b]=Z ([.val I [.d (E op),.d (.str t),.row ⟨[],3,J,I,I,J⟩]],[nD s k a])) :
  G 279 [.str s,E (i:Int),.bool b]=Z (2,i_ ⟨op,t,[]⟩++[.str s,E (k:Int),.bool a]):=by
 rw[bk];exact yx (i:=279) (sg:=⟨279,[.box [.d,.d,.d]],_⟩) (v:=([.val I [.d,.d,.row 3 J I I J]],[.box [.d,.d,.d]])) rfl rfl h rfl rfl
theorem Xh(f:Nat->Bool):chT f=bsT f:=(rfl)
theorem any_eq:chT (vO 127)=Ut:=by
 rw[Xh,Ut]
 congr 1
 funext x
 simp only[vO]
 congr 1
 apply decide_eq_decide.2
 omega
theorem ai6(f:Nat->Bool)(a b:Nat)(l:M (Int×Int)):(λy:Nat=>rg f a b y ||qf l y)=λy=>f y ||qf (((a:Int),(b:Int))::l) y:=YN f a b l
def eC(s:z)(k:Nat)(b:Bool)(n:Int)(f:Nat->Bool):u (Ex×St):=Z (.exit 3,⟨[(0,.ptr 900 0),(2,.ptr 2 0),(3,.ptr 3 0),(6,.d (.int .i64 n)),(51,.d (.bool J))],[(2,wZ),(3,bC f),(900,rC s k b)],[]⟩)
theorem Vu{s:z}(hs:s.size<=30):∀(g i n:Nat) (f:Nat->Bool),i<=s.size->s.size+1 - i<=g->n<=i->(n=0->ir s i 93=J)->
  ∃(k:Nat) (b:Bool) (t:Nat->Bool) (C:Int),ev T tN (.loop iL) (HC s i J n f)=eC s k b C t/\i<=k/\k<=s.size/\(match iQ s g i with
   |some q=>b=J/\k=q.2/\t=λy=>f y ||qf q.1 y
   |none=>b=I):=by
 have x:s.size<=mg:=by simp only[mg];omega
 intro g
 induction g with
 |zero=>intro i n f h1 h2;omega
 |succ g ih=>
  intro i n f hi hg hn h0;cases w:ir s i 93 with
  |true=>
   have Y:=nU w;have e:=Va (f:=f) (n:=n) (λh=>by rw[h0 h]at w;cases w) (wO (nX (b:=J) x w));refine⟨i+1,J,f,n,e,by omega,by omega,?_⟩;have:iQ s (g+1) i=Z ([],i+1):=by simp only[iQ,w,if_true]
   rw[this];exact⟨rfl,rfl,by funext y;simp[qf]⟩
  |false=>
   have F:n=0\/dM T 275 [nD s i J,bt 93]=Z ([ys J],[nD s i J]):=.inr (wO (oK w));have l:n<=mgK:=by simp only[mgK];omega
   have r:∀(k a c:Nat),i<=k->k<=s.size->sY s i=O->ev T tN iL (HC s i J n f)=Z (.norm,HC s k I (n+1) (rg f a c))->
     ∃(k:Nat) (b:Bool) (t:Nat->Bool) (C:Int),ev T tN (.loop iL) (HC s i J n f)=eC s k b C t/\i<=k/\k<=s.size/\(match iQ s (g+1) i with
      |some q=>b=J/\k=q.2/\t=λy=>f y ||qf q.1 y
      |none=>b=I):=by
    intro k a c W R m d;have hx:=IY (s:=s) (i:=(k:Int)) (n:=n+1) (f:=rg f a c);refine⟨k,I,rg f a c,((n+1:Nat):Int),?_,W,R,?_⟩
    ·rw[gN,d];exact hx
    ·have:iQ s (g+1) i=O:=by simp only[iQ,w,aF,if_false,m]
     rw[this]
   have Yl:∀(k a c:Nat) (N:Int×Int),i < k->k<=s.size->sY s i=Z (N,k)->N=((a:Int),(c:Int))->ev T tN iL (HC s i J n f)=Z (.norm,HC s k J (n+1) (rg f a c))->
     ∃(k:Nat) (b:Bool) (t:Nat->Bool) (C:Int),ev T tN (.loop iL) (HC s i J n f)=eC s k b C t/\i<=k/\k<=s.size/\(match iQ s (g+1) i with
      |some q=>b=J/\k=q.2/\t=λy=>f y ||qf q.1 y
      |none=>b=I):=by
    intro k a c N W R m vv d;obtain⟨k',b',t,C,e1,e2,e3,Q⟩:=ih k (n+1) (rg f a c) R (by omega) (by omega) (λh=>by omega);refine⟨k',b',t,C,?_,by omega,e3,?_⟩
    ·rw[gN,d];exact e1
    ·have:iQ s (g+1) i=(iQ s g k).map λp=>(N::p.1,p.2):=by simp only[iQ,w,aF,if_false,m]
     rw[this];cases X:iQ s g k with
     |none=>rw[X]at Q;exact Q
     |some q=>
      rw[X]at Q;obtain⟨h5,h6,h7⟩:=Q;refine⟨h5,h6,?_⟩;rw[h7,vv];exact ai6 f a c q.1
   cases P:Cn s i with
   |false=>
    have m:sY s i=O:=by
     have B:(Z' (i < s.size) && P5 (eB s i))=J:=P;simp only[sY,B,aF,if_false]
    have A:=Lt (GU (b:=J) P);cases j:ir s i 126 with
    |false=>
     have d:=Fh (a:=0) (z0:=0) (f:=f) (i3:=0) (b3:=J) l (by decide) (by decide) F A (wO (oK (b:=I) j)) (λh=>by cases h);exact r i 0 0 (aD _) hi m (by simpa using d)
    |true=>
     have Y:=nU j;cases v:Cn s (i+1) with
     |false=>
      have d:=Fh (a:=0) (z0:=0) (f:=f) l (by decide) (by decide) F A (wO (nX (b:=I) x j)) (λ_=>Lt (GU (b:=I) v));exact r (i+1) 0 0 (by omega) (by omega) m (by simpa using d)
     |true=>
      obtain⟨c,S,G⟩:=zM s (i+1);have L:=Lt (LS (b:=I) x v);rw[G]at L;have V:i+1 < s.size:=by simp only[Cn,ai,decide_eq_true_eq]at v;exact v.1
      have d:=Fh (a:=0) (z0:=c) (f:=f) l (by decide) S F A (wO (nX (b:=I) x j)) (λ_=>L);exact r (i+1+1) 0 c (by omega) (by omega) m (by simpa using d)
   |true=>
    obtain⟨a,U,o⟩:=zM s i;have A:=Lt (LS (b:=J) x P);rw[o]at A;have B:(Z' (i < s.size) && P5 (eB s i))=I:=P;have Y:i < s.size:=by simp only[ai,decide_eq_true_eq]at B;exact B.1
    cases j:ir s (i+1) 126 with
    |false=>
     have d:=Fh (a:=a) (z0:=0) (f:=f) (i3:=0) (b3:=J) l U (by decide) F A (wO (oK (b:=J) j)) (λh=>by cases h);exact Yl (i+1) a a (eB s i,eB s i) (by omega) (by omega) (by simp only[sY,B,j,if_true,aF,if_false]) (by rw[o]) (by simpa using d)
    |true=>
     have V:=nU j;cases v:Cn s (i+1+1) with
     |false=>
      have m:sY s i=O:=by
       have H:(Z' (i+2 < s.size) && P5 (eB s (i+2)))=J:=v;simp only[sY,B,j,if_true,<- iy,H,cP,aF,if_false]
      have d:=Fh (a:=a) (z0:=0) (f:=f) l U (by decide) F A (wO (nX (b:=J) x j)) (λ_=>Lt (GU (b:=J) v));exact r (i+1+1) a 0 (by omega) (by omega) m (by simpa using d)
     |true=>
      obtain⟨c,S,G⟩:=zM s (i+1+1);have L:=Lt (LS (b:=J) x v);rw[G]at L;have H:(Z' (i+2 < s.size) && P5 (eB s (i+2)))=I:=v;have apm:i+1+1 < s.size:=by simp only[ai,decide_eq_true_eq]at H;exact H.1
      have d:=Fh (a:=a) (z0:=c) (f:=f) l U S F A (wO (nX (b:=J) x j)) (λ_=>L);by_cases K:c < a
      ·have D:¬eB s i<=eB s (i+2):=by rw[o,G];omega
       have m:sY s i=O:=by simp only[sY,B,j,if_true,<- iy,H,cW,D,decide_false,aF,if_false]
       exact r (i+1+1+1) a c (by omega) (by omega) m (by simpa [K] using d)
      ·have D:eB s i<=eB s (i+2):=by rw[o,G];omega
       exact Yl (i+1+1+1) a c (eB s i,eB s (i+2)) (by omega) (by omega) (by simp only[sY,B,j,if_true,<- iy,H,cW,D,decide_true]) (by rw[o,G]) (by simpa [K] using d)
end
section
def ixB(t:z)(c:Int):Int:=Lib.indexByte t.data.toList c.toNat.toUInt8
theorem alr(t:z)(c:Int):G 9002 [.str t,.int .u8 c]=Z (0,[E (ixB t c)]):=
 yx (i:=9002) (sg:=⟨9002,[.val J [.d],.val J [.d]],[([.val J [.d]],[])]⟩) (v:=([.val J [.d]],[])) (j:=0) (r:=([.val J [.d (E (ixB t c))]],[])) (ws:=[.str t,.int .u8 c]) rfl rfl ((Ze T rfl [.val J [.d (.str t)],.val J [.d (.int .u8 c)]]).trans rfl) rfl rfl
theorem YU:∀(l:M UInt8) (c:UInt8),-1<=Lib.indexByte l c
 |[],c=>by simp[Lib.indexByte]
 |b::l,c=>by
  have a:=YU l c;simp only[Lib.indexByte];split
  ·omega
  ·split<;>omega
theorem adL:∀(l:M UInt8) (c:UInt8),Z' (0<=Lib.indexByte l c)=l.any λx=>x ==c
 |[],c=>by simp[Lib.indexByte]
 |b::l,c=>by
  have e:=adL l c;have a:Lib.indexByte (b::l) c=if (b ==c)=I then 0 else if (Lib.indexByte l c == -1)=I then -1 else Lib.indexByte l c+1:=rfl
  rw[nB,<- e];have g:=YU l c;by_cases h:(b ==c)=I
  ·rw[h,mQ,decide_eq_true_eq,a,if_pos h];exact Int.le_refl 0
  ·rw[ej.2 h,gA]
   apply decide_eq_decide.2
   rw[a,if_neg h];split
   ·rename_i d;rw[beq_iff_eq]at d;omega
   ·rename_i d;have f:¬Lib.indexByte l c=-1:=by simpa using d
    omega
theorem abI(t:z){s:z}{i:Nat}:Z' (0<=ixB t (eB s i))=hasB t (eB s i):=by
 rw[ixB,adL,cR,kI,hasB,kI];have f:∀k,eB t k=(((t.data.toList)[k]?.getD 0).toNat:Int):=λk=>by
  unfold eB
  congr 2
  simp only[Array.getElem?_toList];rfl
 have j:(eB s i).toNat.toUInt8=s[i]?.getD 0:=by unfold eB;simp
 have g:eB s i=((s[i]?.getD 0).toNat:Int):=rfl;rw[j]
 constructor
 ·rintro⟨x,h,a⟩
  obtain⟨k,c,d⟩:=List.getElem_of_mem h;refine⟨k,?_,?_⟩
  ·rw[List.mem_range];simpa using c
  ·rw[decide_eq_true_eq,f,g,fu c,d];rw[beq_iff_eq]at a;rw[a];rfl
 ·rintro⟨k,c,b⟩
  rw[List.mem_range]at c;have e:k < t.data.toList.length:=by simpa using c
  rw[decide_eq_true_eq,f,g,fu e]at b;refine⟨_,List.getElem_mem e,?_⟩;rw[beq_iff_eq];simp only[jo]at b;exact UInt8.toNat_inj.1 (by omega)
theorem Bj:∀(l:M Bool),lx (l.map CP)=Z l
 |[]=>rfl
 |b::l=>by
  have:=Bj l;simp only[aW,CP,lx,this,aQ]
theorem PY{a b:M Bool}(h:b.length=a.length)(c:0 < b.length):aZ .jnl [bO a,bO b]=Z (bO (dK a b)):=by
 simp only[aZ,Bj,ay,h];rw[if_pos ⟨trivial,trivial,trivial,trivial,λd=>by rw[List.map_eq_nil_iff]at d;rw[d]at c;exact absurd c (by simp)⟩];rfl
theorem PX(a b:M Bool):aZ .jnb [bO a,bO b]=Z (.bool (nQ a b)):=by
 simp only[aZ,Bj]
theorem Vw{s t:z}{a:M Bool}{op ks:D}(w:s.size<=mg)(y:a.length=s.size+1) :
  cm (lB G B8) (0,[.str s,bO a,E 0,op,.str t,ks,bO (bn (s.size+1) J)])=Z (0,[.str s,bO a,E s.size,.bool J,op,.str t,ks,bO (Ps t s a)]):=by
 have h:=JR t s a;have g:=NH (b:=lB G B8) (λi=>(0,[.str s,bO a,E (i:Int),op,.str t,ks,bO (lz (Ps t s a) (i+1))])) s.size (fin:=(0,[.str s,bO a,E s.size,.bool J,op,.str t,ks,bO (lz (Ps t s a) (s.size+1))])) (by
  intro i d;have f:IntKind.i64.wrap ((i:Int)+1)=((i+1:Nat):Int):=HT (by omega);have j:nth a i=Z (a[i]'(by omega)):=cI (by omega);have o:=TM (t:=t) d j;have m:=Si j;have n:i+1 < (lz (Ps t s a) (i+1)).length:=by rw[Ak _ _ (by omega)];omega
  have l:=ui n;have k:=λc=>Ev (c:=c) n;have e:=BC o;have v:=fH s i d;have r:=alr t (eB s i);have q:=abI t (s:=s) (i:=i);generalize (a[i]'(by omega))=x at *;cases x with
  |false=>
   rw[cP]at e;simp only[go_sem,bG,B8,d,f,m,l,k,e]
  |true=>
   rw[cW]at e;simp only[go_sem,bG,B8,d,f,m,l,k,e,v,r,q]) (by
  simp only[go_sem,bG,B8,aC])
 have p:lz (Ps t s a) (0+1)=bn (s.size+1) J:=by
  rw[lz,h];simp[Ps,gE]
 rw[p,n0]at g;rw[g]
 congr 9
 rw[<- h,Qs]
section
variable {s:z} {k:dx} {f:M Bool->M Bool} (hf:∀x:M Bool,x.length=s.size+1->(f x).length=s.size+1)
 (ih:∀x:M Bool,x.length=s.size+1->G 308 (i_ k++[.str s,bO x])=Z (0,[bO (f x)]))
include hf ih
theorem Vy{t:z}:∀(m:Nat) (x:M Bool) (h:Nat) (c:D),h < 2->outs x < m->x.length=s.size+1->
  cm (lB G wG) (h,[.str s,c,E 4,.str t,cF [k],bO x])=Z (0,[.str s,.bool J,E 4,.str t,cF [k],bO (Db f m x)]):=by
 intro m
 induction m with
 |zero=>intro x h c o r;omega
 |succ m p=>
  intro x h c o r j;have g:=ih x j;rw[bk]at g;simp only[au,av]at g;have n:=hf x j;have i:=PY (a:=x) (b:=f x) (by rw[n,j]) (by omega);have e:=PX x (f x);have q:=j8 x (f x);have l:=IQ x (f x);simp only[Db];by_cases d:dK x (f x)=x
  ·rw[if_pos d];rw[decide_eq_true d,lJ]at l;rw[l]at e;rw[d]at i;refine bg ?_
   match h,o with
   |0,_=>simp only[go_sem,bG,wG,yl,bk k,g,i,e]
   |1,_=>simp only[go_sem,bG,wG,yl,bk k,g,i,e]
  ·rw[if_neg d];rw[decide_eq_false d,ga]at l;rw[l]at e;refine (bY (s':=(1,[.str s,.bool I,E 4,.str t,cF [k],bO (dK x (f x))])) ?_).trans (p _ 1 (.bool I) (by decide) (by have:=(yN x (f x)).2 d;omega) (by rw[q];exact j))
   match h,o with
   |0,_=>simp only[go_sem,bG,wG,yl,bk k,g,i,e]
   |1,_=>simp only[go_sem,bG,wG,yl,bk k,g,i,e]
theorem Vx{t:ByteArray}{x:M Bool}{z:D}(c:x.length=s.size+1) :
  cm (lB G wG) (0,[.str s,z,E 5,.str t,cF [k],bO x])=Z (0,[.str s,.bool J,E 5,.str t,cF [k],bO (dK x (f x))]):=by
 have e:=ih x c;rw[bk]at e;simp only[au,av]at e;have d:=hf x c;have i:=PY (a:=x) (b:=f x) (by rw[d,c]) (by omega);have g:=PX x (f x);refine bg ?_;cases h:nQ x (f x)<;>rw[h]at g<;>simp only[go_sem,bG,wG,yl,bk k,e,i,g]
end
def Ha(h:u D)(s:z)(l:M dx)(i:Nat)(x:M Bool):Nat×M D:=match h with
 |none=>(0,[.str s,cF l,.int .i64 l.length,.int .i64 (i:Int),bO x])
 |some a=>(1,[.str s,cF l,.int .i64 l.length,.int .i64 (i:Int),a,bO x])
def NC(h:u D)(s:z)(l:M dx)(x:M Bool):Nat×M D:=match h with
 |none=>(0,[.str s,cF l,.int .i64 l.length,.int .i64 l.length,.bool J,bO x])
 |some a=>(1,[.str s,cF l,.int .i64 l.length,.int .i64 l.length,.bool J,a,bO x])
theorem I6{s:z}{l:M dx}{f:dx->M Bool->M Bool}(p:l.length<=mg)(q:∀(k:dx) (x:M Bool),x.length=s.size+1->(f k x).length=s.size+1)
  (j:∀k∈l,∀x:M Bool,x.length=s.size+1->G 308 (i_ k++[.str s,bO x])=Z (0,[bO (f k x)])):∀(m i:Nat) (x:M Bool) (h:u D),i+m=l.length->x.length=s.size+1->
  ∃g,cm (lB G B9) (Ha h s l i x)=Z (NC g s l ((l.drop i).foldl (λo k=>f k o) x))
 |0,i,x,h,t,c=>by
  obtain rfl:i=l.length:=by omega
  refine⟨h,bg ?_⟩;rw[bE,zt];cases h with
  |none=>simp only[go_sem,bG,B9,Ha,NC,aC]
  |some a=>simp only[go_sem,bG,B9,Ha,NC,aC]
 |m+1,i,x,h,t,c=>by
  have d:nth l i=Z (l[i]'(by omega)):=cI (by omega);have e:i < l.length:=by omega
  have n:=wj e p;have b:=j _ (bc d) x c;have r:=Nh d;obtain⟨g,v⟩:=I6 p q j m (i+1) (f (l[i]'(by omega)) x) (Z (h.getD (bO x))) (by omega) (q _ x c);refine⟨g,(bY (s':=Ha (Z (h.getD (bO x))) s l (i+1) (f (l[i]'(by omega)) x)) ?_).trans (v.trans ?_)⟩
  ·generalize (l[i]'(by omega))=k at *;rw[bk]at b;simp only[au,av]at b;cases h with
   |none=>
    simp only[go_sem,bG,B9,Ha,e,r,sb];simp only[go_sem,bk k,b,n]
   |some a=>
    simp only[go_sem,bG,B9,Ha,e,r,sb];simp only[go_sem,bk k,b,n]
  ·rw[eg l i _ d,xN]
theorem agl{s:ByteArray}(P:s.size<=mg)(n:Nat):∀(p:dx) (a:M Bool),aw p < n->yY 64 p=I->a.length=s.size+1->G 308 (i_ p++[.str s,bO a])=Z (0,[bO (jb s n p a)]):=by
 induction n with
 |zero=>intro p a h;omega
 |succ n V=>
  intro p a hz S r;have c:=tC (s:=s) n;have w:∀k∈p.aa,∀x:M Bool,x.length=s.size+1->G 308 (i_ k++[.str s,bO x])=Z (0,[bO (jb s n k x)]):=λk w x D=>V k x (by have:=dx.Kx w;omega) (Ee S w) D;have e:=HT P;have j:=zO (n:=s.size+1) (by simp only[mg]at P;omega);have qe:=Ef S;have A:=Xc (l:=bn (s.size+1) J) (m:=a) (by simpa using r);refine ct t308 (by rw[bk];rfl) ?_;simp only[jb];unfold Nl;by_cases H:p.op=1
  ·have d:=Vw (s:=s) (t:=p.text) (a:=a) (op:=E 1) (ks:=cF p.aa) P r;rw[if_pos H];simp only[go_sem,e,j,t308,bk p,H,d]
  rw[if_neg H];by_cases C:p.op=2
  ·rw[if_pos C];obtain⟨W,d⟩:=I6 (s:=s) (l:=p.aa) (f:=jb s n) (by simp only[mg];omega) c w p.aa.length 0 a O (by omega) r;rw[bm]at d;simp only[Ha,n0]at d;cases W with
   |none=>
    simp only[NC]at d;simp only[go_sem,e,j,A,t308,bk p,C,d]
   |some z=>
    simp only[NC]at d;simp only[go_sem,e,j,A,t308,bk p,C,d]
  rw[if_neg C];by_cases F:p.op=3
  ·rw[if_pos F];have d:=cN (b:=lB G Lb) p.aa (λi (x:M Bool)=>(0,[.str s,bO a,cF p.aa,E p.aa.length,E (i:Int),bO x])) (λi=>(p.aa.take i).foldl (λo k=>dK o (jb s n k a)) (bn (s.size+1) J)) (0,[.str s,bO a,cF p.aa,E p.aa.length,E p.aa.length,.bool J,bO (p.aa.foldl (λo k=>dK o (jb s n k a)) (bn (s.size+1) J))]) (by
    intro i k K;have T:=bp K;have N:=wj (i:=i) (n:=p.aa.length) T (by simp only[mg];omega);have R:=w k (bc K) a r;have U:=BF (s:=s) (g:=λk=>jb s n k a) (p.aa.take i) (bn (s.size+1) J) (by simp);have Y:=PY (a:=(p.aa.take i).foldl (λo k=>dK o (jb s n k a)) (bn (s.size+1) J)) (b:=jb s n k a) (by rw[c k a r,U]) (by rw[c k a r];omega);have X:=PX ((p.aa.take i).foldl (λo k=>dK o (jb s n k a)) (bn (s.size+1) J)) (jb s n k a);rw[bk]at R;simp only[au,av]at R;rw[yI _ _ _ _ _ K];simp only[go_sem,bG,Lb,T,Nh K,sb];simp only[go_sem,bk k,R,Y,X,N]) (by
    rw[aR];simp only[go_sem,bG,Lb,aC]) p.aa.length 0 (by omega)
   rw[n0,aV,zt]at d;simp only[go_sem,e,j,t308,bk p,F,d]
  rw[if_neg F];by_cases B:p.op=4
  ·rw[if_pos B];have q:¬(4:Int)=5:=by decide
   by_cases y:p.aa.length=1
   ·obtain⟨k,v⟩:=dP.1 y;have L:=Vy (t:=p.text) (c k) (λx D=>w k (by rw[v];simp) x D) (s.size+2) a 0 (.bool J) (by decide) (by have:=LP a;omega) r;rw[v,LN];simp only[go_sem,e,j,A,t308,bk p,B,q,v,L]
   ·rw[LO y];have Q:=acg y;simp only[go_sem,e,j,A,t308,bk p,B,q,Q]
  rw[if_neg B];by_cases q:p.op=5
  ·rw[if_pos q];by_cases y:p.aa.length=1
   ·obtain⟨k,v⟩:=dP.1 y;have L:=Vx (t:=p.text) (z:=.bool J) (c k) (λx D=>w k (by rw[v];simp) x D) r;rw[v,LN];simp only[go_sem,e,j,A,t308,bk p,q,v,L]
   ·rw[LO y];have Q:=acg y;simp only[go_sem,e,j,A,t308,bk p,q,Q]
  rw[if_neg q];simp only[go_sem,e,j,t308,bk p,H,C,F,B,q]
theorem aoz{s:z}{p:dx}(d:s.size<=mg)(m:yY 64 p=I):G 309 (i_ p++[.str s])=Z (0,[.bool (QV p s)]):=by
 have k:=HT d;have o:=zO (n:=s.size+1) (by simp only[mg]at d;omega);have e:=agl d (aw p+1) p (I::bn s.size J) (aP _) m (by simp);have g:=tC (s:=s) (aw p+1) p (I::bn s.size J) (by simp);rw[bk]at e;simp only[au,av]at e;have j:=ui (l:=bn (s.size+1) J) (i:=0) (by simp);have f:=Ev (l:=bn (s.size+1) J) (i:=0) (c:=I) (by simp);have v:(bn (s.size+1) J).set 0 I=I::bn s.size J:=by rw[gE];rfl
 rw[v]at f;rw[n0]at j f;have t:=ui (l:=jb s (aw p+1) p (I::bn s.size J)) (i:=s.size) (by rw[g];omega);obtain⟨b,h⟩:∃b,nth (jb s (aw p+1) p (I::bn s.size J)) s.size=Z b:=⟨_,cI (by rw[g];omega)⟩
 have r:=Eu h;refine ct t309 (by rw[bk];rfl) ?_;have q:QV p s=b:=by rw[QV,h];rfl
 rw[q];generalize jb s (aw p+1) p (I::bn s.size J)=a at *;simp only[go_sem,t309,bk p,k,o,j,f,e,t,r]
end
section
section
variable {s:z} {alt:Nat->PR}
theorem aot(xS:s.size<=30){i:Nat}(F:i < s.size)(hA:∀j,i < j->j<=s.size->Eo 280 s j 0 2 J (alt j)):Eo 279 s i 1 3 J (yt alt s i):=by
 have D:s.size<=mg:=by simp only[mg];omega
 unfold yt;cases H:ir s i 40 with
 |true=>
  have t:=wO (nX (b:=J) D H);obtain⟨j,p,k,b,W,P,V,p2,p3,B⟩:=hA (i+1) (by omega) (by omega);rw[if_pos rfl];cases o:ir s k 41 with
  |true=>
   have g:=wO (nX (b:=b) D o);have hk:=nU o;have G:PA s i 1 (match alt (i+1) with
     |some (p,j)=>if ir s j 41=I then Z (p,j+1) else O
     |none=>O) p (k+1) b:=by
    refine⟨V,by omega,by omega,?_⟩;cases e:alt (i+1) with
    |none=>rw[e]at B;exact B
    |some q=>
     rw[e]at B;obtain⟨Q,rfl,p5⟩:=B;simp only[o,if_true];exact⟨Q,trivial,by omega⟩
   match j,W with
   |0,_=>
    have:=Ku (.inl ⟨_,rfl⟩) t (Zi P) g;rw[lJ,kc]at this;exact⟨0,p,k+1,b,by decide,Yg this,G⟩
   |1,_=>
    have:=Ku (.inr ⟨_,rfl⟩) t (Zj P) g;rw[lJ,kc]at this;exact⟨1,p,k+1,b,by decide,Yh this,G⟩
  |false=>
   have g:=wO (oK (b:=b) o);have G:PA s i 1 (match alt (i+1) with
     |some (p,j)=>if ir s j 41=I then Z (p,j+1) else O
     |none=>O) p k I:=by
    refine⟨V,by omega,p3,?_⟩;cases e:alt (i+1) with
    |none=>rfl
    |some q=>
     rw[e]at B;obtain⟨Q,rfl,p5⟩:=B;simp only[o,aF,if_false]
   match j,W with
   |0,_=>
    have:=Ku (.inl ⟨_,rfl⟩) t (Zi P) g;rw[ga,ll]at this;exact⟨0,p,k,I,by decide,Yg this,G⟩
   |1,_=>
    have:=Ku (.inr ⟨_,rfl⟩) t (Zj P) g;rw[ga,ll]at this;exact⟨1,p,k,I,by decide,Yh this,G⟩
 |false=>
  have t:=wO (oK (b:=J) H);rw[if_neg dq];cases m:ir s i 46 with
  |true=>
   have g:=wO (nX (b:=J) D m);have v:ir s i 91=J:=by
    rw[ej];intro h;have a1:=(mL.1 h).2;have a2:=(mL.1 m).2;omega
   have:=ae3 t g;rw[any_eq]at this;rw[v,if_neg dq,if_pos rfl];exact⟨2,⟨1,Ut,[]⟩,i+1,J,by decide,BG this,kW _ _ (Bl _),by omega,by omega,rfl,rfl,by omega⟩
  |false=>
   have g:=wO (oK (b:=J) m);cases v:ir s i 91 with
   |true=>
    have K:=wO (nX (b:=J) D v);rw[if_pos rfl];cases N:ir s (i+1) 93 with
    |false=>
     obtain⟨k,b,Y,n',e1,e2,e3,R⟩:=Vu xS (s.size+1) (i+1) 0 (λ_=>J) (by omega) (by omega) (by omega) (λ_=>N);have:=YV t g K e1;refine⟨2,⟨1,chT Y,[]⟩,k,b,by decide,BG this,kW _ _ (Bl _),by omega,e3,?_⟩;unfold OJ;cases e:iQ s (s.size+1) (i+1) with
     |none=>rw[e]at R;exact R
     |some q=>
      obtain⟨l,k0⟩:=q;rw[e]at R;obtain⟨Q,X,h7⟩:=R;dsimp only at X;subst Q X;cases l with
      |nil=>
       exfalso
       simp only[iQ,N,aF,if_false]at e
       split at e
       ·obtain⟨p,_,h⟩:=ak.1 e;simp at h
       ·cases e
      |cons r l=>
       have hf:chT Y=agG (r::l):=by
        rw[Xh,agG,h7]
        congr 1
       rw[hf];exact⟨rfl,rfl,by omega⟩
    |true=>
     obtain⟨hl3,U⟩:=mL.1 N;have w:Cn s (i+1)=J:=by
      simp only[Cn,U];rw[pw];exact .inr (by decide)
     have ht:ir s (i+1) 126=J:=by
      rw[ej];intro h;have a1:=(mL.1 h).2;omega
     have he:=Fh (a:=0) (z0:=0) (f:=λ_=>J) (i3:=0) (b3:=J) (n:=0) (by decide) (by decide) (by decide) (.inl rfl) (Lt (GU (b:=J) w)) (wO (oK (b:=I) ht)) (λh=>by cases h);have hx:=IY (s:=s) (i:=((i+1:Nat):Int)) (n:=1) (f:=rg (λ_=>J) 0 0);have hl:ev T tN (.loop iL) (HC s ((i+1:Nat):Int) J 0 λ_=>J)=Z (.exit 3,⟨[(0,.ptr 900 0),(2,.ptr 2 0),(3,.ptr 3 0),(6,.d (E ((1:Nat):Int))),(51,.d (.bool J))],[(2,wZ),(3,bC (rg (λ_=>J) 0 0)),(900,rC s ((i+1:Nat):Int) I)],[]⟩):=by
      rw[gN,he];exact hx
     have:=YV t g K hl;refine⟨2,⟨1,chT _,[]⟩,i+1,I,by decide,BG this,kW _ _ (Bl _),by omega,by omega,?_⟩;have e:iQ s (s.size+1) (i+1)=Z ([],i+1+1):=by simp only[iQ,N,if_true]
     have:OJ s (i+1)=O:=by rw[OJ,e]
     rw[this]
   |false=>
    have K:=wO (oK (b:=J) v);rw[if_neg dq,if_neg dq];cases w:Cn s i with
    |false=>
     have:=YW t g K (Lt (GU (b:=J) w));have S:(Z' (i < s.size) && pCh (eB s i))=J:=by
      simp only[Cn,F,decide_true,cW,P5]at w;simp only[F,decide_true,cW,pCh];generalize fO 97 122 (eB s i)=x at *;generalize fO 48 57 (eB s i)=y at *;generalize Z' (eB s i=45)=c at *;cases x<;>cases y<;>cases c<;>simp_all
     rw[S,if_neg dq];exact⟨2,⟨1,_,[]⟩,i,I,by decide,BG this,kW _ _ (by decide),by omega,by omega,rfl⟩
    |true=>
     have:=YW t g K (Lt (LS (b:=J) D w));have L:¬eB s i=46:=λh=>by rw[mL.2 ⟨F,h⟩]at m;cases m
     have e1:([dz (eB s i).toNat].toArray:Array UInt8)=(GI (eB s i)).data:=rfl;have C:(GI (eB s i)).size<=256:=by rw[GI,rN];simp
     have S:(Z' (i < s.size) && pCh (eB s i))=!Z' (eB s i=95):=by
      simp only[Cn,F,decide_true,cW,P5]at w;simp only[F,decide_true,cW,pCh];by_cases A:eB s i=95
      ·rw[A];decide
      ·simp only[A,L,decide_false,gA,kc]at w;rw[w];simp[A]
     rw[S];by_cases A:eB s i=95
     ·rw[decide_eq_true A,mQ,ll]at this;rw[decide_eq_true A,lJ,if_neg dq];exact⟨2,⟨1,GI (eB s i),[]⟩,i+1,I,by decide,BG this,kW _ _ C,by omega,by omega,rfl⟩
     ·rw[decide_eq_false A,decide_eq_false L,kc,kc]at this;rw[decide_eq_false A,ga,if_pos rfl];exact⟨2,⟨1,GI (eB s i),[]⟩,i+1,J,by decide,BG this,kW _ _ C,by omega,by omega,rfl,rfl,by omega⟩
theorem aov(B:s.size<=30){i:Nat}(r:Eo 279 s i 1 3 J (yt alt s i)):Eo 282 s i 1 4 J (tR alt s i):=by
 have o:s.size<=mg:=by simp only[mg];omega
 obtain⟨j,p,k,b,h,c,t,D,w,g⟩:=r;simp only[bk,au,av]at c;have q1:=aou t;rw[bk]at q1;have A:=TY (n:=64) (by decide) (s:=s) k t;have y:=TX s p k;have a:PA s i 1 (tR alt s i) (GP s p k).1 (GP s p k).2 b:=by
  refine⟨A,by omega,y.2 w,?_⟩;unfold tR;cases v:yt alt s i with
  |none=>rw[v]at g;exact g
  |some q=>
   rw[v]at g;obtain⟨x,rfl,C⟩:=g;exact⟨x,rfl,by omega⟩
 unfold GP at a;cases c1:ir s k 42 with
 |true=>
  have d:=nX (b:=b) o c1;rw[c1,if_pos rfl]at a
  match j,h with
  |0,_=>exact⟨0,_,_,b,by decide,ct t282 rfl (by simp only[go_sem,c,vw,rJ,P1,cL,eT,t282,d,bk]),a⟩
  |1,_=>exact⟨0,_,_,b,by decide,ct t282 rfl (by simp only[go_sem,c,rJ,P1,cL,eT,t282,d,bk]),a⟩
  |2,_=>exact⟨3,_,_,b,by decide,ct t282 rfl (by simp only[go_sem,c,MB,rJ,P1,cL,eT,t282,d,bk]),a⟩
 |false=>
  have d:=oK (b:=b) c1;rw[c1,if_neg dq]at a;cases m:ir s k 43 with
  |true=>
   have e:=nX (b:=b) o m;rw[m,if_pos rfl]at a
   match j,h with
   |0,_=>exact⟨0,_,_,b,by decide,ct t282 rfl (by simp only[go_sem,c,vw,rJ,VJ,P1,P2,q1,cL,eT,t282,d,e,bk]),a⟩
   |1,_=>exact⟨0,_,_,b,by decide,ct t282 rfl (by simp only[go_sem,c,vw,rJ,VJ,P1,P2,q1,cL,eT,t282,d,e,bk]),a⟩
   |2,_=>exact⟨0,_,_,b,by decide,ct t282 rfl (by simp only[go_sem,c,vw,rJ,VJ,P1,P2,q1,cL,eT,t282,d,e,bk]),a⟩
  |false=>
   have e:=oK (b:=b) m;rw[m,if_neg dq]at a;cases l:ir s k 63 with
   |true=>
    have f:=nX (b:=b) o l;rw[l,if_pos rfl]at a
    match j,h with
    |0,_=>exact⟨0,_,_,b,by decide,ct t282 rfl (by simp only[go_sem,c,vw,rJ,P1,cL,eT,t282,d,e,f,bk]),a⟩
    |1,_=>exact⟨0,_,_,b,by decide,ct t282 rfl (by simp only[go_sem,c,rJ,P1,cL,eT,t282,d,e,f,bk]),a⟩
    |2,_=>exact⟨3,_,_,b,by decide,ct t282 rfl (by simp only[go_sem,c,MB,rJ,P1,cL,eT,t282,d,e,f,bk]),a⟩
   |false=>
    have f:=oK (b:=b) l;rw[l,if_neg dq]at a
    match j,h with
    |0,_=>exact⟨1,_,_,b,by decide,ct t282 rfl (by simp only[go_sem,c,t282,d,e,f,bk]),a⟩
    |1,_=>exact⟨2,_,_,b,by decide,ct t282 rfl (by simp only[go_sem,c,t282,d,e,f,bk]),a⟩
    |2,_=>exact⟨3,_,_,b,by decide,ct t282 rfl (by simp only[go_sem,c,t282,d,e,f,bk]),a⟩
end
end
section
section
variable {s:z} {alt:Nat->PR}
theorem Vv(r:s.size<=30){i:Nat}{l:M dx}(v:l.length<=100)(h:wY s i=I)(g:Eo 282 s i 1 4 J (tR alt s i)) :
  ∃(p:dx) (k:Nat) (b:Bool),lB G oE (0,[E 0,.str ⟨#[]⟩,.str s,E (i:Int),.bool J,cF l])=Z (.go (0,[E 0,.str ⟨#[]⟩,.str s,E (k:Int),.bool b,cF (l++[p])]))/\PA s i 1 (tR alt s i) p k b:=by
 have m:l.length<=mg:=by simp only[mg];omega
 simp only[wY,ai,decide_eq_true_eq,cq,decide_eq_false_iff_not]at h;obtain⟨a,e,d⟩:=h;have f:=fH s i a;have fa:=λop t n=>JL m op t n;obtain⟨j,p,k,b,o,c,q⟩:=g;simp only[bk,au,av]at c;refine⟨p,k,b,?_,q⟩
 match j,o with
 |0,_=>simp only[go_sem,a,e,d,f,c,rJ,fa,cL,bG,oE]
 |1,_=>simp only[go_sem,a,e,d,f,c,vw,rJ,fa,cL,bG,oE]
 |2,_=>simp only[go_sem,a,e,d,f,c,rJ,fa,cL,bG,oE]
 |3,_=>simp only[go_sem,a,e,d,f,c,MB,rJ,fa,cL,bG,oE]
theorem abU(m:s.size<=30){i0:Nat}(F:∀j,i0 < j->j<=s.size->Eo 280 s j 0 2 J (alt j)):∀(g i:Nat) (l:M dx),i0<=i->i<=s.size->s.size+1 - i<=g->Lsx l i->
  ∃(h:M dx) (k:Nat) (b:Bool),cm (lB G oE) (0,[E 0,.str ⟨#[]⟩,.str s,E (i:Int),.bool J,cF l])=Z (0,[.bool J,E 0,.str ⟨#[]⟩,.str s,E (k:Int),.bool b,cF h])/\RdL i s l (wX alt s g i) h k b:=by
 have R:s.size<=mg:=by simp only[mg];omega
 intro g
 induction g with
 |zero=>intro i l _ w H;omega
 |succ g D=>
  intro i l T w H c;simp only[wX];cases d:wY s i with
  |false=>
   simp only[aF,if_false];refine⟨l,i,J,bg ?_,⟨by have:=c.1;omega,c.2⟩,aD _,w,rfl,by rw[aK],rfl⟩;by_cases a:i < s.size
   ·have x:=fH s i a;simp only[wY,a,decide_true,cW]at d;by_cases t:eB s i=124
    ·simp only[go_sem,bG,oE,a,t,x]
    ·have f:eB s i=41:=by
      by_cases f:eB s i=41
      ·exact f
      ·simp[t,f]at d
     have B:¬(41:Int)=124:=by decide
     simp only[go_sem,bG,oE,a,f,B,x]
   ·simp only[go_sem,bG,oE,a]
  |true=>
   have a:i < s.size:=by simp only[wY,ai,decide_eq_true_eq]at d;exact d.1
   simp only[if_true];obtain⟨p,k,b,y,r,A,o,e⟩:=Vv m (l:=l) (by have:=c.1;omega) d (aov m (aot m a λj S P=>F j (by omega) P));cases v:tR alt s i with
   |none=>
    rw[v]at e;subst e;refine⟨l++[p],k,I,(bY y).trans (bg ?_),pX (n:=30) ⟨by have:=c.1;omega,c.2⟩ r (by decide),A,o,rfl⟩;simp only[go_sem,bG,oE]
   |some q=>
    rw[v]at e;obtain⟨rfl,rfl,Q⟩:=e;obtain⟨h,C,N,L,K⟩:=D k (l++[p]) (by omega) o (by omega) (pX c r (by omega));exact⟨h,C,N,(bY y).trans L,zJ (by omega) K⟩
theorem ala(m:s.size<=30){i:Nat}(w:i<=s.size)(o:∀j,i < j->j<=s.size->Eo 280 s j 0 2 J (alt j)):Eo 283 s i 0 2 J (DC alt s i):=by
 obtain⟨f,k,b,l,h,y,x,c⟩:=abU m o (s.size+1) i [] (aD _) w (by omega) ⟨by simp,by simp⟩;have e:aZ (.sV 3 J) []=Z (cF []):=xI 3 J;have a:PA s i 0 (DC alt s i) (tZ 2 f) k b:=by
  refine⟨xh (by have:=h.1;omega) h.2,y,x,?_⟩;unfold DC;cases g:wX alt s (s.size+1) i with
  |none=>rw[g]at c;exact c
  |some q=>
   rw[g]at c;obtain⟨v,t,r⟩:=c;subst t r;exact⟨v,rfl,by omega⟩
 by_cases d:f.length=1
 ·obtain⟨p,rfl⟩:=dP.1 d;have n:tZ 2 [p]=p:=rfl;rw[n]at a;refine⟨0,p,k,b,by decide,ct t283 rfl ?_,a⟩;simp only[go_sem,t283,e,l,IB,Iv,bk p]
 ·rw[Mp d]at a;refine⟨1,_,k,b,by decide,ct t283 rfl ?_,a⟩;simp only[go_sem,t283,e,l,I_,d,bk,eT]
theorem agj{i:Nat}(c:i<=s.size):Eo 283 s i 0 2 I O:=by
 have a:aZ (.sV 3 J) []=Z (cF []):=xI 3 J;have b:cm (lB G oE) (0,[E 0,.str ⟨#[]⟩,.str s,E (i:Int),.bool I,cF []])=Z (0,[.bool J,E 0,.str ⟨#[]⟩,.str s,E (i:Int),.bool I,cF []]):=by
  refine bg ?_;simp only[go_sem,bG,oE]
 refine⟨1,⟨2,eT,[]⟩,i,I,by decide,ct t283 rfl ?_,yZ CQ (by simp) (by simp),aD _,c,rfl⟩;simp only[go_sem,t283,n0,a,b,bk,eT]
theorem N9(H:s.size<=30):∀(g i:Nat) (l:M dx),i<=s.size->s.size+1 - i<=g->Lsx l (i+2)->
  ∃(a:M dx) (k:Nat),cm (lB G pF) (0,[E 0,.str ⟨#[]⟩,.str s,E (i:Int),.bool I,cF l])=Z (0,[.bool J,E 0,.str ⟨#[]⟩,.str s,E (k:Int),.bool I,cF a])/\Lsx a 40/\i<=k/\k<=s.size:=by
 have y:s.size<=mg:=by simp only[mg];omega
 intro g
 induction g with
 |zero=>intro i l m B;omega
 |succ g x=>
  intro i l m B c;cases h:ir s i 124 with
  |false=>
   have d:=oK (b:=I) h;exact⟨l,i,bg (by simp only[go_sem,bG,pF,d]),⟨by have:=c.1;omega,c.2⟩,aD _,m⟩
  |true=>
   have d:=nX (b:=I) y h;have L:=nU h;have n:l.length<=mg:=by have:=c.1;simp only[mg];omega
   have fa:=λop t v=>JL n op t v;obtain⟨j,p,k,b,A,f,r,K,q,o⟩:=agj (s:=s) (i:=i+1) (by omega);simp only[bk,au,av]at f;have e:b=I:=o;subst e;have go:lB G pF (0,[E 0,.str ⟨#[]⟩,.str s,E (i:Int),.bool I,cF l])=Z (.go (0,[E 0,.str ⟨#[]⟩,.str s,E (k:Int),.bool I,cF (l++[p])])):=by
    match j,A with
    |0,_=>simp only[go_sem,bG,pF,d,f,vw,rJ,fa,cL]
    |1,_=>simp only[go_sem,bG,pF,d,f,rJ,fa,cL]
   obtain⟨a,w,F,D,N,C⟩:=x k (l++[p]) q (by omega) (pX c r (by omega));exact⟨a,w,(bY go).trans F,D,by omega,C⟩
theorem abT(o:s.size<=30){i0:Nat}(K:∀j,i0 < j->j<=s.size->Eo 280 s j 0 2 J (alt j)):∀(g i:Nat) (l:M dx),i0<=i->i<=s.size->s.size+1 - i<=g->Lsx l (i+1)->
  ∃(a:M dx) (k:Nat) (b:Bool),cm (lB G pF) (0,[E 0,.str ⟨#[]⟩,.str s,E (i:Int),.bool J,cF l])=Z (0,[.bool J,E 0,.str ⟨#[]⟩,.str s,E (k:Int),.bool b,cF a])/\RdL i s l (C5 alt s g i) a k b:=by
 have H:s.size<=mg:=by simp only[mg];omega
 intro g
 induction g with
 |zero=>intro i l _ B L;omega
 |succ g F=>
  intro i l V B L c;simp only[C5];cases m:ir s i 124 with
  |false=>
   have e:=oK (b:=J) m;simp only[aF,if_false];refine⟨l,i,J,bg ?_,⟨by have:=c.1;omega,c.2⟩,aD _,B,rfl,by rw[aK],rfl⟩;simp only[go_sem,bG,pF,e]
  |true=>
   have e:=nX (b:=J) H m;have U:=nU m;have r:l.length<=mg:=by have:=c.1;simp only[mg];omega
   have W:=λx=>WW r x;have fa:=λop t D=>JL r op t D;simp only[if_true];obtain⟨j,p,k,b,A,h,w,T,v,d⟩:=ala o (i:=i+1) (by omega) λj A R=>K j (by omega) R;simp only[bk,au,av]at h;have go:lB G pF (0,[E 0,.str ⟨#[]⟩,.str s,E (i:Int),.bool J,cF l])=Z (.go (0,[E 0,.str ⟨#[]⟩,.str s,E (k:Int),.bool b,cF (l++[p])])):=by
    match j,A with
    |0,_=>simp only[go_sem,bG,pF,e,h,vw,rJ,fa,cL]
    |1,_=>simp only[go_sem,bG,pF,e,h,rJ,fa,cL]
   cases y:DC alt s (i+1) with
   |none=>
    rw[y]at d;subst d;obtain⟨a,f,P,n,C,N⟩:=N9 o (s.size+1) k (l++[p]) v (by omega) (pX c w (by omega));exact⟨a,f,I,(bY go).trans P,n,by omega,N,rfl⟩
   |some q=>
    rw[y]at d;obtain⟨rfl,rfl,S⟩:=d;obtain⟨a,f,Q,n,C⟩:=F k (l++[p]) (by omega) v (by omega) (pX c w (by omega));exact⟨a,f,Q,(bY go).trans n,zJ (by omega) C⟩
theorem agh(r:s.size<=30){i:Nat}(R:i<=s.size)(B:∀j,i < j->j<=s.size->Eo 280 s j 0 2 J (alt j)):Eo 280 s i 0 2 J (GO alt s i):=by
 obtain⟨j,p,k,b,A,f,x,F,w,l⟩:=ala r R B;simp only[bk,au,av]at f;have L:∃(c:M dx) (a:Nat) (e:Bool),cm (lB G pF) (0,[E 0,.str ⟨#[]⟩,.str s,E (k:Int),.bool b,cF [p]])=Z (0,[.bool J,E 0,.str ⟨#[]⟩,.str s,E (a:Int),.bool e,cF c])/\PA s i 0 (GO alt s i) (tZ 3 c) a e:=by
  unfold GO;cases y:DC alt s i with
  |none=>
   rw[y]at l;subst l;obtain⟨c,a,d,g,S,v⟩:=N9 r (s.size+1) k [p] w (by omega) ⟨by simp,by simpa using x⟩;exact⟨c,a,I,d,xh (by have:=g.1;omega) g.2,by omega,v,rfl⟩
  |some q=>
   rw[y]at l;obtain⟨rfl,rfl,T⟩:=l;obtain⟨c,a,e,d,g,S,v,o⟩:=abT r B (s.size+1) k [p] F w (by omega) ⟨by simp,by simpa using x⟩;refine⟨c,a,e,d,xh (by have:=g.1;omega) g.2,by omega,v,?_⟩;dsimp only;cases C:C5 alt s (s.size+1) k with
   |none=>rw[C]at o;exact o
   |some q=>
    rw[C]at o;obtain⟨Q,P,N⟩:=o;subst P N;exact⟨Q,rfl,by omega⟩
 obtain⟨c,a,e,d,n⟩:=L;have K:∀(t:Nat×M D) (h:eV G (t280.t) 0 [.str s,E (i:Int),.bool J]=Z t),True:=λ_ _=>trivial;by_cases m:c.length=1
 ·obtain⟨q,rfl⟩:=dP.1 m;have H:tZ 3 [q]=q:=rfl;rw[H]at n;refine⟨0,q,a,e,by decide,ct t280 rfl ?_,n⟩
  match j,A with
  |0,_=>simp only[go_sem,t280,f,vw,rJ,P1,cL,d,IB,Iv,bk q]
  |1,_=>simp only[go_sem,t280,f,rJ,P1,cL,d,IB,Iv,bk q]
 ·rw[Mp m]at n;refine⟨1,_,a,e,by decide,ct t280 rfl ?_,n⟩
  match j,A with
  |0,_=>simp only[go_sem,t280,f,vw,rJ,P1,cL,d,I_,m,bk,eT]
  |1,_=>simp only[go_sem,t280,f,rJ,P1,cL,d,I_,m,bk,eT]
theorem ZM(a:s.size<=30):∀(g i:Nat),i<=s.size->s.size+1 - i<=g->Eo 280 s i 0 2 J (VR s g i)
 |0,i,b,c=>by omega
 |g+1,i,b,c=>agh a b λj e d=>ZM a g j d (by omega)
end
theorem alb{s:z}:∃j p,j < 3/\G 284 [.str s]=Z (j,i_ p++[.bool (mh s)])/\∀q,C6 s=Z q->p=q/\yY 64 p=I:=by
 unfold mh C6;by_cases h:30 < s.size
 ·refine⟨0,⟨0,eT,[]⟩,by decide,ct t284 rfl ?_,λq a=>by rw[if_pos h]at a;cases a⟩;rw[if_pos h];simp only[go_sem,t284,Am,h,bk,dX];rfl
 ·rw[if_neg h];obtain⟨j,p,k,b,f,c,i,n,m,e⟩:=ZM (s:=s) (by omega) (s.size+1) 0 (by omega) (by omega);simp only[bk,au,av,n0]at c;cases g:VR s (s.size+1) 0 with
  |none=>
   rw[g]at e;subst e;refine⟨0,⟨0,eT,[]⟩,by decide,ct t284 rfl ?_,λq a=>by cases a⟩
   match j,f with
   |0,_=>simp only[go_sem,t284,Am,h,c,bk,dX];rfl
   |1,_=>simp only[go_sem,t284,Am,h,c,bk,dX];rfl
  |some q=>
   rw[g]at e;obtain⟨rfl,rfl,l⟩:=e;dsimp only;by_cases d:k=s.size
   ·rw[if_pos d];refine⟨j+1,p,by omega,ct t284 rfl ?_,λq a=>by cases a;exact⟨rfl,i⟩⟩
    match j,f with
    |0,_=>simp only[go_sem,t284,Am,h,c,d,bk,gT]
    |1,_=>simp only[go_sem,t284,Am,h,c,d,bk,gT]
   ·rw[if_neg d];refine⟨0,⟨0,eT,[]⟩,by decide,ct t284 rfl ?_,λq a=>by cases a⟩
    match j,f with
    |0,_=>simp only[go_sem,t284,Am,TJ,h,c,d,bk,dX];rfl
    |1,_=>simp only[go_sem,t284,Am,TJ,h,c,d,bk,dX];rfl
theorem agk(s:z):G 285 [.str s]=Z (0,[.bool (mh s)]):=by
 obtain⟨j,p,b,a,_⟩:=alb (s:=s);simp only[bk,au,av]at a;refine ct t285 rfl ?_
 match j,b with
 |0,_=>simp only[go_sem,t285,a]
 |1,_=>simp only[go_sem,t285,a]
 |2,_=>simp only[go_sem,t285,a]
theorem agm{t s:z}(g:s.size<=mg):G 310 [.str t,.str s]=Z (0,[.bool (Dx t s)]):=by
 obtain⟨j,p,f,a,h⟩:=alb (s:=t);simp only[bk,au,av]at a;have n_:∀b,aZ .pl [.bool b]=Z (.bool J):=λb=>rfl;refine ct t310 rfl ?_;unfold Dx;cases d:C6 t with
 |none=>
  have e:mh t=J:=by rw[mh,d];rfl
  rw[e]at a
  match j,f with
  |0,_=>simp only[go_sem,t310,a]
  |1,_=>simp only[go_sem,t310,a]
  |2,_=>simp only[go_sem,t310,a]
 |some q=>
  have e:mh t=I:=by rw[mh,d];rfl
  obtain⟨rfl,i⟩:=h q d;have c:=aoz g i;simp only[bk,au,av]at c;rw[e]at a
  match j,f with
  |0,_=>simp only[go_sem,t310,a,c,n_]
  |1,_=>simp only[go_sem,t310,a,c]
  |2,_=>simp only[go_sem,t310,a,c,n_]
end
def gv(c:Bool)(r:u D):u D:=if c=I then r else Z (.bool J)
def gw(c:Bool)(x:D):D:=if c=I then x else .bool J
@[congr] theorem aiw {c a:Bool} {r b:u D} (h:c=a) (d:a=I->r=b):gv c r=gv a b:=by
 subst h;unfold gv;split
 ·exact d (by assumption)
 ·rfl
theorem ki(r:u D):gv J r=Z (.bool J):=(rfl)
theorem dY(c:Bool)(x:D):gv c (Z x)=Z (gw c x):=by cases c<;>rfl
theorem gV(x:D):gw I x=x:=(rfl)
theorem lR(x:D):gw J x=.bool J:=(rfl)
theorem dZ(c b:Bool):gw c (.bool b)=.bool (c && b):=by cases c<;>rfl
theorem eb(G:Gf)(a:M D)(c:Bool)(o:PO)(es:M SE)(t:ST):Zv (Z c) G o es t a=opT (gv c (poT o (iY a es))) G t a:=by cases c<;>rfl
theorem ais(G:Gf)(d:M D)(c:Bool)(a b:ST):Wo (Z c) G a b d=if c=I then Wo (Z I) G a b d else Wo (Z J) G a b d:=by cases c<;>rfl
theorem afK(k:IntKind)(a b:Int):aZ (.bin .eql) [.int k a,.int k b]=Z (.bool (Z' (a=b))):=by rw[C7];rfl
theorem afP(k:IntKind)(a b:Int):aZ (.bin .neq) [.int k a,.int k b]=Z (.bool (!Z' (a=b))):=by rw[C7];rfl
theorem afO(k:IntKind)(a b:Int):aZ (.bin .lss) [.int k a,.int k b]=Z (.bool (Z' (a < b))):=by rw[C7];rfl
theorem afN(k:IntKind)(a b:Int):aZ (.bin .leq) [.int k a,.int k b]=Z (.bool (Z' (a<=b))):=by rw[C7];rfl
theorem afM(k:IntKind)(a b:Int):aZ (.bin .gtr) [.int k a,.int k b]=Z (.bool (Z' (b < a))):=by rw[C7];rfl
theorem afL(k:IntKind)(a b:Int):aZ (.bin .geq) [.int k a,.int k b]=Z (.bool (Z' (b<=a))):=by rw[C7];rfl
theorem afI(k:IntKind)(a b:Int):aZ (.bin .add) [.int k a,.int k b]=Z (.int k (k.wrap (a+b))):=by rw[C7];rfl
theorem afR(a b:z):aZ (.bin .eql) [.str a,.str b]=Z (.bool (Z' (a=b))):=by rw[ZD];rfl
theorem afQ(a b:z):aZ (.bin .neq) [.str a,.str b]=Z (.bool (!Z' (a=b))):=by rw[ZD];rfl
theorem afJ(a b:Bool):aZ (.Wi .neq) [.bool a,.bool b]=Z (.bool (!Z' (a=b))):=(rfl)
attribute [go_sem 2000] afK afP afO afN afM afL afI afR afQ afJ
theorem Hz(a b:Bool):(a ||(!a && b))=(a ||b):=by cases a<;>rfl
theorem bq2(a b:Bool):(!a ||(a && b))=(!a ||b):=by cases a<;>rfl
theorem anF(k:IntKind)(n:Int):aZ .pl [.int k n]=Z (.bool J):=(rfl)
theorem anE(b:Bool):aZ .pl [.bool b]=Z (.bool J):=(rfl)
attribute [go_sem] anF anE
section
theorem n_(n:Int):aZ .pl [E n]=Z (.bool J):=(rfl)
theorem plb(b:Bool):aZ .pl [.bool b]=Z (.bool J):=(rfl)
theorem iI{l:M az}{i:Nat}{y:az}(h:nth l i=Z y):aZ (.el 3) [aE l,E (i:Int)]=Z (.list 0 J [aU y]):=by
 rw[mu,aX,h];rfl
theorem lV{l:M az}{y:az}(a:bK aU l<=mg)(h:y∈l):y.aa.length<=mg/\bK aU y.aa<=mg:=by
 have a1:=cG aU h;rw[fF]at a1;refine⟨?_,by omega⟩;simp only[bK]at a1 a;omega
theorem mT{n:ah}(a:ee (ax n)<=mg):n.a_.length<=mg:=by
 rw[dO]at a;simp only[bK]at a;omega
theorem TN:∀{a b:M z},a.length=b.length->(∀j x,nth a j=Z x->nth b j=Z x)->a=b
 |[],[],_,_=>rfl
 |x::a,y::b,h,d=>by
  have f:=d 0 x rfl;cases f;rw[TN (a:=a) (b:=b) (by simpa using h) λj c e=>d (j+1) c e]
theorem aaT{a b:M z}(h:a.length=b.length):allI (λi e=>Z' (nth b i=Z e)) 0 a=Z' (a=b):=by
 rw[cR,mD];simp only[bo,decide_eq_true_eq];exact⟨λd=>TN h d,λe j x c=>e▸c⟩
theorem anG{a b:M z}(o:a.length<=mg):G 100 [bu a,bu b]=Z (0,[.bool (Z' (a=b))]):=by
 refine ct t100 rfl ?_;by_cases j:a.length=b.length
 ·have d:(a.length:Int)=(b.length:Int):=by omega
  have h:=nP (b:=lB G Fy) a (λi=>(0,[bu a,bu b,E a.length,E (i:Int)])) (λi e=>Z' (nth b i=Z e)) (1,[bu a,bu b,E a.length,E a.length,.bool J]) (0,[.bool J]) (by
   intro i e g;have k:=bp g;have n:=wj k o;have l:nth b i=Z (b[i]'(by omega)):=cI (by omega);rw[l];generalize (b[i]'(by omega))=f at *;by_cases c:e=f
   ·subst c;simp only[go_sem,bG,Fy,k,n,aX,g,l,fe]
   ·have p:¬f=e:=λh=>c h.symm;simp only[go_sem,bG,Fy,k,aX,g,l,fe,c,p,ae]) (by simp only[go_sem,bG,Fy,aC]) a.length 0 (by omega)
  rw[n0,bm,aaT j]at h;rw[j]at h;cases hd:Z' (a=b)<;>rw[hd]at h<;>simp only[go_sem]at h<;>simp only[go_sem,t100,d,h]
 ·have d:¬(a.length:Int)=(b.length:Int):=by omega
  have m:¬a=b:=λh=>j (by rw[h]);simp only[go_sem,t100,d,m]
theorem Vb(j:Nat):Z' ((j:Int) < 0)=J:=by simp only[decide_eq_false_iff_not];omega
theorem vo(k:Int)(e:ah)(b:Bool):aZ .Ww [E k,.str e.aj,E e.type.aq,fU e.type.ranges,bu e.type.names,.str e.type.pattern,.str e.type.path,bu e.a_,bu e.unique,.str e.default,.bool e.given,.bool e.fo,.bool e.df,.bool e.fixed,E e.min,E e.max,cZ e.when,cZ e.jy,aB e.aa,.bool b]=Z (.bool J):=(rfl)
end
section
theorem tE{a:Type}(l:M a):Z' ((0:Int) < (l.length:Int))=!l.isEmpty:=by cases l<;>simp
theorem Vi{n:ah}(m:ee (ax n)<=mg) :
  cm (lB G B0) (0,E 0::ax n)=Z (if n.a_.all (BP n.aa)=I then (1,E n.a_.length::.bool J::ax n) else (0,[.bool J])):=by
 have c:=m;rw[dO]at c;have q:n.a_.length<=mg:=by simp only[bK]at c;omega
 have r:n.aa.length<=mg:=by simp only[bK]at c;omega
 have v:=nb (b:=lB G B0) n.a_ (λi=>(0,E (i:Int)::ax n)) (BP n.aa) (1,E n.a_.length::.bool J::ax n) (0,[.bool J]) (by
  intro i e f;have k:=bp f;have t:=wj k q;have d:=ZP (l:=n.aa) (nm:=e) r;clear m c;cases a:dC n.aa e with
  |none=>
   have h:BP n.aa e=J:=by simp only[BP,wC,a]
   rw[a]at d;simp +contextual -implicitDefEqProofs only [go_sem,eb,ki,dY,dZ,bG,B0,af n,k,aX,f,fe,d,ij,h]
  |some j=>
   obtain⟨x,o,_⟩:=du a;have h:BP n.aa e=(Z' (x.aq=3) && Vd x):=by simp only[BP,wC,a,o]
   have s:Z' ((j:Int) < 0)=J:=by simp only[decide_eq_false_iff_not];omega
   rw[a]at d;rw[h,Vd];simp +contextual -implicitDefEqProofs only [go_sem,eb,dY,dZ,bG,B0,af n,k,aX,f,fe,d,ij]
   simp +contextual -implicitDefEqProofs only [go_sem,eb,dY,gV,dZ,s,o,aX,af x,tE]
   rw[ais];generalize Z' (x.aq=3)=v3;generalize x.when.isEmpty=w;generalize x.given=g;generalize Z' (x.type.aq=6)=p;cases v3<;>cases w<;>cases g<;>cases p<;>simp +contextual -implicitDefEqProofs only [go_sem,t]) (by simp +contextual -implicitDefEqProofs only [go_sem,bG,B0,af n,aC])
 exact v
theorem Vj{n:ah}(k:ee (ax n)<=mg) :
  cm (lB G B1) (0,E 0::ax n)=Z (if n.unique.all (Hn n.aa)=I then (1,E n.unique.length::.bool J::ax n) else (0,[.bool J])):=by
 have c:=k;rw[dO]at c;have o:n.unique.length<=mg:=by simp only[bK]at c;omega
 have p:n.aa.length<=mg:=by simp only[bK]at c;omega
 have s:=nb (b:=lB G B1) n.unique (λi=>(0,E (i:Int)::ax n)) (Hn n.aa) (1,E n.unique.length::.bool J::ax n) (0,[.bool J]) (by
  intro i e f;have h:=bp f;have r:=wj h o;have d:=ZP (l:=n.aa) (nm:=e) p;clear k c;cases a:dC n.aa e with
  |none=>
   have g:Hn n.aa e=J:=by simp only[Hn,wC,a]
   rw[a]at d;simp +contextual -implicitDefEqProofs only [go_sem,eb,ki,dY,dZ,bG,B1,af n,h,aX,f,fe,d,ij,g]
  |some j=>
   obtain⟨x,m,_⟩:=du a;have g:Hn n.aa e=Z' (x.aq=3):=by simp only[Hn,wC,a,m]
   have q:Z' ((j:Int) < 0)=J:=by simp only[decide_eq_false_iff_not];omega
   rw[a]at d;rw[g];simp +contextual -implicitDefEqProofs only [go_sem,eb,dY,dZ,bG,B1,af n,h,aX,f,fe,d,ij]
   simp +contextual -implicitDefEqProofs only [go_sem,eb,dY,gV,dZ,q,m,af x]
   rw[ais];generalize Z' (x.aq=3)=v3;cases v3<;>simp +contextual -implicitDefEqProofs only [go_sem,r]) (by simp +contextual -implicitDefEqProofs only [go_sem,bG,B1,af n,aC])
 exact s
theorem an2{n:ah}(h:ee (ax n)<=mg):G 214 (ax n)=Z (0,[.bool (C2 n)]):=by
 have g:=h;rw[dO]at g;have d:=Vi h;have e:=Vj h;have f:=akP n.type;have j:=akQ (l:=n.a_) (by simp only[bK]at g;omega);have m:=akQ (l:=n.unique) (by simp only[bK]at g;omega);have k:=akR n;clear h g;unfold C2;rw[ew]at f;simp only[af n]at d e k;refine ct t214 (by rw[af];rfl) ?_;generalize n.a_.all (BP n.aa)=q at *;generalize n.unique.all (Hn n.aa)=p at *;generalize zT n.type=c at *;generalize sW n.a_=a at *;generalize sW n.unique=b at *;generalize ng n=o at *;cases q
 ·simp +contextual -implicitDefEqProofs only [go_sem]at d
  simp +contextual -implicitDefEqProofs only [go_sem,t214,af n,d]
 cases p
 ·simp +contextual -implicitDefEqProofs only [go_sem]at d
  simp +contextual -implicitDefEqProofs only [go_sem]at e
  simp +contextual -implicitDefEqProofs only [go_sem,t214,af n,d,e]
 simp +contextual -implicitDefEqProofs only [go_sem]at d
 simp +contextual -implicitDefEqProofs only [go_sem]at e
 cases c
 ·simp only[go_sem,eb,ki,dY,lR,dZ,f,t214,af n,d,e]
 cases i:n.a_.isEmpty
 rotate_left
 ·simp only[go_sem,eb,dY,gV,dZ,tE,f,t214,af n,d,e,i]
 cases a
 ·simp only[go_sem,eb,dY,gV,dZ,tE,f,j,t214,af n,d,e,i]
 cases b
 ·simp only[go_sem,eb,dY,gV,dZ,tE,f,j,m,t214,af n,d,e,i]
 cases o<;>simp only[go_sem,eb,dY,gV,dZ,tE,f,j,m,k,dB,t214,af n,d,e,i]
 generalize n.given=v;generalize n.fo=t;generalize n.df=s;generalize n.fixed=r;cases v<;>cases t<;>cases s<;>cases r<;>rfl
end
section
theorem OC(o:u Nat)(i:Nat):Z' (ij o=(i:Int))=Z' (o=Z i):=by
 cases o with
 |none=>simp[ij]
 |some j=>exact decide_eq_decide.2 ⟨λh=>congrArg Z (Int.ofNat.inj h),λh=>congrArg Int.ofNat (ey h)⟩
theorem aic{d:M ah}{j:Nat}{e:ah}(h:nth d j=Z e):aZ (.Wn 19 1 1 I) [aB d,E (j:Int)]=Z (.list 0 J [ax e]):=by
 simp only[aZ,bW,aX,h,aQ];rw[af];exact if_pos ⟨trivial,by decide,by simp only[aH];omega,rfl⟩
section
variable {ip:z->Bool} {mt:z->z->Bool} (hP:∀s:z,s.size<=mg->G 227 [.str s]=Z (0,[.bool (ip s)])) (hM:∀p s:z,p.size<=mg->s.size<=mg->G 236 [.str p,.str s]=Z (0,[.bool (mt p s)]))
include hP hM
theorem aob{n:ah}{free:Bool}(H:ee (ax n)<=mg):G 239 (ax n++[.bool free])=Z (0,[.bool (wQ ip mt n free)]):=by
 have R:=H;rw[dO]at R;have c:=acI (s:=n.aj) (by omega);have d:G 210 [cZ n.when,E 1]=_:=akO (m:=1) (by omega);have f:G 210 [cZ n.jy,E 3]=_:=akO (m:=3) (by omega);have D:=akP n.type;have P:=an2 H;have l:=akX hP (t:=n.type) (by omega);have N:=akR n;have S:=ak0 hP hM (t:=n.type) (s:=n.default) (by omega) (by omega);clear H R hP hM;simp only[ew,af n,au,av]at D P l N S;refine ct t239 (by rw[af];rfl) ?_;unfold wQ IU;generalize isName n.aj=X at *;generalize HH n.when 1=W at *;generalize HH n.jy 3=V at *;generalize Q:zT n.type=a at *;generalize r:isType ip n.type=it at *;generalize K:ng n=os at *;cases X
 ·simp +contextual -implicitDefEqProofs only [go_sem,eb,dY,gV,dZ,cp,c,uJ,dB,t239,af n]
 cases W
 ·simp +contextual -implicitDefEqProofs only [go_sem,eb,dY,gV,dZ,cp,c,d,uJ,dB,t239,af n]
 cases V
 ·simp +contextual -implicitDefEqProofs only [go_sem,eb,dY,gV,dZ,cp,c,d,f,uJ,dB,t239,af n]
 have o:(n.a_.isEmpty && n.unique.isEmpty && Z' (n.default.size=0) && !n.given && !n.fixed && Z' (n.min=0) && Z' (n.max=0))=sa n:=by simp only[sa,iy]
 by_cases B:n.aq=1
 ·have h:j7 ip mt n free=(sa n && (!n.fo && a)):=by simp only[j7,B,Q];rfl
  rw[h];simp +contextual -implicitDefEqProofs only [go_sem,eb,dY,gV,dZ,cp,c,d,f,uJ,dB,t239,af n,B]
  rw[o];generalize sa n=v at *;clear o;obtain⟨w,i⟩:∃w,n.fo=w:=⟨_,rfl⟩
  cases v<;>cases w<;>simp only[go_sem,D,i]
 by_cases h:n.aq=2
 ·have e:j7 ip mt n free=C2 n:=by simp only[j7,h,if_true];rfl
  rw[e];rw[h]at P;simp +contextual -implicitDefEqProofs only [go_sem,eb,dY,gV,dZ,cp,c,d,f,uJ,dB,t239,af n,h,P]
 by_cases A:n.aq=3
 ·obtain⟨g,k⟩:∃g,(n.a_.isEmpty && n.unique.isEmpty && Z' (n.min=0) && Z' (n.max=0) && !n.df && n.aa.isEmpty)=g:=⟨_,rfl⟩
  have e:F7 ip n=(g && it):=by simp only[F7,<- k,iy,r]
  have T:j7 ip mt n free=if n.given=I then (g && it) && (free && (!n.fo && (n.when.isEmpty && isVal ip mt n.type n.default))) else (g && it) && Z' (n.default.size=0):=by
   simp only[j7,A,e];rfl
  rw[T];generalize isVal ip mt n.type n.default=Y at *;obtain⟨L,j⟩:∃w,n.given=w:=⟨_,rfl⟩
  obtain⟨ne,C⟩:∃w,n.fo=w:=⟨_,rfl⟩
  obtain⟨U,i⟩:∃w,n.when.isEmpty=w:=⟨_,rfl⟩
  rw[j];simp +contextual -implicitDefEqProofs only [go_sem,eb,dY,gV,dZ,cp,c,d,f,uJ,dB,t239,af n,A]
  rw[k];clear k e T;cases g
  ·cases L<;>simp +contextual -implicitDefEqProofs only [go_sem,eb,ki,dY,lR,dZ,dB,j]
  cases it
  ·cases L<;>simp +contextual -implicitDefEqProofs only [go_sem,eb,ki,dY,lR,dZ,dB,l,j]
  cases L
  ·simp +contextual -implicitDefEqProofs only [go_sem,eb,dY,dZ,dB,l,j]
  cases free
  ·simp +contextual -implicitDefEqProofs only [go_sem,eb,ki,dY,lR,dZ,l,j]
  cases ne
  rotate_left
  ·simp +contextual -implicitDefEqProofs only [go_sem,eb,ki,dY,lR,dZ,l,j,C]
  cases U<;>simp +contextual -implicitDefEqProofs only [go_sem,eb,dY,gV,dZ,uJ,l,j,C,i,S]
 by_cases q:n.aq=4
 ·obtain⟨g,k⟩:∃g,(n.a_.isEmpty && n.unique.isEmpty && Z' (n.default.size=0) && !n.given && !n.fixed && !n.fo && !n.df && n.aa.isEmpty)=g:=⟨_,rfl⟩
  have e:j7 ip mt n free=(g && (os && it)):=by simp only[j7,q,<- k,Ol,iy,r,K];rfl
  rw[e];rw[q]at N;simp +contextual -implicitDefEqProofs only [go_sem,eb,dY,gV,dZ,cp,c,d,f,uJ,dB,t239,af n,q]
  rw[k];clear k e;cases g
  ·simp +contextual -implicitDefEqProofs only [go_sem]
  cases os<;>simp +contextual -implicitDefEqProofs only [go_sem,eb,dY,dZ,N,l]
 by_cases y:n.aq=5
 ·have e:j7 ip mt n free=(sa n && (!n.df && (n.jy.isEmpty && a))):=by simp only[j7,y,Q];rfl
  rw[e];simp +contextual -implicitDefEqProofs only [go_sem,eb,dY,gV,dZ,cp,c,d,f,uJ,dB,t239,af n,y]
  rw[o];generalize sa n=v at *;clear o;obtain⟨w,i⟩:∃w,n.df=w:=⟨_,rfl⟩
  obtain⟨b,F⟩:∃w,n.jy.isEmpty=w:=⟨_,rfl⟩
  cases v<;>cases w<;>cases b<;>simp only[go_sem,D,i,F]
 by_cases x:n.aq=6
 ·have e:j7 ip mt n free=(sa n && (!n.df && (!n.fo && (n.jy.isEmpty && a)))):=by simp only[j7,x,Q];rfl
  rw[e];simp +contextual -implicitDefEqProofs only [go_sem,eb,dY,gV,dZ,cp,c,d,f,uJ,dB,t239,af n,x]
  rw[o];generalize sa n=v at *;clear o;obtain⟨w,i⟩:∃w,n.df=w:=⟨_,rfl⟩
  obtain⟨b,F⟩:∃w,n.jy.isEmpty=w:=⟨_,rfl⟩
  obtain⟨ne,C⟩:∃w,n.fo=w:=⟨_,rfl⟩
  cases v<;>cases w<;>cases b<;>cases ne<;>simp only[go_sem,D,i,F,C]
 have e:j7 ip mt n free=J:=by simp only[j7,B,h,A,q,y,x,if_false]
 rw[e];simp +contextual -implicitDefEqProofs only [go_sem,eb,dY,gV,dZ,cp,c,d,f,uJ,dB,t239,af n,B,h,A,q,y,x]
theorem af7(m:Nat):∀(l:M ah) (k:Int) (free:Bool) (deep:Nat),aw l < m->bK ax l<=mg->deep+uq l<=2 * mg->
  G 240 [aB l,E k,.bool free,E (deep:Int)]=Z (0,[.bool (sM ip mt m l k free deep)]):=by
 induction m with
 |zero=>intro l k free deep h;omega
 |succ m q=>
  intro l k free deep C g hd;have D:l.length<=mg:=by simp only[bK]at g;omega
  have o:=q81 g;have B:(dk l).length<=mg:=by have:=lN (es:=l);simp only[bK]at this g;omega
  have d:=nP (b:=lB G yQ) l (λi=>(0,[aB l,E k,.bool free,E (deep:Int),E (i:Int),aB (dk l)])) (λi n=>Z' (dC l n.aj=Z i) && (Z' (Z' (k=5)=Z' (n.aq=6)) && (wQ ip mt n free && sM ip mt m n.aa n.aq (uh n free) (deep+1))))
   (1,[aB l,E k,.bool free,E (deep:Int),E l.length,.bool J,aB (dk l)]) (0,[.bool J]) (by
   intro i n a;have c:=bp a;have w:=wj c D;have x:=bc a;have v:ee (ax n)<=mg:=by have:=cG ax x;omega
   have e:=ZP (l:=l) (nm:=n.aj) D;have A:=aob hP hM (n:=n) (free:=free) v;have F:=q n.aa n.aq (uh n free) (deep+1) (by have:=bj x;have:=ah.dL n;omega) (aG (eh n) v) (by have:=(DO l _).1 (aD _) n x;omega);have f:=OC (dC l n.aj) i;have H:IntKind.i64.wrap ((deep:Int)+1)=((deep+1:Nat):Int):=by rw[wrap_i64 (by simp only[mg]at hd;omega)];omega
   have hB:(free && n.when.isEmpty && !Z' (n.aq=6))=uh n free:=by simp only[uh,iy]
   simp only[af n,au,av]at A;clear q hP hM g C hd v o;rw[<- hB]at F ⊢;clear hB;generalize wQ ip mt n free=K at *;generalize sM ip mt m n.aa n.aq (free && n.when.isEmpty && !Z' (n.aq=6)) (deep+1)=L at *;generalize Z' (dC l n.aj=Z i)=t at *;obtain⟨di,r⟩:∃b,Z' (Z' (k=5)=Z' (n.aq=6))=b:=⟨_,rfl⟩
   rw[r];cases t
   ·simp +contextual -implicitDefEqProofs only [go_sem,eb,ki,dY,gV,lR,dZ,cp,bG,yQ,c,aX,a,af n,uJ,e,f]
   cases di
   ·simp +contextual -implicitDefEqProofs only [go_sem,eb,ki,dY,gV,lR,dZ,cp,bG,yQ,c,aX,a,af n,uJ,r,e,f]
   cases K
   ·simp +contextual -implicitDefEqProofs only [go_sem,eb,ki,dY,gV,lR,dZ,cp,bG,yQ,c,aX,a,af n,uJ,r,e,f,H,A]
   cases L<;>simp +contextual -implicitDefEqProofs only [go_sem,eb,dY,gV,dZ,cp,bG,yQ,c,w,aX,a,af n,uJ,r,e,f,H,A,F]
   ) (by simp only[go_sem,bG,yQ,aC]) l.length 0 (by omega)
  have j:=nP (b:=lB G KY) (dk l) (λi=>(0,[aB l,E (deep:Int),E (i:Int),aB (dk l)])) (λi n=>Z' (dC (dk l) n.aj=Z i))
   (1,[aB l,E (deep:Int),E (dk l).length,.bool J,aB (dk l)]) (0,[.bool J]) (by
   intro i n a;have c:=bp a;have w:=wj c B;have e:=ZP (l:=dk l) (nm:=n.aj) B;have f:=OC (dC (dk l) n.aj) i;have P:=jd 19 J ((dk l).map ax) i (by rw[ay];exact c);have N:=aic a;clear q hP hM g C hd o;generalize Z' (dC (dk l) n.aj=Z i)=t at *;cases t<;>simp +contextual -implicitDefEqProofs only [go_sem,bG,KY,c,w,af n,e,f,P,N]
   ) (by simp only[go_sem,bG,KY,aC]) (dk l).length 0 (by omega)
  rw[n0,bm]at d j;have y:Z' ((deep:Int)<=8)=Z' (deep<=8):=decide_eq_decide.2 (by omega);refine ct t240 rfl ?_;rw[sM];generalize allI _ 0 l=a1 at *;generalize allI _ 0 (dk l)=a2 at *;clear q hP hM;cases a1
  ·simp only[go_sem]at d;simp +contextual -implicitDefEqProofs only [go_sem,t240,o,d]
  cases a2
  ·simp only[go_sem]at d;simp only[go_sem]at j;simp +contextual -implicitDefEqProofs only [go_sem,t240,o,d,j]
  simp only[go_sem]at d;simp only[go_sem]at j;simp +contextual -implicitDefEqProofs only [go_sem,eb,dY,gV,dZ,Hz,t240,o,d,j,y,uJ]
theorem aoc{l:M ah}(a:bK ax l<=mg):G 241 [aB l]=Z (0,[.bool (Fg ip mt l)]):=by
 obtain⟨r,f,d⟩:=anV a (x:=60) (by omega) (by omega);have b:=af7 hP hM (aw l+1) l 0 I 1 (aP _) a (by have:=Xx (l:=l);simp only[mg]at *;omega);rw[n1]at b;have e:Z' (0<=r)=Z' (eJ l<=60):=by
  apply decide_eq_decide.2
  unfold xj at d;omega
 clear hP hM d;refine ct t241 rfl ?_;unfold Fg;generalize sM ip mt (aw l+1) l 0 I 1=k at *;generalize Z' (eJ l<=60)=c at *;cases c<;>simp +contextual -implicitDefEqProofs only [go_sem,eb,dY,dZ,t241,f,e,b]
end
end
section
theorem aeE{c β:Type}(a:M c)(b:M β)(e:a.length<=mg)(d:b.length<=mg):Z' ((0:Int) < IntKind.i64.wrap ((a.length:Int)+(b.length:Int)))=!(a.isEmpty && b.isEmpty):=by
 rw[wrap_i64 (by simp only[mg]at e d;omega)];cases a<;>cases b<;>simp<;>omega
theorem wk{b:Type}(a:M b):Z' ((1:Int)<=(a.length:Int))=!a.isEmpty:=by cases a<;>simp;omega
section
variable {ip:z->Bool} {mt:z->z->Bool} (hP:∀s:z,s.size<=mg->G 285 [.str s]=Z (0,[.bool (ip s)])) (hM:∀p s:z,p.size<=mg->s.size<=mg->G 310 [.str p,.str s]=Z (0,[.bool (mt p s)]))
include hP hM
theorem aoA{n:ah}(X:ee (ax n)<=mg):G 313 (ax n)=Z (0,[.bool (AL ip mt n)]):=by
 have S:=X;rw[dO]at S;have g:=acK (s:=n.aj) (by omega);have h:G 269 [cZ n.when,E 1]=_:=ak7 (m:=1) (by omega);have i:G 269 [cZ n.jy,E 3]=_:=ak7 (m:=3) (by omega);have x:=aoq n.type;have R:=aor n;have j:=alc hP (t:=n.type) (by omega);have f7:=alf hP hM (t:=n.type) (s:=n.default) (by omega) (by omega);have d:=AP n.aq;have U:n.a_.length<=mg:=by simp only[bK]at S;omega
 have r:n.unique.length<=mg:=by simp only[bK]at S;omega
 have w:=aeE n.a_ n.unique U r;have D:=VV (l:=n.a_) U;have W:=VV (l:=n.unique) r;have Q:=agf (l:=n.a_) (by omega);have Y:=agf (l:=n.unique) (by omega);have v:Z' ((n.a_.length:Int)<=3)=Z' (n.a_.length<=3):=decide_eq_decide.2 (by omega);have T:Z' ((n.unique.length:Int)<=3)=Z' (n.unique.length<=3):=decide_eq_decide.2 (by omega);clear X S hP hM U r;simp only[ew,af n,au,av]at x R j f7;refine ct t313 (by rw[af];rfl) ?_;unfold AL IU;generalize isName n.aj=h1 at *;generalize HH n.when 1=h2 at *;generalize HH n.jy 3=h3 at *;generalize y:zT n.type=a at *;generalize P:isType ip n.type=it at *;generalize N:ng n=os at *;cases h1
 ·simp +contextual -implicitDefEqProofs only [go_sem,eb,dY,dZ,g,t313,af n]
 cases h2
 ·simp +contextual -implicitDefEqProofs only [go_sem,eb,dY,dZ,g,h,t313,af n]
 cases h3
 ·simp +contextual -implicitDefEqProofs only [go_sem,eb,dY,dZ,g,h,i,t313,af n]
 by_cases C:n.aq=1
 ·have d:G 92 [E 1]=Z (0,[.bool I]):=AP 1;have f:qH n=(!a ||!(n.a_.isEmpty && n.unique.isEmpty) ||(!Z' (n.default.size=0) ||n.given ||n.fixed) ||n.fo ||(!Z' (n.min=0) ||!Z' (n.max=0))):=by simp[qH,C,y,kP,fO,hY]
  have e:lM ip mt n=I:=by simp[lM,C]
  rw[f,e];simp +contextual -implicitDefEqProofs only [go_sem,eb,dY,gV,dZ,cp,Hz,bq2,fM,uv,hO,g,h,i,dB,t313,af n,x,w,C]
  generalize (!a ||!(n.a_.isEmpty && n.unique.isEmpty) ||(!Z' (n.default.size=0) ||n.given ||n.fixed) ||n.fo ||(!Z' (n.min=0) ||!Z' (n.max=0)))=F at *;clear f e;cases F<;>simp +contextual -implicitDefEqProofs only [go_sem,eb,ki,dY,lR,dZ,hO,d]
 by_cases q:n.aq=2
 ·have d:G 92 [E 2]=Z (0,[.bool I]):=AP 2;rw[q]at R;have f:qH n=(!a ||(!Z' (n.default.size=0) ||n.given ||n.fixed) ||n.fo ||n.df):=by simp[qH,q,y,kP,fO,hY]
  have e:lM ip mt n=(!n.a_.isEmpty && (nW n.a_ && (nW n.unique && os))):=by simp[lM,q,N]
  rw[f,e];simp +contextual -implicitDefEqProofs only [go_sem,eb,ki,dY,lR,dZ,cp,Hz,bq2,fM,uv,hO,g,h,i,dB,t313,af n,x,q]
  generalize (!a ||(!Z' (n.default.size=0) ||n.given ||n.fixed) ||n.fo ||n.df)=F at *;clear f e;unfold nW;generalize Z' (n.a_.length<=3)=c1 at *;generalize Z' (n.unique.length<=3)=c2 at *;generalize um n.a_=c3 at *;generalize um n.unique=c4 at *;generalize n.a_.all isName=c5 at *;generalize n.unique.all isName=c6 at *;obtain⟨H,c⟩:∃b,n.a_.isEmpty=b:=⟨_,rfl⟩
  rw[c];cases F
  rotate_left
  ·simp +contextual -implicitDefEqProofs only [go_sem]
  cases H
  rotate_left
  ·simp +contextual -implicitDefEqProofs only [go_sem,eb,ki,dY,lR,dZ,hO,d,wk,c]
  cases c1
  ·simp +contextual -implicitDefEqProofs only [go_sem,eb,ki,dY,gV,lR,dZ,hO,d,wk,c,v]
  cases c3
  ·simp +contextual -implicitDefEqProofs only [go_sem,eb,ki,dY,gV,lR,dZ,hO,d,wk,c,v,D]
  cases c5
  ·simp +contextual -implicitDefEqProofs only [go_sem,eb,ki,dY,gV,lR,dZ,hO,d,wk,c,v,D,Q]
  cases c2
  ·simp +contextual -implicitDefEqProofs only [go_sem,eb,ki,dY,gV,lR,dZ,hO,d,wk,c,v,D,Q,T]
  cases c4
  ·simp +contextual -implicitDefEqProofs only [go_sem,eb,ki,dY,gV,lR,dZ,hO,d,wk,c,v,D,Q,T,W]
  cases c6
  ·simp +contextual -implicitDefEqProofs only [go_sem,eb,ki,dY,gV,lR,dZ,hO,d,wk,c,v,D,Q,T,W,Y]
  cases os<;>simp +contextual -implicitDefEqProofs only [go_sem,eb,ki,dY,gV,lR,dZ,hO,d,wk,c,v,D,Q,T,W,Y,R]
 by_cases B:n.aq=3
 ·have d:G 92 [E 3]=Z (0,[.bool I]):=AP 3;have f:qH n=(!(n.a_.isEmpty && n.unique.isEmpty) ||n.df ||(!Z' (n.min=0) ||!Z' (n.max=0)) ||!n.aa.isEmpty):=by simp[qH,B,y,kP,fO,hY]
  have e:lM ip mt n=(it && (!(n.given && (n.fo ||!n.when.isEmpty)) && (if n.given=I then isVal ip mt n.type n.default else Z' (n.default.size=0)))):=by simp[lM,B,P]
  rw[f,e];simp +contextual -implicitDefEqProofs only [go_sem,eb,dY,gV,dZ,cp,Hz,bq2,fM,uv,hO,g,h,i,dB,t313,af n,w,B]
  generalize (!(n.a_.isEmpty && n.unique.isEmpty) ||n.df ||(!Z' (n.min=0) ||!Z' (n.max=0)))=F at *;clear f e;generalize isVal ip mt n.type n.default=iv at *;obtain⟨H,c⟩:∃b,n.aa.isEmpty=b:=⟨_,rfl⟩
  obtain⟨gi,hg⟩:∃b,n.given=b:=⟨_,rfl⟩
  obtain⟨ne,hn⟩:∃b,n.fo=b:=⟨_,rfl⟩
  obtain⟨we,V⟩:∃b,n.when.isEmpty=b:=⟨_,rfl⟩
  rw[c,hg,hn,V];cases F
  rotate_left
  ·simp +contextual -implicitDefEqProofs only [go_sem]
  cases H
  ·simp +contextual -implicitDefEqProofs only [go_sem,eb,ki,dY,gV,lR,dZ,hO,tE,d,c]
  cases it
  ·simp +contextual -implicitDefEqProofs only [go_sem,eb,ki,dY,gV,lR,dZ,uv,hO,tE,d,c,j]
  cases gi
  ·simp +contextual -implicitDefEqProofs only [go_sem,eb,ki,dY,gV,lR,dZ,uv,hO,dB,tE,d,c,j]
  cases ne
  rotate_left
  ·simp +contextual -implicitDefEqProofs only [go_sem,eb,ki,dY,gV,lR,dZ,uv,hO,tE,d,c,j]
  cases we
  ·simp +contextual -implicitDefEqProofs only [go_sem,eb,ki,dY,gV,lR,dZ,uv,hO,tE,d,c,j,V]
  cases iv<;>simp +contextual -implicitDefEqProofs only [go_sem,eb,ki,dY,gV,lR,dZ,uv,hO,dB,tE,d,c,j,V,f7]
 by_cases o:n.aq=4
 ·have d:G 92 [E 4]=Z (0,[.bool I]):=AP 4;rw[o]at R;have f:qH n=(!(n.a_.isEmpty && n.unique.isEmpty) ||(!Z' (n.default.size=0) ||n.given ||n.fixed) ||n.fo ||n.df ||!n.aa.isEmpty):=by simp[qH,o,y,kP,fO,hY]
  have e:lM ip mt n=(it && os):=by simp[lM,o,P,N]
  rw[f,e];simp +contextual -implicitDefEqProofs only [go_sem,eb,dY,gV,dZ,cp,Hz,bq2,fM,uv,hO,g,h,i,dB,t313,af n,w,o]
  generalize (!(n.a_.isEmpty && n.unique.isEmpty) ||(!Z' (n.default.size=0) ||n.given ||n.fixed) ||n.fo ||n.df)=F at *;clear f e;obtain⟨H,c⟩:∃b,n.aa.isEmpty=b:=⟨_,rfl⟩
  rw[c];cases F
  rotate_left
  ·simp +contextual -implicitDefEqProofs only [go_sem]
  cases H
  ·simp +contextual -implicitDefEqProofs only [go_sem,eb,ki,dY,gV,lR,dZ,hO,tE,d,c]
  cases it
  ·simp +contextual -implicitDefEqProofs only [go_sem,eb,ki,dY,gV,lR,dZ,hO,tE,d,c,j]
  cases os<;>simp +contextual -implicitDefEqProofs only [go_sem,eb,ki,dY,gV,lR,dZ,hO,tE,d,c,j,R]
 by_cases A:n.aq=5
 ·have d:G 92 [E 5]=Z (0,[.bool J]):=AP 5;have f:qH n=(!a ||!(n.a_.isEmpty && n.unique.isEmpty) ||(!Z' (n.default.size=0) ||n.given ||n.fixed) ||n.df ||(!Z' (n.min=0) ||!Z' (n.max=0)) ||!n.jy.isEmpty):=by simp[qH,A,y,kP,fO,hY]
  have e:lM ip mt n=I:=by simp[lM,A]
  rw[f,e];simp +contextual -implicitDefEqProofs only [go_sem,eb,dY,gV,dZ,cp,Hz,bq2,fM,uv,hO,g,h,i,dB,t313,af n,x,w,A]
  generalize (!a ||!(n.a_.isEmpty && n.unique.isEmpty) ||(!Z' (n.default.size=0) ||n.given ||n.fixed) ||n.df ||(!Z' (n.min=0) ||!Z' (n.max=0)))=F at *;clear f e;obtain⟨k,c⟩:∃b,n.jy.isEmpty=b:=⟨_,rfl⟩
  rw[c];cases F<;>cases k<;>simp +contextual -implicitDefEqProofs only [go_sem,eb,ki,dY,gV,lR,dZ,hO,tE,d,c]
 by_cases L:n.aq=6
 ·have d:G 92 [E 6]=Z (0,[.bool J]):=AP 6;have f:qH n=(!a ||!(n.a_.isEmpty && n.unique.isEmpty) ||(!Z' (n.default.size=0) ||n.given ||n.fixed) ||n.fo ||n.df ||(!Z' (n.min=0) ||!Z' (n.max=0)) ||!n.jy.isEmpty):=by simp[qH,L,y,kP,fO,hY]
  have e:lM ip mt n=I:=by simp[lM,L]
  rw[f,e];simp +contextual -implicitDefEqProofs only [go_sem,eb,dY,gV,dZ,cp,Hz,bq2,fM,uv,hO,g,h,i,dB,t313,af n,x,w,L]
  generalize (!a ||!(n.a_.isEmpty && n.unique.isEmpty) ||(!Z' (n.default.size=0) ||n.given ||n.fixed) ||n.fo ||n.df ||(!Z' (n.min=0) ||!Z' (n.max=0)))=F at *;clear f e;obtain⟨k,c⟩:∃b,n.jy.isEmpty=b:=⟨_,rfl⟩
  rw[c];cases F<;>cases k<;>simp +contextual -implicitDefEqProofs only [go_sem,eb,ki,dY,gV,lR,dZ,hO,tE,d,c]
 by_cases K:n.aq=7
 ·have d:G 92 [E 7]=Z (0,[.bool J]):=AP 7;have f:qH n=(!a ||!(n.a_.isEmpty && n.unique.isEmpty) ||(!Z' (n.default.size=0) ||n.given ||n.fixed) ||n.fo ||n.df ||(!Z' (n.min=0) ||!Z' (n.max=0)) ||!n.jy.isEmpty):=by simp[qH,K,y,kP,fO,hY]
  have e:lM ip mt n=(n.when.isEmpty && n.aa.isEmpty):=by simp[lM,K]
  rw[f,e];simp +contextual -implicitDefEqProofs only [go_sem,eb,dY,gV,dZ,cp,Hz,bq2,fM,uv,hO,g,h,i,dB,t313,af n,x,w,K]
  generalize (!a ||!(n.a_.isEmpty && n.unique.isEmpty) ||(!Z' (n.default.size=0) ||n.given ||n.fixed) ||n.fo ||n.df ||(!Z' (n.min=0) ||!Z' (n.max=0)))=F at *;clear f e;obtain⟨k,c⟩:∃b,n.jy.isEmpty=b:=⟨_,rfl⟩
  rw[c];cases F<;>cases k<;>simp +contextual -implicitDefEqProofs only [go_sem,eb,ki,dY,gV,lR,dZ,cp,hO,uJ,tE,d,c]
 ·have f9:G 92 [E n.aq]=Z (0,[.bool J]):=by rw[d,kP,show fO 1 4 n.aq=J from by rw[ej,Ne,gP];omega]
  have e:lM ip mt n=J:=by simp[lM,C,q,B,o,A,L,K]
  rw[e];simp +contextual -implicitDefEqProofs only [go_sem,eb,dY,gV,dZ,cp,Hz,bq2,fM,uv,hO,g,h,i,dB,t313,af n,x,w,C,q,B,o,A]
  generalize (!a ||!(n.a_.isEmpty && n.unique.isEmpty) ||(!Z' (n.default.size=0) ||n.given ||n.fixed) ||n.fo ||n.df ||(!Z' (n.min=0) ||!Z' (n.max=0)))=F at *;obtain⟨k,c⟩:∃b,n.jy.isEmpty=b:=⟨_,rfl⟩
  cases F<;>cases k<;>simp +contextual -implicitDefEqProofs only [go_sem,eb,ki,dY,gV,lR,dZ,hO,tE,C,q,B,o,A,L,K,f9,c]
end
end
section
theorem Vz{n:ah}{l:M ah}{k:Int}{b:Bool}{cnt i:Nat}(A:ee (ax n)<=mg) :
  cm (lB G B_) (0,[E k,.bool b,aB l,E cnt,E (i:Int),bu n.a_,E n.a_.length,E 0]++ax n) =
   Z (if n.a_.all (xX n.aa)=I then (1,[E k,.bool b,aB l,E cnt,E (i:Int),bu n.a_,E n.a_.length,E n.a_.length,.bool J]++ax n) else (0,[.bool J])):=by
 have f:=A;rw[dO]at f;have v:n.a_.length<=mg:=by simp only[bK]at f;omega
 have w:n.aa.length<=mg:=by simp only[bK]at f;omega
 have h:=nb (b:=lB G B_) n.a_ (λj=>(0,[E k,.bool b,aB l,E cnt,E (i:Int),bu n.a_,E n.a_.length,E (j:Int)]++ax n)) (xX n.aa)
  (1,[E k,.bool b,aB l,E cnt,E (i:Int),bu n.a_,E n.a_.length,E n.a_.length,.bool J]++ax n) (0,[.bool J]) (by
  intro j e m;have o:=bp m;have y:=wj o v;have a:=acM (l:=n.aa) (nm:=e) w;cases d:lW n.aa e with
  |none=>
   rw[d]at a;simp only[Dy,af,au,av]at a;have g:xX n.aa e=J:=by simp only[xX,d,wC]
   simp +contextual -implicitDefEqProofs only [go_sem,eb,ki,dY,lR,dZ,bG,B_,af n,o,aX,m,fe,a,g]
  |some B=>
   obtain⟨x,c,_⟩:=du d;rw[d]at a;simp only[c,af,au,av]at a;obtain⟨p,s⟩:∃b,x.when.isEmpty=b:=⟨_,rfl⟩
   obtain⟨t,r⟩:∃b,x.given=b:=⟨_,rfl⟩
   obtain⟨kd,q⟩:∃b,Z' (x.type.aq=6)=b:=⟨_,rfl⟩
   have g:xX n.aa e=(p && (!t && !kd)):=by simp only[xX,d,wC,c,Vd,s,r,q]
   rw[g];cases p<;>cases t<;>cases kd<;>simp +contextual -implicitDefEqProofs only [go_sem,eb,dY,gV,dZ,bG,B_,af n,o,aX,m,fe,a,tE,s,r,q,y]
   ) (by simp +contextual -implicitDefEqProofs only [go_sem,bG,B_,af n,aC])
 exact h
theorem VA{n:ah}{l:M ah}{k:Int}{b:Bool}{cnt i:Nat}(s:ee (ax n)<=mg) :
  cm (lB G Ca) (0,[E k,.bool b,aB l,E cnt,E (i:Int),bu n.unique,E n.unique.length,E 0]++ax n) =
   Z (if n.unique.all (λa=>(lW n.aa a).isSome)=I then (1,[E k,.bool b,aB l,E cnt,E (i:Int),bu n.unique,E n.unique.length,E n.unique.length,.bool J]++ax n) else (0,[.bool J])):=by
 have d:=s;rw[dO]at d;have p:n.unique.length<=mg:=by simp only[bK]at d;omega
 have q:n.aa.length<=mg:=by simp only[bK]at d;omega
 have h:=nb (b:=lB G Ca) n.unique (λj=>(0,[E k,.bool b,aB l,E cnt,E (i:Int),bu n.unique,E n.unique.length,E (j:Int)]++ax n)) (λa=>(lW n.aa a).isSome)
  (1,[E k,.bool b,aB l,E cnt,E (i:Int),bu n.unique,E n.unique.length,E n.unique.length,.bool J]++ax n) (0,[.bool J]) (by
  intro j e g;have m:=bp g;have r:=wj m p;have c:=acM (l:=n.aa) (nm:=e) q;cases o:lW n.aa e with
  |none=>
   rw[o]at c;simp only[Dy,af,au,av]at c;simp +contextual -implicitDefEqProofs only [go_sem,bG,Ca,af n,m,aX,g,fe,c,Option.isSome]
  |some t=>
   obtain⟨x,f,_⟩:=du o;rw[o]at c;simp only[f,af,au,av]at c;simp +contextual -implicitDefEqProofs only [go_sem,bG,Ca,af n,m,aX,g,fe,c,r,Option.isSome]
   ) (by simp +contextual -implicitDefEqProofs only [go_sem,bG,Ca,af n,aC])
 exact h
section
variable {ip:z->Bool} {mt:z->z->Bool} (hP:∀s:z,s.size<=mg->G 285 [.str s]=Z (0,[.bool (ip s)])) (hM:∀p s:z,p.size<=mg->s.size<=mg->G 310 [.str p,.str s]=Z (0,[.bool (mt p s)]))
include hP hM
theorem agn(m:Nat):∀(l:M ah) (k:Int) (b:Bool),aw l < m->bK ax l<=mg->
  G 315 [aB l,E k,.bool b]=Z (0,[.bool (xY ip mt m l k b)]):=by
 induction m with
 |zero=>intro l k b h;omega
 |succ m H=>
  intro l k b X C;have K:l.length<=mg:=by simp only[bK]at C;omega
  have j:=nb (b:=lB G sN) l (λi=>(0,[E k,.bool b,aB l,E l.length,E (i:Int)])) (λn=>AL ip mt n && (!Z' (n.aq=7) && (Z' (Z' (n.aq=6)=Z' (k=5)) && (!(n.given && b) && (n.a_.all (xX n.aa) && (n.unique.all (λa=>(lW n.aa a).isSome) && xY ip mt m n.aa n.aq (b ||(!n.when.isEmpty ||decide (n.aq=6)))))))))
   (1,[E k,.bool b,aB l,E l.length,E l.length,.bool J]) (0,[.bool J]) (by
   intro i n c;have d:=bp c;have Y:=wj d K;have P:=bc c;have w:ee (ax n)<=mg:=by have:=cG ax P;omega
   have g:=aoA hP hM w;have r:=Vz (n:=n) (l:=l) (k:=k) (b:=b) (cnt:=l.length) (i:=i) w;have A:=VA (n:=n) (l:=l) (k:=k) (b:=b) (cnt:=l.length) (i:=i) w;have f2:=H n.aa n.aq (b ||!n.when.isEmpty ||decide (n.aq=6)) (by have:=bj P;have:=ah.dL n;omega) (aG (eh n) w);rw[<- hY b];simp only[af n,au,av]at g r A;clear H hP hM C X w;generalize AL ip mt n=T at *;generalize xY ip mt m n.aa n.aq (b ||!n.when.isEmpty ||decide (n.aq=6))=U at *;generalize n.a_.all (xX n.aa)=V at *;generalize n.unique.all (λa=>(lW n.aa a).isSome)=S at *;obtain⟨W,f⟩:∃b,Z' (n.aq=7)=b:=⟨_,rfl⟩
   obtain⟨di,t⟩:∃x,Z' (Z' (n.aq=6)=Z' (k=5))=x:=⟨_,rfl⟩
   obtain⟨gb,v⟩:∃x,(n.given && b)=x:=⟨_,rfl⟩
   rw[f,t,v];cases T
   ·simp +contextual -implicitDefEqProofs only [go_sem,eb,ki,dY,dZ,hO,bG,sN,d,aX,c,af n,g,f]
   cases W
   rotate_left
   ·simp +contextual -implicitDefEqProofs only [go_sem,eb,ki,dY,dZ,hO,bG,sN,d,aX,c,af n,g,f]
   cases di
   ·simp +contextual -implicitDefEqProofs only [go_sem,eb,ki,dY,dZ,hO,bG,sN,d,aX,c,af n,g,f,t]
   cases gb
   rotate_left
   ·simp +contextual -implicitDefEqProofs only [go_sem,eb,dY,dZ,hO,bG,sN,d,aX,c,af n,g,f,t,v]
   cases V
   ·simp only[go_sem]at r;simp +contextual -implicitDefEqProofs only [go_sem,eb,dY,dZ,hO,bG,sN,d,aX,c,af n,g,f,t,v,r]
   simp only[go_sem]at r;cases S
   ·simp only[go_sem]at A;simp +contextual -implicitDefEqProofs only [go_sem,eb,dY,dZ,hO,bG,sN,d,aX,c,af n,g,f,t,v,r,A]
   simp only[go_sem]at A;cases U<;>simp +contextual -implicitDefEqProofs only [go_sem,eb,dY,gV,dZ,Hz,hO,bG,sN,d,Y,aX,c,af n,tE,g,f,t,v,r,A,f2]
   ) (by simp +contextual -implicitDefEqProofs only [go_sem,bG,sN,aC])
  rw[n0]at j;have c1:=q95 K;have B:=VV (l:=l.map ah.aj) (by rw[ay];exact K);have L:(dk l).length<=mg:=by have:=lN (es:=l);simp only[bK]at this C;omega
  have D:=q94 C;have R:=q95 L;have Q:=VV (l:=(dk l).map ah.aj) (by rw[ay];exact L);refine ct t315 rfl ?_;rw[xY];clear H hP hM;generalize l.all _=a1 at *;generalize um (l.map ah.aj)=d1 at *;generalize um ((dk l).map ah.aj)=d2 at *;unfold pC;obtain⟨N,q⟩:∃x,Z' (k=5)=x:=⟨_,rfl⟩
  obtain⟨F,o⟩:∃x,Z' (k=6)=x:=⟨_,rfl⟩
  rw[q,o];have y:kE (dk l)=0\/kE (dk l)=1:=by cases dk l<;>simp[kE]
  cases d1
  ·cases N<;>cases F<;>simp +contextual -implicitDefEqProofs only [go_sem,eb,dY,dZ,hO,t315,c1,B,q,o]
  cases N
  rotate_left
  ·cases a1<;>simp only[go_sem]at j<;>cases F<;>simp +contextual -implicitDefEqProofs only [go_sem,eb,dY,dZ,hO,t315,c1,B,q,o,j]
  cases F
  rotate_left
  ·cases a1<;>simp only[go_sem]at j<;>simp +contextual -implicitDefEqProofs only [go_sem,eb,dY,dZ,hO,t315,c1,B,q,o,j]
  cases d2
  ·rcases y with e|e<;>rw[e]at D<;>simp +contextual -implicitDefEqProofs only [go_sem,eb,dY,dZ,hO,t315,c1,B,q,o,D,R,Q]
  cases a1<;>simp only[go_sem]at j<;>rcases y with e|e<;>rw[e]at D<;>simp +contextual -implicitDefEqProofs only [go_sem,eb,dY,dZ,hO,t315,c1,B,q,o,D,R,Q,j]
theorem aoB{l:M ah}(a:bK ax l<=mg):G 316 [aB l]=Z (0,[.bool (Fg ip mt l)]):=by
 have b:=aoh a;have g:=aoi a;have f:=agn hP hM (aw l+1) l 0 J (aP _) a;have e:Z' ((eJ l:Int)<=60)=Z' (eJ l<=60):=decide_eq_decide.2 (by omega);have h:Z' ((uq l:Int)<=8)=Z' (uq l<=8):=decide_eq_decide.2 (by omega);clear hP hM;refine ct t316 rfl ?_;rw[abH];generalize xY ip mt (aw l+1) l 0 J=k at *;generalize Z' (eJ l<=60)=c at *;generalize Z' (uq l<=8)=d at *;cases c
 ·simp +contextual -implicitDefEqProofs only [go_sem,eb,dY,dZ,t316,b,e]
 cases d<;>simp +contextual -implicitDefEqProofs only [go_sem,eb,dY,dZ,t316,b,e,g,h,f]
end
end
section
noncomputable def qW(s:M ah)(l:M az):Bool:=uE mh Dx (Fg mh Dx s) s l
theorem uD{s:M ah}{l:M az}(h:qW s l=I):Rt mh Dx (dk s) l:=U_ h
section
variable {s:M ah} (hs:bK ax s<=mg)
include hs
theorem ON{l:M az}(a:bK aU l<=mg):G 250 [aB s,aE l]=Z (0,[.bool (qW s l)]):=
 aog (λt _=>af2 t) (λ_ _ _ h=>af6 h) hs a (aoc (λt _=>af2 t) (λ_ _ _ h=>af6 h) hs)
theorem OO{l:M az}(a:bK aU l<=mg):G 327 [aB s,aE l]=Z (0,[.bool (qW s l)]):=
 aoH (λt _=>agk t) (λ_ _ _ h=>agm h) hs a (aoB (λt _=>agk t) (λ_ _ _ h=>agm h) hs)
end
end
section
theorem ahv{l:M az}(h:l.length<=mg)(a v:z)(b:M az):aZ (.app 3 56) [aE l,.list 3 J [[.str a,.str v,aE b]]]=Z (aE (l++[⟨a,v,b⟩])):=by
 have c:=eN 3 56 J (l.map aU) [[.str a,.str v,aE b]] (by decide) (by simp only[mg,ay,aH,aJ]at *;omega);rw[c];simp[aE,aN]
theorem Zl(a v:z)(b:M az):aZ (.sV 3 J) [.str a,.str v,aE b]=Z (.list 3 J [[.str a,.str v,aE b]]):=jN 3 _ rfl (by decide)
theorem OM(a b:z):aZ .pl [.str a,.str b]=Z (.bool J):=(rfl)
theorem mo:aZ (.sV 3 J) []=Z (aE []):=(rfl)
theorem dzs(n:Nat):Z' ((0:Int) < ((n+1:Nat):Int))=I:=by simp only[decide_eq_true_eq];omega
theorem de0:Z' (((0:Nat):Int)=0)=I:=(rfl)
theorem Pu(n:Nat):Z' (((n+1:Nat):Int)=0)=J:=by simp only[decide_eq_false_iff_not];omega
end
section
theorem ak4{n:ah}{l:M az}{v:z}{key:M z}(B:ee (ax n)<=mg)(s:bK aU l<=mg)(t:key.length<=mg) :
  G 251 (ax n++[aE l,.str v,bu key])=Z (0,[E (ij (yM n l v key))]):=by
 have A:l.length<=mg:=by simp only[bK]at s;omega
 have k:=mT B;have h:=qP (b:=lB G wF) l (λi=>(0,[aE l,.str v,bu key,E (i:Int)]++ax n)) (λy=>Z' (y.aj=n.aj) && (!(Z' (n.aq=4) && !Z' (y.aS=v)) && (!Z' (n.aq=2) ||(!gg (keyOf n y).1 key && !gg key (keyOf n y).1))))
  (1,[aE l,.str v,bu key,E l.length,.bool J]++ax n) (λi y=>(0,[E (i:Int)])) (by
  intro i y m;have c:=bp m;have p:=wj c A;have f:=iI m;have e:=ZL (n:=n) (x:=y) k (lV s (bc m)).1;have H:=af_ (a:=(keyOf n y).1) (b:=key) (nt k) t;have F:=af_ (a:=key) (b:=(keyOf n y).1) t (nt k);simp only[af,aN,au,av]at e;generalize (keyOf n y).1=r at *;generalize gg r key=a1 at *;generalize gg key r=a2 at *;by_cases c1:y.aj=n.aj
  ·rw[c1]at e;by_cases g:n.aq=4
   ·have d:¬(4:Int)=2:=by decide
    rw[g]at e;by_cases w:y.aS=v
    ·simp only[go_sem,bG,wF,af n,c,f,aN y,c1,g,w,d]
    ·simp only[go_sem,bG,wF,af n,c,f,aN y,p,c1,g,w,d]
   ·by_cases d:n.aq=2
    ·have q:¬(2:Int)=4:=by decide
     rw[d]at e;cases a1<;>cases a2<;>simp only[go_sem,bG,wF,af n,c,f,aN y,H,F,plb,p,c1,d,q,e]
    ·simp only[go_sem,bG,wF,af n,c,f,aN y,c1,d,g]
  ·simp only[go_sem,bG,wF,af n,c,f,aN y,p,c1]
  ) (by simp only[go_sem,bG,wF,af n,aC])
 rw[n0]at h;simp only[af n,au,av]at h;refine ct t251 (by rw[af];rfl) ?_;simp only[go_sem,t251,af n,h];unfold yM;generalize C:ml _ l 0=o;cases o with
 |none=>simp only[go_sem,ij]
 |some j=>
  obtain⟨y,D,_⟩:=du C;simp only[go_sem,D,ij]
theorem aoI{n:ah}{a b:az}(g:ee (ax n)<=mg)(i:a.aa.length<=mg)(h:b.aa.length<=mg):G 328 (ax n++aU a++aU b)=Z (0,[.bool (AX n a b)]):=by
 have d:=mT g;have f:=VW (n:=n) (x:=a) d i;have e:=VW (n:=n) (x:=b) d h;have j:=anG (a:=(keyOf n a).1) (b:=(keyOf n b).1) (nt d);simp only[af,aN,au,av]at f e;refine ct t328 (by rw[af,aN,aN];rfl) ?_;unfold AX jF;obtain⟨v2,l⟩:∃v,Z' (n.aq=2)=v:=⟨_,rfl⟩
 obtain⟨v4,k⟩:∃v,Z' (n.aq=4)=v:=⟨_,rfl⟩
 generalize (keyOf n a).1=x at *;generalize (keyOf n b).1=y at *;generalize (keyOf n a).2=c at *;generalize (keyOf n b).2=w at *;cases v2<;>cases v4<;>simp only[go_sem,t328,af n,aN,l,k,f,e]
 all_goals cases c<;>cases w<;>simp only[go_sem,j,plb]
theorem agt{n:ah}{l:M az}{x:az}(q:ee (ax n)<=mg)(r:bK aU l<=mg)(p:x.aa.length<=mg) :
  G 329 (ax n++[aE l]++aU x)=Z (0,[E (ij (hX n l x))]):=by
 have t:l.length<=mg:=by simp only[bK]at r;omega
 have w:=mT q;have h:=qP (b:=lB G Cb) l (λi=>(0,[aE l,E l.length,E (i:Int)]++ax n++aU x)) (λy=>Z' (y.aj=n.aj) && (Z' (pV n x y=0) && AX n x y))
  (1,[aE l,E l.length,E l.length,.bool J]++ax n++aU x) (λi y=>(0,[E (i:Int)])) (by
  intro i y f;have d:=bp f;have g:=wj d t;have m:=iI f;have c:=(lV r (bc f)).1;have e:=ags (n:=n) (a:=x) (b:=y) w p c;have k:=aoI (n:=n) (a:=x) (b:=y) q p c;simp only[af,aN,au,av]at e k;generalize pV n x y=o at *;generalize AX n x y=v at *;by_cases c1:y.aj=n.aj
  ·rw[c1]at e k;by_cases s:o=0
   ·subst s;cases v<;>simp only[go_sem,bG,Cb,af n,d,m,aN,e,k,g,c1]
   ·simp only[go_sem,bG,Cb,af n,d,m,aN,e,g,c1,s]
  ·simp only[go_sem,bG,Cb,af n,d,m,aN,g,c1]
  ) (by simp only[go_sem,bG,Cb,af n,aN x,aC])
 rw[n0]at h;simp only[af n,aN x,au,av]at h;refine ct t329 (by rw[af,aN];rfl) ?_;simp only[go_sem,t329,af n,aN x,h];unfold hX;generalize A:ml _ l 0=o;cases o with
 |none=>simp only[go_sem,ij]
 |some j=>
  obtain⟨y,B,_⟩:=du A;simp only[go_sem,B,ij]
end
section
theorem MV:∀{a b c:M UInt8},Op.bytesLess a b=I->Op.bytesLess b c=I->Op.bytesLess a c=I
 |_,[],_,h,_=>by rename_i a c;cases a<;>simp[Op.bytesLess]at h
 |_,_::_,[],_,h=>by simp[Op.bytesLess]at h
 |[],_::_,_::_,_,_=>by simp[Op.bytesLess]
 |x::a,y::b,d::c,f,e=>by
  simp only[Op.bytesLess,da,decide_eq_true_eq,ai,beq_iff_eq]at f e ⊢;rcases f with f|⟨rfl,f⟩
  ·rcases e with e|⟨rfl,e⟩
   ·have a1:x.toNat < y.toNat:=f;have a2:y.toNat < d.toNat:=e;exact .inl (show x.toNat < d.toNat by omega)
   ·exact .inl f
  ·rcases e with e|⟨rfl,e⟩
   ·exact .inl e
   ·exact .inr ⟨rfl,MV f e⟩
theorem Z5{a b c:z}(e:ku a b=I)(d:ku b c=I):ku a c=I:=MV e d
theorem F9(a:M z):gg a []=J:=by cases a<;>simp[gg,AD]
theorem Zp(y:z)(b:M z):gg [] (y::b)=I:=by simp[gg,AD]
theorem Ja(x y:z)(a b:M z):gg (x::a) (y::b)=if x=y then gg a b else ku x y:=by
 unfold gg;rw[AD];by_cases h:x=y
 ·subst h;simp[lsC]
 ·simp[lsC,h]
theorem wL:∀a:M z,gg a a=J
 |[]=>F9 []
 |x::a=>by rw[Ja,if_pos rfl,wL a]
theorem yT:∀{a b c:M z},gg a b=I->gg b c=I->gg a c=I
 |a,[],c,h,_=>by rw[F9]at h;cases h
 |a,y::b,[],_,h=>by rw[F9]at h;cases h
 |[],y::b,d::c,_,_=>Zp d c
 |x::a,y::b,d::c,g,f=>by
  rw[Ja]at g f ⊢;by_cases k:x=y
  ·subst k;rw[if_pos rfl]at g;by_cases i:x=d
   ·rw[if_pos i]at f ⊢;exact yT g f
   ·rw[if_neg i]at f ⊢;exact f
  ·rw[if_neg k]at g;by_cases i:y=d
   ·subst i;rw[if_neg k];exact g
   ·rw[if_neg i]at f;have j:=Z5 g f;have l:¬x=d:=λe=>by rw[e,Rk]at j;cases j
    rw[if_neg l];exact j
theorem Od{a b:M z}(d:gg a b=J)(c:gg b a=J):a=b:=by
 have h:=Ll a b;rw[d,c]at h;exact of_decide_eq_true h.symm
theorem aa2(a b:M z):Z' (0 < cmpL a b)=gg b a:=by
 rw[cR,decide_eq_true_eq]
 constructor
 ·intro h;cases d:gg b a with
  |true=>rfl
  |false=>
   have c:gg a b=J:=by rw[tK];exact decide_eq_false (by omega)
   rw[Od c d,Bp.2 rfl]at h;omega
 ·intro h;have f:¬cmpL a b=0:=λe=>by rw[Bp.1 e,wL]at h;cases h
  have d:¬cmpL a b < 0:=λe=>by
   have c:gg a b=I:=by rw[tK];exact decide_eq_true e
   have:=yT h c;rw[wL]at this;cases this
  omega
def GV(d:M ah)(i:Nat):Bool:=match nth d i with
 |some n=>jF n.aq
 |none=>J
def Fo(d:M ah)(i:Nat)(x:az):M z:=match nth d i with
 |some n=>(keyOf n x).1
 |none=>[]
def kD(d:M ah)(x y:az):Bool:=match dC d x.aj,dC d y.aj with
 |some i,Z k=>if (Z' (i=k) && GV d i)=I then gg (Fo d i x) (Fo d i y) else Z' (i < k)
 |_,_=>J
theorem aaW(d:M ah)(x:az):kD d x x=J:=by
 unfold kD;cases dC d x.aj with
 |none=>rfl
 |some i=>simp[wL]
theorem Bh{d:M ah}{x y a:az}(c:kD d x y=I)(b:kD d y a=I):kD d x a=I:=by
 unfold kD at *;cases l:dC d x.aj with
 |none=>simp[l]at c
 |some i=>
  cases f:dC d y.aj with
  |none=>simp[f]at b
  |some j=>
   cases h:dC d a.aj with
   |none=>simp[f,h]at b
   |some k=>
    simp only[l,f]at c;simp only[f,h]at b;simp only
    by_cases g:i=j
    ·subst g;by_cases e:i=k
     ·subst e;cases m:GV d i<;>simp[m]at c b ⊢
      exact yT c b
     ·simp only[e,decide_false,cP,aF,if_false]at b ⊢;exact b
    ·simp only[g,decide_false,cP,aF,if_false,decide_eq_true_eq]at c;by_cases e:j=k
     ·subst e;simp only[g,decide_false,cP,aF,if_false,decide_eq_true_eq];exact c
     ·simp only[e,decide_false,cP,aF,if_false,decide_eq_true_eq]at b;have n:¬i=k:=by omega
      simp only[n,decide_false,cP,aF,if_false,decide_eq_true_eq];omega
def eqv(d:M ah)(x y:az):Prop:=kD d x y=J/\kD d y x=J
theorem Sf{d:M ah}{x y:az}(h:¬eqv d x y):kD d x y=!kD d y x:=by
 cases b:kD d x y<;>cases a:kD d y x
 ·exact absurd ⟨b,a⟩ h
 ·rfl
 ·rfl
 ·have:=Bh b a;rw[aaW]at this;cases this
theorem abd{d:M ah}{x y:az}{i k:Nat}(b:dC d x.aj=Z i)(a:dC d y.aj=Z k):eqv d x y↔i=k/\(GV d i=I->Fo d i x=Fo d i y):=by
 unfold eqv kD;simp only[b,a];by_cases e:i=k
 ·subst e;cases j:GV d i<;>simp[]
  constructor
  ·rintro⟨f,c⟩;exact Od f c
  ·intro h;rw[h,wL];simp
 ·have g:¬k=i:=λh=>e h.symm;simp only[e,g,decide_false,cP,aF,if_false,decide_eq_false_iff_not,false_and,iff_false];omega
def Srt(d:M ah)(l:M az):Prop:=l.Pairwise λx y=>kD d x y=I
def Okn(nr:ah->az->Bool)(d:M ah)(x:az):Prop:=∃k n,dC d x.aj=Z k/\nth d k=Z n/\nr n x=I
theorem aaV{d:M ah}{p e:az}{a k:Nat}{s:ah}(c:dC d p.aj=Z a)(f:dC d e.aj=Z k)(b:nth d k=Z s):ug (Z (p,a)) s k e=kD d p e:=by
 unfold ug kD;simp only[c,f];by_cases h:a=k
 ·subst h;simp only[GV,Fo,b]
 ·simp only[h,decide_false,cP,aF,if_false]
theorem NF{nr:ah->az->Bool}{d:M ah}:∀{l:M az} {i:Nat} {t:u (az×Nat)},(∀p k,t=Z (p,k)->dC d p.aj=Z k)->
  (HR (iD (mw () nr d) i t l)=I↔(∀x∈l,Okn nr d x)/\Srt d l/\∀p k,t=Z (p,k)->∀x∈l,kD d p x=I)
 |[],i,t,m=>by simp[iD,HR,Srt]
 |e::l,i,t,m=>by
  cases c:dC d e.aj with
  |none=>
   simp only[iD,mw,c,HR,aF,false_iff]
   rintro⟨h,_⟩
   obtain⟨k,n,b,_⟩:=h e bQ;rw[c]at b;cases b
  |some k=>
   cases b:nth d k with
   |none=>
    simp only[iD,mw,c,b,HR,aF,false_iff]
    rintro⟨h,_⟩
    obtain⟨a,n,v,r,_⟩:=h e bQ;rw[c]at v;cases v;rw[b]at r;cases r
   |some s=>
    have o:∀p a,t=Z (p,a)->ug t s k e=kD d p e:=λp a h=>by rw[h];exact aaV (m p a h) c b
    have y:=NF (nr:=nr) (l:=l) (i:=i+1) (t:=Z (e,k)) (d:=d) (λp a h=>by cases h;exact c);simp only[iD,mw,c,b];by_cases f:(nr s e && ug t s k e)=I
    ·rw[if_pos f];simp only
     rw[y];simp only[ai]at f
     constructor
     ·rintro⟨a1,a2,a3⟩
      refine⟨br.2 ⟨⟨k,s,c,b,f.1⟩,a1⟩,fh.2 ⟨a3 e k rfl,a2⟩,λp a h=>?_⟩;have g:kD d p e=I:=by rw[<- o p a h];exact f.2
      exact br.2 ⟨g,λx j=>Bh g (a3 e k rfl x j)⟩
     ·rintro⟨a1,a2,a3⟩
      have a4:=fh.1 a2;exact⟨λx j=>a1 x (bP _ j),a4.2,λp a h=>by cases h;exact a4.1⟩
    ·rw[if_neg f];simp only[HR,aF,false_iff]
     rintro⟨a1,a2,a3⟩
     apply f
     obtain⟨a,n,g,w,A⟩:=a1 e bQ;rw[c]at g;cases g;rw[b]at w;cases w;rw[A,cW];cases t with
     |none=>rfl
     |some q=>
      obtain⟨p,a⟩:=q;rw[o p a rfl];exact a3 p a rfl e bQ
theorem VX{nr:ah->az->Bool}{d:M ah}{l:M az}:nj nr d l=I↔(∀x∈l,Okn nr d x)/\Srt d l:=by
 unfold nj;rw[NF (λp k h=>by cases h)];simp
def ko(d:M ah)(l:M az)(x:az):M az:=match l.dropWhile (kD d · x) with
 |y::b=>if kD d x y=I then l.takeWhile (kD d · x)++x::y::b else l
 |[]=>l.takeWhile (kD d · x)++[x]
def oJ(d:M ah)(l:M az)(x:az):M az:=l.takeWhile (λy=>!kD d x y)++x::l.dropWhile (λy=>!kD d x y)
theorem Pg{a:Type}{p q:a->Bool}:∀{l:M a},(∀x∈l,p x=q x)->l.takeWhile p=l.takeWhile q/\l.dropWhile p=l.dropWhile q
 |[],_=>⟨rfl,rfl⟩
 |y::l,h=>by
  have d:=h y bQ;have b:=Pg (l:=l) λx c=>h x (bP _ c);simp only[kv,List.dropWhile_cons,d];cases q y
  ·simp
  ·simp[b.1,b.2]
theorem put_eq{d:M ah}{l:M az}{x:az}(h:∀y∈l,¬eqv d y x):ko d l x=oJ d l x:=by
 have e:∀y∈l,kD d y x=!kD d x y:=λy c=>Sf (h y c);obtain⟨g,f⟩:=Pg e;unfold ko oJ;rw[g,f];cases hd:l.dropWhile λy=>!kD d x y with
 |nil=>rfl
 |cons y b=>
  have a:(!kD d x y)=J:=by
   have:=List.head?_dropWhile_not (λy=>!kD d x y) l;rw[hd]at this
   simpa using this
  simp only[Bool.not_eq_false']at a;simp only[a,if_true]
theorem aaC{a:Type}{p:a->Bool}:∀{l:M a},∀x∈l.takeWhile p,p x=I
 |[],x,h=>by cases h
 |y::l,x,h=>by
  rw[kv]at h
  split at h
  ·rename_i b;rcases aL.1 h with rfl|h
   ·exact b
   ·exact aaC x h
  ·cases h
theorem acG{d:M ah}{l:M az}{x:az}(j:Srt d l)(h:∀y∈l,¬eqv d y x):Srt d (oJ d l x):=by
 have e:l.takeWhile (λy=>!kD d x y)++l.dropWhile (λy=>!kD d x y)=l:=kh;have f:=j;unfold Srt at f ⊢;rw[<- e,List.pairwise_append]at f;unfold oJ;rw[List.pairwise_append];refine⟨f.1,fh.2 ⟨?_,f.2.1⟩,?_⟩
 ·intro y c;cases hd:l.dropWhile λy=>!kD d x y with
  |nil=>rw[hd]at c;cases c
  |cons a b=>
   have i:(!kD d x a)=J:=by
    have:=List.head?_dropWhile_not (λy=>!kD d x y) l;rw[hd]at this
    simpa using this
   simp only[Bool.not_eq_false']at i;rw[hd]at c f;rcases aL.1 c with rfl|c
   ·exact i
   ·exact Bh i ((fh.1 f.2.1).1 y c)
 ·intro y c a g;have k:kD d y x=I:=by
   have:=aaC y c;rw[<- Sf (h y ((yf _).subset c))]at this;exact this
  rcases aL.1 g with rfl|g
  ·exact k
  ·exact f.2.2 y c a g
theorem acF{d:M ah}{l:M az}{x y:az}:y∈oJ d l x↔y=x\/y∈l:=by
 have e:l.takeWhile (λy=>!kD d x y)++l.dropWhile (λy=>!kD d x y)=l:=kh;unfold oJ;rw[<- e,ba,aL,ba,e]
 constructor
 ·rintro (h|h|h)
  ·exact .inr (.inl h)
  ·exact .inl h
  ·exact .inr (.inr h)
 ·rintro (h|h|h)
  ·exact .inr (.inl h)
  ·exact .inl h
  ·exact .inr (.inr h)
end
section
structure ck where
 op:Int
 aj:ByteArray
 aS:ByteArray
 aa:List ck
def kU:z:=⟨#[]⟩
def dQ(s:M ah)(a:z):u ah:=match dC (dk s) a with
 |some k=>nth (dk s) k
 |none=>O
def oF(s:M ah)(a:z):gK:=match dC s a with
 |some k=>(match nth s k with
  |some n=>n.type
  |none=>Dy.type)
 |none=>Dy.type
def vu(l:M az):u Nat->M az
 |some k=>l.eraseIdx k
 |none=>l
def Be(names:M z)(l:M az):M az:=l.filter λx=>!nS names x.aj
section
variable (can:gK->z->u z) (oN:M ah->z->M z)
def I0(s:M ah)(es:M ck)(a:z):u z:=match es.filter λc=>Z' (c.aj=a) with
 |[c]=>if (Z' (c.op=4) ||decide (c.op=5))=I then O else can (oF s a) c.aS
 |_=>O
def mM(s:M ah)(es:M ck):M z->u (M z)
 |[]=>Z []
 |k::a=>match I0 can s es k with
  |none=>O
  |some v=>(mM s es a).map (v::·)
def vt(n:ah)(e:ck):Int ⊕ (z×M z):=
 let row:=Z' (n.aq=3) ||decide (n.aq=4)
 if ((!row && !Z' (e.aS=kU)) ||(row && !e.aa.isEmpty))=I then .inl 2
 else if (!fO 1 5 e.op)=I then .inl 3
 else match (if (Z' (n.aq=4) ||(Z' (n.aq=3) && Z' (e.op < 4)))=I then can n.type e.aS else Z kU) with
  |none=>.inl 7
  |some v=>if n.aq=2 then (match mM can n.aa e.aa n.a_ with
   |none=>.inl 4
   |some a=>.inr (kU,a)) else .inr (v,[])
section
variable (mk:M ah->M az->M ck->Int ⊕ M az) (pt:M ah->M az->az->M az)
def sv(s:M ah)(n:ah)(l:M az)(e:ck)(v:z):Int ⊕ M az:=
 if n.aq=1\/n.aq=2 then (match mk n.aa [] e.aa with
  | .inl c=>.inl c
  | .inr a=>if n.aq=1/\n.df=J/\a=[] then .inr l else .inr (pt (dk s) (Be (oN s n.aj) l) ⟨n.aj,v,a⟩))
 else .inr (pt (dk s) (Be (oN s n.aj) l) ⟨n.aj,v,[]⟩)
def Cj(n:ah)(l:M az)(e:ck)(v:z)(j:Nat)(y:az)(new:az):Int ⊕ M az:=
 if n.aq=1\/n.aq=2 then (match mk n.aa y.aa e.aa with
  | .inl c=>.inl c
  | .inr a=>if n.aq=1/\n.df=J/\a=[] then .inr (l.eraseIdx j) else .inr (l.set j ⟨new.aj,new.aS,a⟩))
 else .inr (l.set j new)
def vx(ix:ah->M az->z->M z->u Nat)(a:ah->az->z->az)(s:M ah)(l:M az)(e:ck):Int ⊕ M az:=match dQ s e.aj with
 |none=>.inl 2
 |some n=>match vt can n e with
  | .inl c=>.inl c
  | .inr (v,key)=>
   let k:=ix n l v key
   if e.op=3/\k.isSome=I then .inl 5
   else if e.op=4/\k=O then .inl 6
   else if e.op=4\/e.op=5 then .inr (vu l k)
   else if e.op=2 then sv oN mk pt s n (vu l k) e v
   else match k with
    |none=>sv oN mk pt s n l e v
    |some j=>match nth l j with
     |none=>.inr l
     |some y=>Cj mk n l e v j y (a n y v)
end
def AA(n:ah)(v:z)(a:M z):az:=⟨n.aj,v,(n.a_.zip a).map λp=>⟨p.1,p.2,[]⟩⟩
def xQ(one:M ah->M az->ck->Int ⊕ M az)(s:M ah):M az->M ck->Int ⊕ M az
 |l,[]=>.inr l
 |l,e::es=>match one s l e with
  | .inl c=>.inl c
  | .inr a=>xQ one s a es
def kt:Nat->M ah->M az->M ck->Int ⊕ M az
 |0,_,_,_=>.inl 0
 |m+1,s,l,es=>xQ (vx can oN (kt m) ko yM λn y v=>⟨n.aj,v,y.aa⟩) s l es
def yq:Nat->M ah->M az->M ck->Int ⊕ M az
 |0,_,_,_=>.inl 0
 |m+1,s,l,es=>xQ (vx can oN (yq m) oJ (λn l v a=>hX n l (AA n v a)) λn y v=>if n.aq=3 then ⟨y.aj,v,y.aa⟩ else y) s l es
end
def Wl:Nat->M ah->M az->Prop
 |0,_,_=>True
 |m+1,s,l=>(∀x∈l,∃k n,dC (dk s) x.aj=Z k/\nth (dk s) k=Z n/\((n.aq=1\/n.aq=2)->x.aS=kU/\Wl m n.aa x.aa)/\(n.aq=2->(keyOf n x).2=I))/\Srt (dk s) l
def yh(c:M ah->z->M z)(s:M ah)(a:z):Prop:=∃n,dQ s a=Z n/\n.aq=3/\oF s a=n.type/\∀b,b≠a->a∉c s b
def Hs(a:M ah->z->M z):Nat->M ah->Prop
 |0,_=>True
 |m+1,s=>∀n∈dk s,(n.aq=2->n.a_.Nodup/\∀k∈n.a_,yh a n.aa k)/\((n.aq=1\/n.aq=2)->Hs a m n.aa)
theorem jh(x:az)(l:M az)(a:z):eZ (x::l) a=if x.aj=a then Z x.aS else eZ l a:=by
 unfold eZ r9;by_cases h:x.aj=a
 ·simp[ml,h,nth]
 ·have d:ml (λe=>Z' (e.aj=a)) (x::l) 0=ml (λe=>Z' (e.aj=a)) l 1:=by simp[ml,h]
  rw[d,if_neg h];have c:∀(l:M az) (k:Nat),ml (λe=>Z' (e.aj=a)) l (k+1)=(ml (λe=>Z' (e.aj=a)) l k).map (·+1):=by
   intro l
   induction l with
   |nil=>intro k;rfl
   |cons y l b=>
    intro k;simp only[ml];split
    ·rfl
    ·exact b (k+1)
  rw[c l 0];cases ml (λe=>Z' (e.aj=a)) l 0 with
  |none=>rfl
  |some j=>rfl
theorem LJ{c:z}:∀(a b:M az),eZ (a++b) c=(eZ a c).or (eZ b c)
 |[],b=>by simp[eZ,r9,ml]
 |x::a,b=>by
  rw[au,jh,jh,LJ a b]
  split<;>rfl
theorem TR{a:z}:∀{l:M az},eZ l a=O↔∀x∈l,x.aj≠a
 |[]=>by simp[eZ,r9,ml]
 |x::l=>by
  rw[jh,br];by_cases h:x.aj=a
  ·simp[h]
  ·simp[h,TR (l:=l)]
theorem Jh{b:z}{p:az->Bool}:∀{l:M az},(∀x∈l,x.aj=b->p x=I)->eZ (l.filter p) b=eZ l b
 |[],_=>rfl
 |x::l,h=>by
  have c:=Jh (l:=l) λy d=>h y (bP _ d);rw[jh,gZ];by_cases a:x.aj=b
  ·rw[if_pos (h x bQ a),jh,if_pos a,if_pos a]
  ·rw[if_neg a];split
   ·rw[jh,if_neg a,c]
   ·exact c
theorem Gz{a:z}:∀{l:M az} {j:Nat} {y:az},nth l j=Z y->y.aj≠a->eZ (l.eraseIdx j) a=eZ l a
 |x::l,0,y,h,b=>by
  cases h;rw[List.eraseIdx_cons_zero,jh,if_neg b]
 |x::l,j+1,y,h,b=>by
  rw[List.eraseIdx_cons_succ,jh,jh,Gz (l:=l) h b]
theorem Zs{b:z}{a:az}:∀{l:M az} {j:Nat} {y:az},nth l j=Z y->y.aj≠b->a.aj≠b->eZ (l.set j a) b=eZ l b
 |x::l,0,y,h,d,c=>by
  cases h;rw[jz,jh,jh,if_neg d,if_neg c]
 |x::l,j+1,y,h,d,c=>by
  rw[lr,jh,jh,Zs (l:=l) h d c]
theorem afq{a:z}{d:M ah}{l:M az}{x:az}(h:x.aj≠a):eZ (oJ d l x) a=eZ l a:=by
 have e:l.takeWhile (λy=>!kD d x y)++l.dropWhile (λy=>!kD d x y)=l:=kh;unfold oJ;rw[LJ,jh,if_neg h,<- LJ,e]
theorem aci{d:M ah}{l:M az}{x:az}(h:∀y∈l,y.aj≠x.aj):eZ (oJ d l x) x.aj=Z x.aS:=by
 unfold oJ;rw[LJ,jh,if_pos rfl,TR.2 λy a=>h y ((yf _).subset a)];rfl
theorem Kw{l:M az}:∀{ks vs t:M z},ks.length=vs.length->(∀p∈ks.zip vs,eZ l p.1=Z p.2)->sL l t ks=(t++vs,I)
 |[],[],t,_,_=>by simp[sL]
 |k::ks,v::vs,t,h,a=>by
  rw[List.zip_cons_cons,br]at a;simp only[sL,a.1];rw[Kw (ks:=ks) (vs:=vs) (by simpa using h) a.2,bB];rfl
end
section
theorem dy{s:M ah}{a:z}{n:ah}(h:dQ s a=Z n):∃k,dC (dk s) a=Z k/\nth (dk s) k=Z n/\n.aj=a/\n∈dk s:=by
 unfold dQ at h
 split at h
 ·rename_i k b;obtain⟨e,c,d⟩:=du b;rw[h]at c;cases c;exact⟨k,b,h,by simpa using d,bc h⟩
 ·cases h
theorem Ye{a:Type}{p:a->Bool}{l:M a}{k:Nat}(h:ml p l k=O){x:a}(d:x∈l):p x=J:=by
 have c:=wh (p:=p) (l:=l) (k:=k);rw[h]at c;have b:l.any p=J:=c.symm;rw[List.any_eq_false]at b
 simpa using b x d
section
variable {can:gK->z->u z} {oN:M ah->z->M z}
theorem wB{s:M ah}{es:M ck}:∀{b a:M z},mM can s es b=Z a->b.length=a.length/\∀p∈b.zip a,I0 can s es p.1=Z p.2
 |[],a,h=>by cases h;simp
 |k::b,a,h=>by
  unfold mM at h
  split at h
  ·cases h
  ·rename_i v c;rw[ak]at h;obtain⟨e,d,rfl⟩:=h;obtain⟨a1,a2⟩:=wB d;refine⟨by simp[a1],?_⟩;rw[List.zip_cons_cons,br];exact⟨c,a2⟩
theorem zQ{n:ah}{e:ck}{v:z}{a:M z}(h:vt can n e=.inr (v,a)) :
  fO 1 5 e.op=I/\(n.aq=2->v=kU/\mM can n.aa e.aa n.a_=Z a)/\(n.aq=1->v=kU)/\(n.aq=3->e.op < 4->can n.type e.aS=Z v):=by
 unfold vt at h;simp only at h
 split at h
 ·cases h
 ·split at h
  ·cases h
  ·rename_i d
   split at h
   ·cases h
   ·rename_i w c;refine⟨by simpa using d,?_,?_,?_⟩
    ·intro b;rw[if_pos b]at h
     split at h
     ·cases h
     ·rename_i k f;cases h;exact⟨rfl,f⟩
    ·intro j;have b:¬n.aq=2:=by omega
     rw[if_neg b]at h;cases h;simp[j]at c;exact c.symm
    ·intro i g;have b:¬n.aq=2:=by omega
     rw[if_neg b]at h;cases h
     simpa [i,g] using c
end
def sG(n:ah)(v:z)(a:M z)(y:az):Bool:=Z' (y.aj=n.aj) && (!(Z' (n.aq=4) && !Z' (y.aS=v)) && (!Z' (n.aq=2) ||(!gg (keyOf n y).1 a && !gg a (keyOf n y).1)))
theorem Aq{n:ah}{v:z}{a:M z}{y:az}:sG n v a y=I↔y.aj=n.aj/\(n.aq=4->y.aS=v)/\(n.aq=2->(keyOf n y).1=a):=by
 unfold sG;rw[Ll];by_cases b:n.aq=4
 ·simp[b]
 ·by_cases c:n.aq=2<;>simp[b,c]
section
variable {d:M ah} {n:ah} {k:Nat} (hk:dC d n.aj=Z k) (hn:nth d k=Z n)
include hk hn
theorem xz(x:az):Fo d k x=(keyOf n x).1/\GV d k=jF n.aq:=by simp[Fo,GV,hn]
theorem S5{v:z}{a:M z}{x y:az}(l:x.aj=n.aj)(g:n.aq=4->x.aS=v)(j:n.aq=2->(keyOf n x).1=a){i:Nat}(b:dC d y.aj=Z i):eqv d y x↔sG n v a y=I:=by
 rw[abd b (by rw[l];exact hk),Aq]
 constructor
 ·rintro⟨rfl,h⟩
  obtain⟨e,a1,a2⟩:=du b;rw[hn]at a1;cases a1;have f:y.aj=n.aj:=by simpa using (of_decide_eq_true a2).symm
  rw[(xz hk hn y).1,(xz hk hn x).1,(xz hk hn x).2]at h;refine⟨f,λe=>?_,λe=>?_⟩
  ·have:=h (by simp[jF,e]);have c:¬n.aq=2:=by omega
   simp only[keyOf,if_neg c,cl,and_true]at this;rw[this,g e]
  ·rw[h (by simp[jF,e]),j e]
 ·rintro⟨f,a4,a2⟩
  rw[f,hk]at b;cases b;refine⟨rfl,λh=>?_⟩;rw[(xz hk hn y).2]at h;rw[(xz hk hn y).1,(xz hk hn x).1];simp only[jF,da,decide_eq_true_eq]at h;rcases h with h|h
  ·rw[a2 h,j h]
  ·have c:¬n.aq=2:=by omega
   simp only[keyOf,if_neg c,a4 h,g h]
end
theorem OX{d:M ah}:∀{l:M az} {j:Nat} {b y:az},Srt d l->nth l j=Z b->y∈l.eraseIdx j->¬eqv d y b
 |a::l,0,b,y,f,e,c=>by
  cases e;rw[List.eraseIdx_cons_zero]at c;intro g;have:=(fh.1 f).1 y c;rw[g.2]at this;cases this
 |a::l,j+1,b,y,f,e,c=>by
  rw[List.eraseIdx_cons_succ]at c;rcases aL.1 c with rfl|c
  ·intro g;have:=(fh.1 f).1 b (bc (l:=l) e);rw[g.1]at this;cases this
  ·exact OX (l:=l) (fh.1 f).2 e c
theorem Uv{d:M ah}{x a:az}(f:x.aj=a.aj)(g:∀i,dC d x.aj=Z i->GV d i=I->Fo d i x=Fo d i a)(y:az):kD d x y=kD d a y/\kD d y x=kD d y a:=by
 unfold kD;rw[<- f];cases b:dC d x.aj with
 |none=>exact⟨rfl,by cases dC d y.aj<;>rfl⟩
 |some i=>
  cases l:dC d y.aj with
  |none=>exact⟨rfl,rfl⟩
  |some j=>
   simp only
   by_cases e:i=j
   ·subst e;cases c:GV d i
    ·simp
    ·simp[g i b c]
   ·have k:¬j=i:=λh=>e h.symm;simp[e,k]
theorem Ud{d:M ah}{x:az}:∀{l:M az} {j:Nat} {y:az},Srt d l->nth l j=Z y->(∀w,kD d x w=kD d y w/\kD d w x=kD d w y)->Srt d (l.set j x)
 |a::l,0,y,f,c,e=>by
  cases c;have h:=fh.1 f;exact fh.2 ⟨λw b=>by rw[(e w).1];exact h.1 w b,h.2⟩
 |a::l,j+1,y,f,c,e=>by
  have h:=fh.1 f;refine fh.2 ⟨λw b=>?_,Ud (l:=l) h.2 c e⟩;rcases gL b with b|rfl
  ·exact h.1 w b
  ·rw[(e a).2];exact h.1 y (bc (l:=l) c)
theorem PN:∀(m:Nat) (s:M ah),Wl m s []
 |0,_=>trivial
 |m+1,s=>⟨λx h=>(ei h).elim,List.Pairwise.nil⟩
theorem PQ{m:Nat}{s:M ah}{l a:M az}(h:Wl (m+1) s l)(b:a.Sublist l):Wl (m+1) s a:=⟨λx c=>h.1 x (b.subset c),h.2.sublist b⟩
theorem Y1{n:ah}(v:z){a:M z}(j:n.aq=2)(hd:n.a_.Nodup)(f:n.a_.length=a.length):keyOf n (AA n v a)=(a,I):=by
 have h:∀(d c:M z),d.Nodup->d.length=c.length->∀p∈d.zip c,eZ ((d.zip c).map λp=>(⟨p.1,p.2,[]⟩:az)) p.1=Z p.2:=by
  intro d
  induction d with
  |nil=>intro c _ _ p b;simp at b
  |cons k d i=>
   intro c g f p b;cases c with
   |nil=>simp at f
   |cons v c=>
    rw[List.zip_cons_cons]at b ⊢;rw[aW,jh];rw[cC]at g;rcases aL.1 b with rfl|b
    ·simp
    ·have:¬k=p.1:=λe=>g.1 (by rw[e];exact (List.of_mem_zip b).1);simp only[this,if_false];exact i c g.2 (by simpa using f) p b
 have m:=Kw (l:=(AA n v a).aa) (t:=[]) f (λp b=>h n.a_ a hd f p b);simp only[keyOf,if_pos j,m,av,if_true]
theorem QP{n:ah}{c v:z}{b:M az}{a:M z}(e:n.aq=2)(d:n.a_.length=a.length)(h:∀p∈n.a_.zip a,eZ b p.1=Z p.2):keyOf n ⟨c,v,b⟩=(a,I):=by
 have f:=Kw (l:=b) (t:=[]) d h;simp only[keyOf,if_pos e,f,av,if_true]
end
section
theorem TS{x:az}:∀{l:M az} {j:Nat} {y:az},nth l j=Z y->(∀i b,i < j->nth l i=Z b->b.aj≠x.aj)->eZ (l.set j x) x.aj=Z x.aS
 |a::l,0,y,h,_=>by rw[jz,jh,if_pos rfl]
 |a::l,j+1,y,h,c=>by
  rw[lr,jh,if_neg (c 0 a (Nat.succ_pos j) rfl)];exact TS (l:=l) h λi b e d=>c (i+1) b (Nat.succ_lt_succ e) d
section
variable {can:gK->z->u z} {oN:M ah->z->M z} {m:Nat}
def Hm(can:gK->z->u z)(oN:M ah->z->M z)(m:Nat):Prop:=∀s l es,Hs oN m s->Wl m s l->yq can oN m s l es=kt can oN m s l es/\
 ∀b,kt can oN m s l es=.inr b->Wl m s b/\∀a v,yh oN s a->I0 can s es a=Z v->eZ b a=Z v
variable (hm:Hm can oN m) {s:M ah} (hs:Hs oN (m+1) s) {e:ck} {n:ah} (ju:dQ s e.aj=Z n) {v:z} {key:M z} (hc:vt can n e=.inr (v,key))
include hm hs ju hc
theorem Oj{b c:M az}(a:n.aq=2)(g:Wl m n.aa b)(i:kt can oN m n.aa b e.aa=.inr c)(f:z):keyOf n ⟨f,v,c⟩=(key,I):=by
 obtain⟨k,a1,a2,a3,a4⟩:=dy ju;obtain⟨y,r,x,w⟩:=zQ hc;obtain⟨c1,q⟩:=wB (r a).2;obtain⟨o,l⟩:=hs n a4;obtain⟨t,j⟩:=o a;have h:=(hm n.aa b e.aa (l (.inr a)) g).2 c i;exact QP a c1 λp d=>h.2 p.1 p.2 (j p.1 (List.of_mem_zip d).1) (q p d)
theorem acf{l:M az}(c:Wl (m+1) s l)(d:∀y∈l,sG n v key y=J){ks:M az}(f:n.aq=2->(keyOf n ⟨n.aj,v,ks⟩).1=key):∀y∈l,¬eqv (dk s) y ⟨n.aj,v,ks⟩:=by
 obtain⟨k,a1,a2,a3,a4⟩:=dy ju;rw[<- a3]at a1;intro y a b;obtain⟨i,g,c1,_⟩:=c.1 y a;rw[S5 a1 a2 rfl (λ_=>rfl) f c1,d y a]at b;cases b
theorem ZJ{l:M az}(c:Wl (m+1) s l)(d:∀y∈l,sG n v key y=J){ks:M az}(i:n.aq=1\/n.aq=2->Wl m n.aa ks)(f:n.aq=2->keyOf n ⟨n.aj,v,ks⟩=(key,I)) :
  ko (dk s) l ⟨n.aj,v,ks⟩=oJ (dk s) l ⟨n.aj,v,ks⟩/\Wl (m+1) s (oJ (dk s) l ⟨n.aj,v,ks⟩)/\(∀a,e.aj≠a->eZ (oJ (dk s) l ⟨n.aj,v,ks⟩) a=eZ l a)/\(n.aq=3->eZ (oJ (dk s) l ⟨n.aj,v,ks⟩) n.aj=Z v):=by
 obtain⟨k,a1,a2,a3,a4⟩:=dy ju;obtain⟨A,r,q,w⟩:=zQ hc;have g:=acf hm hs ju hc c d (ks:=ks) (λh=>by rw[f h]);refine⟨put_eq g,⟨λx b=>?_,acG c.2 g⟩,λa h=>afq (by simpa [a3] using h),λt=>?_⟩
 ·rw[acF]at b;rcases b with rfl|b
  ·refine⟨k,n,by rw[a3];exact a1,a2,λh=>⟨?_,i h⟩,λh=>by rw[f h]⟩;rcases h with h|h
   ·exact q h
   ·exact (r h).1
  ·exact c.1 x b
 ·refine aci (x:=⟨n.aj,v,ks⟩) λy j o=>?_;have:=d y j;have p:sG n v key y=I:=Aq.2 ⟨o,λh=>by omega,λh=>by omega⟩;rw[p]at this;cases this
theorem WR{l:M az}(B:Wl (m+1) s l)(H:∀y∈l,sG n v key y=J) :
  sv oN (yq can oN m) oJ s n l e v=sv oN (kt can oN m) ko s n l e v/\∀b,sv oN (kt can oN m) ko s n l e v=.inr b->Wl (m+1) s b/\(∀a,yh oN s a->e.aj≠a->eZ b a=eZ l a)/\(n.aq=3->eZ b n.aj=Z v):=by
 obtain⟨k,a1,a2,a3,a4⟩:=dy ju;have A:Wl (m+1) s (Be (oN s n.aj) l):=PQ B rF;have g:∀y∈Be (oN s n.aj) l,sG n v key y=J:=λy F=>H y (nE.1 F).1;have D:∀a,yh oN s a->e.aj≠a->eZ (Be (oN s n.aj) l) a=eZ l a:=by
  rintro a ⟨P,_,_,_,h⟩ f
  refine Jh λx _ G=>?_;rw[G,cq,SV];exact h n.aj (by rw[a3];exact f)
 unfold sv;by_cases d:n.aq=1\/n.aq=2
 ·rw[if_pos d,if_pos d];have r:=(hs n a4).2 d;obtain⟨N,L⟩:=hm n.aa [] e.aa r (PN m n.aa);rw[N];cases C:kt can oN m n.aa [] e.aa with
  |inl c=>exact⟨rfl,λb h=>by cases h⟩
  |inr ks=>
   have K:=L ks C;by_cases i:n.aq=1/\n.df=J/\ks=[]
   ·simp only
    rw[if_pos i,if_pos i];refine⟨rfl,λb h=>?_⟩;cases h;exact⟨B,λ_ _ _=>rfl,λh=>by omega⟩
   ·simp only
    rw[if_neg i,if_neg i];obtain⟨q,p,o,j⟩:=ZJ hm hs ju hc A g (ks:=ks) (λ_=>K.1) (λw=>Oj hm hs ju hc w (PN m n.aa) C n.aj);rw[q];refine⟨rfl,λb h=>?_⟩;cases h;exact⟨p,λa t f=>by rw[o a f,D a t f],j⟩
 ·rw[if_neg d,if_neg d];obtain⟨q,p,o,j⟩:=ZJ hm hs ju hc A g (ks:=[]) (λh=>absurd h d) (λw=>absurd (Or.inr w) d);rw[q];refine⟨rfl,λb h=>?_⟩;cases h;exact⟨p,λa t f=>by rw[o a f,D a t f],j⟩
theorem YM{l:M az}(g:Wl (m+1) s l):hX n l (AA n v key)=ml (sG n v key) l 0:=by
 obtain⟨k,a1,a2,a3,a4⟩:=dy ju;obtain⟨r,j,q,p⟩:=zQ hc;have c:n.aq=2->keyOf n (AA n v key)=(key,I):=λa=>Y1 v a ((hs n a4).1 a).1 (wB (j a).2).1;have b:∀y∈l,y.aj=n.aj->n.aq=2->(keyOf n y).2=I:=by
  intro y b f a;obtain⟨i,o,c1,d,_,h⟩:=g.1 y b;rw[f,a3,a1]at c1;cases c1;rw[a2]at d;cases d;exact h a
 rw[<- idx_eq (λa=>by rw[c a]) b];refine BD λy _=>?_;by_cases a:n.aq=2
 ·rw[c a];rfl
 ·unfold sG;simp only[a,decide_false,ga,mQ];rfl
theorem aa4{l:M az}(f:Wl (m+1) s l):Wl (m+1) s (vu l (ml (sG n v key) l 0))/\(∀y∈vu l (ml (sG n v key) l 0),sG n v key y=J)/\(∀b,e.aj≠b->eZ (vu l (ml (sG n v key) l 0)) b=eZ l b):=by
 obtain⟨k,a1,a2,a3,a4⟩:=dy ju;rw[<- a3]at a1;cases h:ml (sG n v key) l 0 with
 |none=>exact⟨f,λy d=>Ye h d,λ_ _=>rfl⟩
 |some j=>
  obtain⟨a,o,p⟩:=du h;have c:=Aq.1 p;refine⟨PQ f (fC _ _),λy d=>?_,λb q=>Gz o (by rw[c.1,a3];exact q)⟩;have g:=OX f.2 o d;obtain⟨i,r,c1,_⟩:=f.1 y ((fC _ _).subset d);rw[S5 a1 a2 c.1 c.2.1 c.2.2 c1]at g
  simpa using g
theorem afk{l:M az}(B:Wl (m+1) s l){j:Nat}{a:az}(Q:ml (sG n v key) l 0=Z j)(t:nth l j=Z a) :
  Cj (yq can oN m) n l e v j a (if n.aq=3 then ⟨a.aj,v,a.aa⟩ else a)=Cj (kt can oN m) n l e v j a ⟨n.aj,v,a.aa⟩/\
  ∀o,Cj (kt can oN m) n l e v j a ⟨n.aj,v,a.aa⟩=.inr o->Wl (m+1) s o/\(∀g,e.aj≠g->eZ o g=eZ l g)/\(n.aq=3->eZ o n.aj=Z v):=by
 obtain⟨k,a1,a2,a3,a4⟩:=dy ju;obtain⟨b1,b2,b3,b4⟩:=zQ hc;obtain⟨z',V,r⟩:=du Q;rw[t]at V;cases V;have f:=Aq.1 r;obtain⟨i,n',c1,T,c3,c4⟩:=B.1 a (bc t);rw[f.1,a3,a1]at c1;cases c1;rw[a2]at T;cases T;have L:n.aq=1\/n.aq=2->v=kU:=λh=>by rcases h with h|h;exact b3 h;exact (b2 h).1
 have K:∀b,(n.aq=1\/n.aq=2->Wl m n.aa b)->(n.aq=2->keyOf n ⟨n.aj,v,b⟩=(key,I))->Wl (m+1) s (l.set j ⟨n.aj,v,b⟩):=by
  intro b W r;refine⟨λx F=>?_,?_⟩
  ·rcases gL F with F|rfl
   ·exact B.1 x F
   ·exact⟨k,n,by rw[a3];exact a1,a2,λh=>⟨L h,W h⟩,λh=>by rw[r h]⟩
  ·refine Ud B.2 t λw=>Uv f.1.symm (λi P p=>?_) w;have H:dC (dk s) e.aj=Z i:=by rw[<- a3];exact P
   rw[a1]at H;cases H;simp only[Fo,GV,a2]at p ⊢;simp only[jF,da,decide_eq_true_eq]at p;rcases p with p|p
   ·rw[r p,f.2.2 p]
   ·have e2:¬n.aq=2:=by omega
    simp only[keyOf,if_neg e2,f.2.1 p]
 have U:∀b g,e.aj≠g->eZ (l.set j ⟨n.aj,v,b⟩) g=eZ l g:=λb g D=>Zs t (by rw[f.1,a3];exact D) (by rw[a3];exact D);unfold Cj;by_cases d:n.aq=1\/n.aq=2
 ·have q:¬n.aq=3:=by omega
  rw[if_pos d,if_pos d,if_neg q];have G:=(hs n a4).2 d;obtain⟨c5,S⟩:=c3 d;obtain⟨g1,g2⟩:=hm n.aa a.aa e.aa G S;rw[g1];cases N:kt can oN m n.aa a.aa e.aa with
  |inl c=>exact⟨rfl,λo h=>by cases h⟩
  |inr b=>
   have g3:=g2 b N;by_cases C:n.aq=1/\n.df=J/\b=[]
   ·simp only
    rw[if_pos C,if_pos C];refine⟨rfl,λo h=>?_⟩;cases h;exact⟨PQ B (fC _ _),λg D=>Gz t (by rw[f.1,a3];exact D),λh=>absurd h q⟩
   ·simp only
    rw[if_neg C,if_neg C,f.1,c5,<- L d];refine⟨rfl,λo h=>?_⟩;cases h;exact⟨K b (λ_=>g3.1) λr=>Oj hm hs ju hc r S N n.aj,U b,λh=>absurd h q⟩
 ·rw[if_neg d,if_neg d];have e1:(if n.aq=3 then (⟨a.aj,v,a.aa⟩:az) else a)=⟨n.aj,v,a.aa⟩:=by
   by_cases q:n.aq=3
   ·rw[if_pos q,f.1]
   ·rw[if_neg q];have h4:n.aq=4:=by
     rcases zZ (zX _ s (aP _) n a4) with h|h|h|h
     ·exact absurd (.inl h) d
     ·exact absurd (.inr h) d
     ·exact absurd h q
     ·exact h
    have A:=f.2.1 h4;have R:=f.1;cases a;simp only at A R
    rw[<- R,<- A]
  rw[e1];refine⟨rfl,λo h=>?_⟩;cases h;refine⟨K a.aa (λh=>absurd h d) (λh=>absurd (Or.inr h) d),U a.aa,λq=>?_⟩;refine TS (x:=⟨n.aj,v,a.aa⟩) t λi y P X Y=>?_;have A:=yH Q i y (by omega) X;rw[Aq.2 ⟨Y,λh=>by omega,λh=>by omega⟩]at A;cases A
end
end
section
section
variable {can:gK->z->u z} {oN:M ah->z->M z} {m:Nat}
abbrev yX(can:gK->z->u z)(oN:M ah->z->M z)(m:Nat):=vx can oN (kt can oN m) ko yM λn y v=>(⟨n.aj,v,y.aa⟩:az)
abbrev Q6(can:gK->z->u z)(oN:M ah->z->M z)(m:Nat):=vx can oN (yq can oN m) oJ (λn l v a=>hX n l (AA n v a)) λn y v=>if n.aq=3 then (⟨y.aj,v,y.aa⟩:az) else y
def O1(can:gK->z->u z)(oN:M ah->z->M z)(m:Nat)(s:M ah)(l:M az)(e:ck)(b:M az):Prop:=
 Wl (m+1) s b/\(∀a,yh oN s a->e.aj≠a->eZ b a=eZ l a)/\∀a v,yh oN s a->e.aj=a->e.op≠4->e.op≠5->can (oF s a) e.aS=Z v->eZ b a=Z v
variable (hm:Hm can oN m) {s:M ah} (hs:Hs oN (m+1) s)
include hm hs
theorem Q7{l:M az}(F:Wl (m+1) s l)(e:ck):Q6 can oN m s l e=yX can oN m s l e/\∀b,yX can oN m s l e=.inr b->O1 can oN m s l e b:=by
 unfold Q6 yX vx;cases i:dQ s e.aj with
 |none=>exact⟨rfl,λb h=>by cases h⟩
 |some n=>
  dsimp only;cases o:vt can n e with
  |inl c=>exact⟨rfl,λb h=>by cases h⟩
  |inr p=>
   obtain⟨v,d⟩:=p;obtain⟨k,a1,a2,a3,a4⟩:=dy i;obtain⟨b1,b2,b3,Y⟩:=zQ o;have U:hX n l (AA n v d)=ml (sG n v d) l 0:=YM hm hs i o F;have Wr:yM n l v d=ml (sG n v d) l 0:=rfl;dsimp only;rw[U,Wr];obtain⟨c1,X,P⟩:=aa4 hm hs i o F;have hB:∀b,(n.aq=3->eZ b n.aj=Z v)->∀f w,yh oN s f->e.aj=f->e.op≠4->e.op≠5->can (oF s f) e.aS=Z w->eZ b f=Z w:=by
    rintro b h f w ⟨n',K,H,Q,_⟩ rfl W V L
    rw[i]at K;cases K;simp only[fO,ai,decide_eq_true_eq]at b1;have S:=Y H (by omega);rw[Q,S]at L;cases L;rw[<- a3];exact h H
   by_cases C:e.op=3/\(ml (sG n v d) l 0).isSome=I
   ·rw[if_pos C,if_pos C];exact⟨rfl,λb h=>by cases h⟩
   rw[if_neg C,if_neg C];by_cases B:e.op=4/\ml (sG n v d) l 0=O
   ·rw[if_pos B,if_pos B];exact⟨rfl,λb h=>by cases h⟩
   rw[if_neg B,if_neg B];by_cases g:e.op=4\/e.op=5
   ·rw[if_pos g,if_pos g];refine⟨rfl,λb h=>?_⟩;cases h;exact⟨c1,λf _ h=>P f h,λf w _ _ W V=>by omega⟩
   rw[if_neg g,if_neg g];by_cases D:e.op=2
   ·rw[if_pos D,if_pos D];obtain⟨A,x⟩:=WR hm hs i o c1 X;refine⟨A,λb h=>?_⟩;obtain⟨t,r,q⟩:=x b h;exact⟨t,λf T h=>by rw[r f T h,P f h],hB b q⟩
   rw[if_neg D,if_neg D];cases G:ml (sG n v d) l 0 with
   |none=>
    obtain⟨A,x⟩:=WR hm hs i o F λy R=>Ye G R;refine⟨A,λb h=>?_⟩;obtain⟨t,r,q⟩:=x b h;exact⟨t,r,hB b q⟩
   |some j=>
    obtain⟨a,N,_⟩:=du G;simp only[N];obtain⟨A,x⟩:=afk hm hs i o F G N;refine⟨A,λb h=>?_⟩;obtain⟨t,r,q⟩:=x b h;exact⟨t,λf _ h=>r f h,hB b q⟩
theorem WT:∀(es:M ck) {l:M az},Wl (m+1) s l->xQ (Q6 can oN m) s l es=xQ (yX can oN m) s l es/\∀d,xQ (yX can oN m) s l es=.inr d->Wl (m+1) s d/\
  (∀a,yh oN s a->es.filter (λc=>Z' (c.aj=a))=[]->eZ d a=eZ l a)/\
  ∀a v c,yh oN s a->es.filter (λc=>Z' (c.aj=a))=[c]->c.op≠4->c.op≠5->can (oF s a) c.aS=Z v->eZ d a=Z v
 |[],l,i=>⟨rfl,λd h=>by cases h;exact⟨i,λ_ _ _=>rfl,λa v c _ h=>by simp at h⟩⟩
 |e::es,l,i=>by
  obtain⟨C,B⟩:=Q7 hm hs i e;simp only[xQ,C];cases A:yX can oN m s l e with
  |inl c=>exact⟨rfl,λd h=>by cases h⟩
  |inr t=>
   obtain⟨r,q,p⟩:=B t A;obtain⟨y,i2⟩:=WT es r;refine⟨y,λd h=>?_⟩;obtain⟨x,j,w⟩:=i2 d h;refine⟨x,λa f b=>?_,λa v c f b o n k=>?_⟩
   ·rw[gZ]at b
    split at b
    ·cases b
    ·rename_i g;rw[j a f b,q a f (by simpa using g)]
   ·rw[gZ]at b
    split at b
    ·rename_i g;obtain⟨F,D⟩:=List.cons.inj b;subst F;rw[j a f D,p a v f (by simpa using g) o n k]
    ·exact w a v c f b o n k
end
theorem tL{can:gK->z->u z}{g:M ah->z->M z}:∀m,Hm can g m
 |0=>λs l es _ _=>⟨rfl,λd h=>by cases h⟩
 |m+1=>λs l es j k=>by
  obtain⟨q,p⟩:=WT (tL m) j es k;refine⟨q,λd h=>?_⟩;obtain⟨f,r,e⟩:=p d h;refine⟨f,λi v n a=>?_⟩;unfold I0 at a
  split at a
  ·rename_i c o
   split at a
   ·cases a
   ·rename_i b;simp only[da,decide_eq_true_eq,not_or]at b;exact e i v c n o b.1 b.2 a
  ·cases a
end
section
theorem ad3{s:z}(h:s.size=0):s=kU:=by
 obtain⟨d⟩:=s;have a:d.size=0:=h;rw[Array.eq_empty_of_size_eq_zero a];rfl
theorem WQ{d:z->Bool}{mt:z->z->Bool}:∀(m N:Nat) (s:M ah) (l:M az),nj (pJ d mt N) (dk s) l=I->Wl m s l
 |0,_,_,_,_=>trivial
 |m+1,N,s,l,h=>by
  rw[VX]at h;refine⟨λx e=>?_,h.2⟩;obtain⟨k,n,f,b,a⟩:=h.1 x e;refine⟨k,n,f,b,?_⟩;cases N with
  |zero=>cases a
  |succ N=>
   unfold pJ Gw at a;by_cases c:n.aq=3\/n.aq=4
   ·refine⟨λh=>by omega,λh=>by omega⟩
   ·have g:(Z' (n.aq=3) ||decide (n.aq=4))=J:=by
     simp only[not_or]at c;simp[c]
    rw[g]at a;simp only[aF,if_false]at a;by_cases b:n.aq=2
    ·simp only[b,decide_true,if_true,ai,decide_eq_true_eq]at a;exact⟨λ_=>⟨ad3 a.2.1,WQ m N n.aa x.aa a.2.2⟩,λ_=>a.1⟩
    ·simp only[b,decide_false,aF,if_false,ai,decide_eq_true_eq]at a;exact⟨λ_=>⟨ad3 a.1,WQ m N n.aa x.aa a.2.2⟩,λh=>absurd h b⟩
def rest(k:Nat):Nat->M ah->M z
 |_,[]=>[]
 |j,e::es=>(if j=k then [] else (dk e.aa).map ah.aj)++rest k (j+1) es
mutual
def xG(es:List ah)(a:ByteArray):Option (List ByteArray):=match es with
 |[]=>O
 |e::es=>if kP e.aq=I/\e.aj=a then Z [] else if e.aq=5 then (match xZ e.aa a 0 with
  |some (k,out)=>Z (out++rest k 0 e.aa)
  |none=>xG es a) else xG es a
termination_by aw es
decreasing_by
 ·exact ah.ig e es
 ·simp only[bJ];omega
 ·simp only[bJ];omega
def xZ(b:List ah)(a:ByteArray)(i:Nat):Option (Nat×List ByteArray):=match b with
 |[]=>O
 |e::es=>match xG e.aa a with
  |some out=>Z (i,out)
  |none=>xZ es a (i+1)
termination_by aw b
decreasing_by
 ·exact ah.ig e es
 ·simp only[bJ];omega
end
def fL(s:M ah)(a:z):M z:=(xG s a).getD []
theorem Jn{b:z}:∀{a:M ah} {i k:Nat} {out:M z},xZ a b i=Z (k,out)->∃c∈a,xG c.aa b=Z out
 |[],i,k,out,h=>by rw[xZ]at h;cases h
 |c::a,i,k,out,h=>by
  rw[xZ]at h
  split at h
  ·rename_i o e;cases h;exact⟨c,bQ,e⟩
  ·obtain⟨d,g,f⟩:=Jn h;exact⟨d,bP _ g,f⟩
theorem OQ{k:Nat}{x:z}:∀{a:M ah} {j:Nat},x∈rest k j a->∃c∈a,x∈(dk c.aa).map ah.aj
 |c::a,j,h=>by
  rw[rest,ba]at h;rcases h with h|h
  ·split at h
   ·cases h
   ·exact⟨c,bQ,h⟩
  ·obtain⟨d,e,b⟩:=OQ h;exact⟨d,bP _ e,b⟩
section
variable {ip:z->Bool} {mt:z->z->Bool}
theorem xA{N:Nat}{l:M ah}{k:Int}{f:Bool}{deep:Nat}(h:sM ip mt N l k f deep=I) :
  (∀x∈l,(Z' (k=5)=Z' (x.aq=6))/\wQ ip mt x f=I/\∃a,sM ip mt a x.aa x.aq (uh x f) (deep+1)=I)/\((dk l).map ah.aj).Nodup:=by
 cases N with
 |zero=>cases h
 |succ a=>
  unfold sM at h;simp only[ai]at h;obtain⟨e,d,_⟩:=h;refine⟨λx b=>?_,(oA _).1 d⟩;obtain⟨j,c⟩:=rh b;have:=mD.1 e j x c;simp only[ai,decide_eq_true_eq]at this;exact⟨this.2.1,this.2.2.1,a,this.2.2.2⟩
def Vk(ip:z->Bool)(mt:z->z->Bool)(l:M ah):Prop:=∀x∈l,∃N f deep,sM ip mt N x.aa x.aq f deep=I
theorem adq{N:Nat}{l:M ah}{k:Int}{f:Bool}{deep:Nat}(h:sM ip mt N l k f deep=I):Vk ip mt l:=λx b=>by
 obtain⟨_,_,a,c⟩:=(xA h).1 x b;exact⟨a,_,_,c⟩
theorem acr(m:Nat):∀(es:M ah),aw es < m->Vk ip mt es->∀{j:z} {out:M z},xG es j=Z out->∀x∈out,∃e∈es,e.aq=5/\x∈(dk e.aa).map ah.aj:=by
 induction m with
 |zero=>intro es h;omega
 |succ m q=>
  intro es t r j out h x d;cases es with
  |nil=>rw[xG]at h;cases h
  |cons e es=>
   have s:xG es j=Z out->∃i∈e::es,i.aq=5/\x∈(dk i.aa).map ah.aj:=λh=>by
    obtain⟨i,g,F⟩:=q es (by simp only[bJ]at t;omega) (λy l=>r y (bP _ l)) h x d;exact⟨i,bP _ g,F⟩
   rw[xG]at h
   split at h
   ·cases h;cases d
   ·split at h
    ·rename_i w
     split at h
     ·rename_i k o B;cases h;refine⟨e,bQ,w,?_⟩;obtain⟨N,f,deep,C⟩:=r e bQ;have v:=(xA C).1;have D:∀c∈e.aa,c.aq=6:=λc b=>by
       have:=(v c b).1;rw[w]at this
       simpa using this.symm
      have p:∀c∈e.aa,∀y,y∈(dk c.aa).map ah.aj->y∈(dk e.aa).map ah.aj:=λc b y l=>
       ((Qe b (by simp[pC,D c b])).map ah.aj).subset l
      rcases ba.1 d with d|d
      ·obtain⟨c,b,g⟩:=Jn B;obtain⟨_,_,a,n⟩:=v c b;have A:aw c.aa < m:=by
        have a1:=ah.dL c;have a2:=bj b;have a3:=ah.ig e es;simp only[bJ]at t a3;omega
       obtain⟨i,K,H,G⟩:=q c.aa A (adq n) g x d;exact p c b x (((Qe K (by simp[pC,H])).map ah.aj).subset G)
      ·obtain⟨c,b,g⟩:=OQ d;exact p c b x g
     ·exact s h
    ·exact s h
theorem J1{l:M ah}{x:ah}(a:x∈l){y:ah}(c:y∈vX x):y∈dk l:=by
 induction l with
 |nil=>cases a
 |cons e l b=>
  rw[nL,ba];rcases aL.1 a with rfl|a
  ·exact .inl c
  ·exact .inr (b a)
theorem Nb:∀{l:M ah} {x e a b:ah},((dk l).map ah.aj).Nodup->x∈l->e∈l->x≠e->a∈vX x->b∈vX e->a.aj≠b.aj
 |c::l,x,e,a,b,k,o,m,n,i,g=>by
  rw[nL,bN,bM]at k;obtain⟨_,n2,j⟩:=k;rcases aL.1 o with rfl|f
  ·rcases aL.1 m with rfl|d
   ·exact absurd rfl n
   ·exact j _ (cJ i) _ (cJ (J1 d g))
  ·rcases aL.1 m with rfl|d
   ·exact λh=>j _ (cJ g) _ (cJ (J1 f i)) h.symm
   ·exact Nb n2 f d n i g
theorem Z2{l:M ah}(a:(l.map ah.aj).Nodup){j:Nat}{x:ah}(h:nth l j=Z x):dC l x.aj=Z j:=by
 have:=mD.1 ((oA l).2 a) j x h
 simpa using this
theorem ae8{N:Nat}{s:M ah}{k:Int}{f:Bool}{deep:Nat}(h:sM ip mt N s k f deep=I){b:z}(a:BP s b=I):yh fL s b:=by
 unfold BP wC at a;cases m:dC s b with
 |none=>rw[m]at a;cases a
 |some j=>
  rw[m]at a;simp only at a
  cases d:nth s j with
  |none=>rw[d]at a;cases a
  |some x=>
   rw[d]at a;simp only[ai,decide_eq_true_eq]at a;have r:=a.1;obtain⟨L,A,H⟩:=du m;rw[d]at A;cases A;have c:x.aj=b:=by simpa using H
   have B:=bc d;have t:=(xA h).2;have l:vX x=[x]:=by simp[vX,kP,fO,r]
   have n:x∈dk s:=J1 B (by rw[l];exact bQ);obtain⟨i,w⟩:=rh n;have v:=Z2 t w;rw[c]at v;refine⟨x,by simp only[dQ,v,w],r,by simp only[oF,m,d],λC P g=>?_⟩;unfold fL at g;cases o:xG s C with
   |none=>rw[o]at g;cases g
   |some out=>
    rw[o]at g;obtain⟨e,F,G,p⟩:=acr _ s (aP _) (adq h) o b g;obtain⟨y,D,K⟩:=cj.1 p;have q:vX e=dk e.aa:=by simp[vX,kP,fO,pC,G]
    exact Nb t B F (λe=>by rw[e]at r;omega) (by rw[l];exact bQ) (by rw[q];exact D) (by rw[c,K])
theorem Nc(a:Nat):∀{N:Nat} {s:M ah} {k:Int} {f:Bool} {deep:Nat},aw s < a->sM ip mt N s k f deep=I->∀n∈dk s,∃t m r,wQ ip mt n m=I/\sM ip mt t n.aa n.aq (uh n m) r=I:=by
 induction a with
 |zero=>intro N s k f deep h;omega
 |succ a o=>
  intro N s k f deep v h;have p:=(xA h).1;have d:∀l:M ah,(∀x∈l,x∈s)->∀n∈dk l,∃x∈s,n∈vX x:=by
   intro l
   induction l with
   |nil=>intro _ n b;rw[uo]at b;cases b
   |cons e l g=>
    intro i n b;rw[nL,ba]at b;rcases b with b|b
    ·exact⟨e,i e bQ,b⟩
    ·exact g (λx c=>i x (bP _ c)) n b
  intro n b;obtain⟨x,c,b⟩:=d s (λx c=>c) n b;obtain⟨w,q,K,j⟩:=p x c;unfold vX at b
  split at b
  ·rw[cT]at b;subst b;exact⟨K,f,_,q,j⟩
  ·split at b
   ·refine o ?_ j n b;have a1:=ah.dL x;have a2:=bj c;omega
   ·cases b
theorem adp:∀(m:Nat) {N:Nat} {s:M ah} {k:Int} {f:Bool} {deep:Nat},sM ip mt N s k f deep=I->Hs fL m s
 |0,_,_,_,_,_,_=>trivial
 |m+1,N,s,k,f,deep,h=>λn e=>by
  obtain⟨l,i,j,c,d⟩:=Nc _ (aP _) h n e;refine⟨λa=>?_,λ_=>adp m d⟩;unfold wQ j7 at c;simp only[a,ai]at c;have b:=c.2;have g:¬(2:Int)=1:=by decide
  simp only[g,if_false,if_true,C2,sW,ai]at b;exact⟨(qJ _).1 b.2.2.2.2.1.1,λk a=>ae8 d (bw.1 b.1 k a)⟩
end
end
section
theorem ck.Kx{x y:ck}(h:y∈x.aa):aw y < aw x:=by
 have a:=bj h;cases x;simp only[ck.mk.sizeOf_spec];dsimp only at a;omega
theorem ck.dL(x:ck):aw x.aa < aw x:=by
 cases x;simp only[ck.mk.sizeOf_spec];omega
def cK(x:ck):M D:=[.int .i64 x.op,.str x.aj,.str x.aS,.list 4 J (x.aa.map λy=>cK y)]
termination_by aw x
decreasing_by exact ck.Kx (by assumption)
abbrev dm(l:M ck):D:=.list 4 J (l.map cK)
theorem aO(x:ck):cK x=[E x.op,.str x.aj,.str x.aS,dm x.aa]:=by rw[cK]
theorem tV(x:ck):ee (cK x)=x.aj.size+x.aS.size+bK cK x.aa:=by simp only[aO,ee,D.sz,ay,bK];omega
theorem EH{l:M ck}{i:Nat}{y:ck}(h:nth l i=Z y):aZ (.el 4) [dm l,E (i:Int)]=Z (.list 0 J [cK y]):=by
 rw[mu,aX,h];rfl
def lO(op:Int)(x:az):ck:=⟨op,x.aj,x.aS,x.aa.map λy=>lO op y⟩
termination_by aw x
decreasing_by exact az.Kx (by assumption)
theorem Ab(op:Int)(x:az):lO op x=⟨op,x.aj,x.aS,x.aa.map (lO op)⟩:=by rw[lO]
theorem AG:aZ (.sV 4 J) []=Z (dm []):=(rfl)
theorem LC(o:Int)(a b:z)(c:M ck):aZ (.sV 4 J) [E o,.str a,.str b,dm c]=Z (.list 4 J [[E o,.str a,.str b,dm c]]):=jN 4 _ rfl (by decide)
theorem vi{l:M ck}(h:l.length<=mg)(o:Int)(a b:z)(c:M ck):aZ (.app 4 64) [dm l,.list 4 J [[E o,.str a,.str b,dm c]]]=Z (dm (l++[⟨o,a,b,c⟩])):=by
 have d:=eN 4 64 J (l.map cK) [[E o,.str a,.str b,dm c]] (by decide) (by simp only[mg,ay,aH,aJ]at *;omega);rw[d];simp[dm,aO]
theorem Ra(o:Int)(a b:z):aZ .pl [E o,.str a,.str b]=Z (.bool J):=(rfl)
theorem agu(op:Int)(a:Nat):∀l:M az,aw l < a->bK aU l<=mg->G 346 [E op,aE l]=Z (0,[dm (l.map (lO op))]):=by
 induction a with
 |zero=>intro l h;omega
 |succ a m=>
  intro l w e;have d:l.length<=mg:=by simp only[bK]at e;omega
  have f:=cN (b:=lB G Le) l (λi t=>(0,[E op,aE l,E (i:Int),dm t])) (λi=>(l.take i).map (lO op)) (0,[E op,aE l,E l.length,.bool J,dm (l.map (lO op))]) (by
   intro i x c;have g:=bp c;have n:=wj g d;have s:=iI c;obtain⟨v,j⟩:=lV e (bc c);have r:=m x.aa (by have:=bj (bc c);have:=az.dL x;omega) j;have q:=LC op x.aj x.aS (x.aa.map (lO op));have p:=vi (l:=(l.take i).map (lO op)) (by simp only[ay,aY];omega) op x.aj x.aS (x.aa.map (lO op));have o:=Ra op x.aj x.aS;have k:(l.take (i+1)).map (lO op)=(l.take i).map (lO op)++[⟨op,x.aj,x.aS,x.aa.map (lO op)⟩]:=by rw[bZ l i x c,bN,aW,bD,Ab op x]
   rw[k];generalize (l.take i).map (lO op)=t at *;simp only[go_sem,bG,Le,g,n,s,aN x,r,q,p,o]) (by simp only[go_sem,bG,Le,aC,aR]) l.length 0 (by omega)
  rw[n0,aV,bD]at f;refine ct alH rfl ?_;simp only[go_sem,alH,AG,f]
theorem aoJ{op:Int}{l:M az}(a:bK aU l<=mg):G 346 [E op,aE l]=Z (0,[dm (l.map (lO op))]):=agu op _ l (aP _) a
theorem agy(op:Int)(a:Nat):∀l:M az,aw l < a->bK aU l<=mg->G 357 [E op,aE l]=Z (0,[dm (l.map (lO op))]):=by
 induction a with
 |zero=>intro l h;omega
 |succ a m=>
  intro l w e;have d:l.length<=mg:=by simp only[bK]at e;omega
  have f:=cN (b:=lB G Lg) l (λi t=>(0,[E op,aE l,E l.length,E (i:Int),dm t])) (λi=>(l.take i).map (lO op)) (0,[E op,aE l,E l.length,E l.length,.bool J,dm (l.map (lO op))]) (by
   intro i x c;have g:=bp c;have n:=wj g d;have s:=iI c;obtain⟨v,j⟩:=lV e (bc c);have r:=m x.aa (by have:=bj (bc c);have:=az.dL x;omega) j;have q:=LC op x.aj x.aS (x.aa.map (lO op));have p:=vi (l:=(l.take i).map (lO op)) (by simp only[ay,aY];omega) op x.aj x.aS (x.aa.map (lO op));have o:=Ra op x.aj x.aS;have k:(l.take (i+1)).map (lO op)=(l.take i).map (lO op)++[⟨op,x.aj,x.aS,x.aa.map (lO op)⟩]:=by rw[bZ l i x c,bN,aW,bD,Ab op x]
   rw[k];generalize (l.take i).map (lO op)=t at *;simp only[go_sem,bG,Lg,g,n,s,aN x,r,q,p,o]) (by simp only[go_sem,bG,Lg,aC,aR]) l.length 0 (by omega)
  rw[n0,aV,bD]at f;refine ct alJ rfl ?_;simp only[go_sem,alJ,AG,f]
theorem aoP{op:Int}{l:M az}(a:bK aU l<=mg):G 357 [E op,aE l]=Z (0,[dm (l.map (lO op))]):=agy op _ l (aP _) a
end
section
theorem erase_eq{a:Type}:∀(l:M a) (k:Nat),l.eraseIdx k=l.take k++l.drop (k+1)
 |[],k=>by simp
 |x::l,0=>by simp
 |x::l,k+1=>by simp[erase_eq l k]
theorem T3(k:Nat)(c:Bool)(es:M (M D))(a b:Nat)(h:a<=b)(d:b<=es.length):aZ (.cut I) [.list k c es,E (a:Int),E (b:Int)]=Z (.list k c ((es.take b).drop a)):=by
 simp only[aZ,dI,bW];rw[if_pos (by omega),if_pos (by omega)];dsimp only;rw[if_pos ⟨h,d⟩]
theorem ZF(k:Nat)(b:Bool)(es:M (M D))(a:Nat)(h:a<=es.length):aZ (.AZ k J) [.list k b es,E (a:Int)]=Z (.list k b (es.drop a)):=by
 simp only[aZ,dI,bW];rw[if_pos (by omega)];dsimp only;rw[if_pos ⟨trivial,h⟩]
theorem Dl{a b:M az}(h:a.length+b.length<=2147483648):aZ (.app 3 56) [aE a,aE b]=Z (aE (a++b)):=by
 rw[eN 3 56 J _ _ (by decide) (by simpa using h),aE,bN]
theorem agv{l:M az}:G 349 [aE l,E (-1)]=Z (0,[aE l]):=by
 refine ct ac8 rfl ?_;simp only[go_sem,ac8]
theorem agw{l:M az}{k:Nat}(f:k < l.length)(e:l.length<=mg):G 349 [aE l,E (k:Int)]=Z (0,[aE (l.eraseIdx k)]):=by
 have c:=T3 3 J (l.map aU) 0 k (by omega) (by simp;omega);have i:=ZF 3 J (l.map aU) (k+1) (by simp;omega);have d:=wj f e;have j:=Vb k;have h:aZ (.app 3 56) [aE [],.list 3 J ((l.map aU).take k)]=Z (aE (l.take k)):=by
  rw[<- kg];have:=Dl (a:=[]) (b:=l.take k) (by simp only[mg,aY,aJ]at *;omega);rw[av]at this;exact this
 have g:aZ (.app 3 56) [aE (l.take k),.list 3 J ((l.map aU).drop (k+1))]=Z (aE (l.eraseIdx k)):=by
  rw[<- nC,erase_eq];exact Dl (by simp only[mg,aY,dH]at *;omega)
 rw[n0,bm]at c;refine ct ac8 rfl ?_;simp only[go_sem,ac8,j,c,d,i,mo,h,g]
theorem abX{l:M az}{a:M z}{x:az}{i:Nat}{o:D}(g:nth l i=Z x)(j:a.length<=mg) :
  cm (lB G Cc) (0,[aE l,bu a,E (i:Int),.bool J,E 0,o])=Z (0,[aE l,bu a,E (i:Int),.bool (nS a x.aj),E a.length,.bool J,o]):=by
 have m:=iI g;have d:=cN (b:=lB G Cc) a (λk (b:Bool)=>(0,[aE l,bu a,E (i:Int),.bool b,E (k:Int),o])) (λk=>(a.take k).any λy=>Z' (y=x.aj))
  (0,[aE l,bu a,E (i:Int),.bool (a.any λy=>Z' (y=x.aj)),E a.length,.bool J,o]) (by
  intro k e c;have f:=bp c;have h:=wj f j;rw[yi c];cases n:(a.take k).any λy=>Z' (y=x.aj)<;>simp only[go_sem,bG,Cc,f,aX,c,fe,m,aN x,h]) (by simp only[go_sem,bG,Cc,aC,aR]) a.length 0 (by omega)
 rw[n0,aV,List.any_nil,NJ]at d;exact d
theorem npN(a b:z)(c:M az):aZ .Ww [.str a,.str b,aE c]=Z (.bool J):=(rfl)
theorem Ug{l:M az}{a:M z}{i:Nat}{x:az}(b:nth l i=Z x):Be a (l.take (i+1))=Be a (l.take i)++(if nS a x.aj=I then [] else [x]):=by
 unfold Be;rw[bZ l i x b,List.filter_append];cases h:nS a x.aj<;>simp[h]
theorem aaK{l:M az}{a:M z}:(Be a l).length<=l.length:=px _ _
theorem aaU{l:M az}(h:l.length<=mg)(x:az):aZ (.app 3 56) [aE l,.list 3 J [[.str x.aj,.str x.aS,aE x.aa]]]=Z (aE (l++[x])):=by
 cases x;exact ahv h _ _ _
theorem aoM{l:M az}{ns:M z}(c:l.length<=mg)(k:ns.length<=mg):G 350 [aE l,bu ns]=Z (0,[aE (Be ns l)]):=by
 have h:=cN (b:=lB G Lf) l (λi t=>(0,[aE l,bu ns,E (i:Int),aE t])) (λi=>Be ns (l.take i)) (0,[aE l,bu ns,E l.length,.bool J,aE (Be ns l)]) (by
  intro i x a;have d:=bp a;have g:=wj d c;have r:=iI a;have j:(Be ns (l.take i)).length<=mg:=aG aaK (aG (jU _ _) c);rw[Ug a];generalize Be ns (l.take i)=t at *;have e:=abX (o:=aE t) a k;have q:=Zl x.aj x.aS x.aa;have p:=aaU j x;have n:=npN x.aj x.aS x.aa;cases m:nS ns x.aj<;>rw[m]at e<;>simp only[go_sem,bG,Lf,d,r,aN x,e,q,p,n,g,aK]) (by simp only[go_sem,bG,Lf,aC,aR]) l.length 0 (by omega)
 rw[n0,aV]at h;refine ct alI rfl ?_;have f:Be ns []=[]:=rfl;rw[f]at h;simp only[go_sem,alI,mo,h]
end
section
theorem W5{d:M ah}{a b:az}{i k:Nat}{e:ah}(f:dC d a.aj=Z i)(c:dC d b.aj=Z k)(g:nth d i=Z e) :
  kD d a b=(if (Z' (i=k) && jF e.aq)=I then gg (keyOf e a).1 (keyOf e b).1 else Z' (i < k)):=by
 unfold kD GV Fo;simp only[f,c,g]
def Kd(d:M ah)(x:az):Prop:=∃k,dC d x.aj=Z k
theorem Kd.nth{d:M ah}{x:az}(h:Kd d x):∃k e,dC d x.aj=Z k/\nth d k=Z e/\e.aj=x.aj:=by
 obtain⟨k,a⟩:=h;obtain⟨e,c,b⟩:=du a;exact⟨k,e,a,c,by simpa using b⟩
theorem ad0{d:M ah}{a b:az}(h:bK ax d<=mg)(l:a.aa.length<=mg)(j:b.aa.length<=mg)(n:Kd d a)(m:Kd d b) :
  G 249 ([aB d]++aU a++aU b)=Z (0,[.bool (kD d a b)]):=by
 obtain⟨i,e,g,c,_⟩:=n.nth;obtain⟨k,f⟩:=m;rw[W5 g f c];exact ak3 (by simp only[bK]at h;omega) (mT (by have:=cG ax (bc c);omega)) l j g f c
theorem abY{d:M ah}{l:M az}{x:az}(o:bK ax d<=mg)(g:bK aU l<=mg)(k:x.aa.length<=mg)(s:∀y∈l,Kd d y)(r:Kd d x):∀m i,i+m=l.length->
  cm (lB G FP) (0,[aB d,aE l,.int .i64 (i:Int)]++aU x)=Z (0,[aB d,aE l,E ((i+((l.drop i).takeWhile (kD d · x)).length:Nat):Int),.bool J]++aU x):=by
 have c:l.length<=mg:=by simp only[bK]at g;omega
 intro m
 induction m with
 |zero=>
  intro i p;obtain rfl:i=l.length:=by omega
  rw[bE];refine bg ?_;simp only[go_sem,bG,FP,aC,List.takeWhile_nil,aJ,cd,aN x]
 |succ m j=>
  intro i p;have e:i < l.length:=by omega
  have a1:=cI (l:=l) (i:=i) e;have hd:=eg l i _ a1;generalize l[i]'e=y at a1 hd;have n:=wj e c;have h:=iI a1;have f:=ad0 (a:=y) (b:=x) o (lV g (bc a1)).1 k (s y (bc a1)) r;simp only[aN,au,av]at f;rw[hd,kv];cases q:kD d y x<;>rw[q]at f
  ·refine bg ?_;simp only[go_sem,bG,FP,e,h,aN,f,aF,if_false,aJ,cd]
  ·rw[if_pos rfl,aH,show i+(((l.drop (i+1)).takeWhile (kD d · x)).length+1)=(i+1)+((l.drop (i+1)).takeWhile (kD d · x)).length by omega,<- j (i+1) (by omega)];refine bY ?_;simp only[go_sem,bG,FP,e,h,aN,f,n]
theorem Mc{a:Type}(p:a->Bool):∀l:M a,l.take (l.takeWhile p).length=l.takeWhile p
 |[]=>rfl
 |x::l=>by
  rw[kv];split
  ·simp[Mc p l]
  ·rfl
theorem J2{a:Type}(p:a->Bool):∀l:M a,l.drop (l.takeWhile p).length=l.dropWhile p
 |[]=>rfl
 |x::l=>by
  rw[kv,List.dropWhile_cons];split
  ·simp[J2 p l]
  ·rfl
theorem ad8{a:Type}(p:a->Bool)(l:M a):(l.takeWhile p).length<=l.length:=(yf p).length_le
theorem ab_(x:az):aZ (.sV 3 J) [.str x.aj,.str x.aS,aE x.aa]=Z (aE [x]):=by
 rw[Zl];simp[aE,aN]
theorem aoN{d:M ah}{l:M az}{x:az}(q:bK ax d<=mg)(j:bK aU l<=mg)(p:x.aa.length<=mg)(t:∀y∈l,Kd d y)(s:Kd d x) :
  ∃b,G 351 ([aB d,aE l]++aU x)=Z (0,[aE (ko d l x),.bool b]):=by
 have r:l.length<=mg:=by simp only[bK]at j;omega
 have c:=abY q j p t s l.length 0 (by omega);rw[n0,bm,bo]at c;simp only[aN,au,av]at c;have H:=Mc (kD d · x) l;have n:=J2 (kD d · x) l;have g:=ad8 (kD d · x) l;have e:ko d l x=match l.dropWhile (kD d · x) with
  |y::b=>if kD d x y=I then l.takeWhile (kD d · x)++x::y::b else l
  |[]=>l.takeWhile (kD d · x)++[x]:=rfl
 rw[<- H,<- n]at e;generalize (l.takeWhile (kD d · x)).length=k at *;have c1:=T3 3 J (l.map aU) 0 k (by omega) (by simpa using g);have o:=ZF 3 J (l.map aU) k (by simpa using g);rw[n0,bm,<- kg]at c1;rw[<- nC]at o;have D:aZ (.app 3 56) [aE [],aE (l.take k)]=Z (aE (l.take k)):=Dl (a:=[]) (by simp only[mg,aY,aJ]at *;omega);have C:aZ (.app 3 56) [aE (l.take k),aE [x]]=Z (aE (l.take k++[x])):=Dl (by simp only[mg,aY,aH,aJ]at *;omega);have B:aZ (.app 3 56) [aE (l.take k++[x]),aE (l.drop k)]=Z (aE (l.take k++[x]++l.drop k)):=Dl (by simp only[mg,bh,aY,dH,aH,aJ]at *;omega);have w:=ab_ x;have v:=npN x.aj x.aS x.aa;rcases dD k l.length with f|f
 ·have a1:=cI (l:=l) (i:=k) f;have hd:=eg l k _ a1;generalize l[k]'f=y at a1 hd;have A:=iI a1;have h:=ad0 (a:=x) (b:=y) q p (lV j (bc a1)).1 s (t y (bc a1));simp only[aN,au,av]at h;rw[hd]at e;dsimp only at e;cases F:kD d x y<;>rw[F]at h e
  ·rw[if_neg (by simp)]at e;rw[e];refine⟨J,ct V4 (by rw[aN];rfl) ?_⟩;simp only[go_sem,V4,aN,c,f,A,h]
  ·rw[if_pos rfl]at e;have:ko d l x=l.take k++[x]++l.drop k:=by rw[e,hd,bB];rfl
   rw[this];refine⟨I,ct V4 (by rw[aN];rfl) ?_⟩;simp only[go_sem,V4,aN x,aN y,c,f,A,h,c1,o,mo,D,C,B,w,v]
 ·have K:k=l.length:=by omega
  have hd:l.drop k=[]:=fN f;rw[hd]at e;dsimp only at e;have:ko d l x=l.take k++[x]++l.drop k:=by rw[e,hd,aK]
  rw[this];have m:¬k < l.length:=by omega
  refine⟨I,ct V4 (by rw[aN];rfl) ?_⟩;simp only[go_sem,V4,aN x,c,m,c1,o,mo,D,C,B,w,v]
end
section
theorem aaX{d:M ah}{x y:az}{k j:Nat}{e:ah}(a:dC d x.aj=Z k)(b:dC d y.aj=Z j)(f:nth d k=Z e) :
  kD d x y=(Z' ((k:Int) < (j:Int)) ||(Z' ((j:Int)=(k:Int)) && Z' (0 < pV e y x))):=by
 rw[W5 a b f];unfold pV;by_cases c:k=j
 ·subst c;have c1:Z' ((k:Int) < (k:Int))=J:=by simp
  cases g:jF e.aq
  ·simp[]
  ·simp[aa2]
 ·have c1:Z' ((j:Int)=(k:Int))=J:=by simp only[decide_eq_false_iff_not];omega
  have h:Z' ((k:Int) < (j:Int))=Z' (k < j):=decide_eq_decide.2 (by omega);simp[c,c1]
theorem ab0{d:M ah}{l:M az}{x:az}{k:Nat}{e:ah}(Q:bK ax d<=mg)(B:bK aU l<=mg)(N:x.aa.length<=mg)(V:∀y∈l,Kd d y)(S:dC d x.aj=Z k)(s:nth d k=Z e):∀m i,i+m=l.length->
  ∃o c,(o=0\/o=1)/\cm (lB G yS) (0,[aE l,aB d,E (k:Int),.int .i64 (i:Int),.str x.aj,.str x.aS,aE x.aa,aB d,bu (d.map ah.aj)]) =
   Z (o,[aE l,aB d,E (k:Int),E ((i+((l.drop i).takeWhile (λy=>!kD d x y)).length:Nat):Int),.bool c,.str x.aj,.str x.aS,aE x.aa,aB d,bu (d.map ah.aj)]):=by
 have q:l.length<=mg:=by simp only[bK]at B;omega
 have H:(d.map ah.aj).length<=mg:=by rw[ay];simp only[bK]at Q;omega
 have W:e.a_.length<=mg:=mT (by have:=cG ax (bc s);omega);intro m
 induction m with
 |zero=>
  intro i T;obtain rfl:i=l.length:=by omega
  rw[bE];refine⟨1,J,.inr rfl,bg ?_⟩;simp only[go_sem,bG,yS,aC,List.takeWhile_nil,aJ,cd]
 |succ m L=>
  intro i T;have r:i < l.length:=by omega
  have a1:=cI (l:=l) (i:=i) r;have hd:=eg l i _ a1;generalize l[i]'r=y at a1 hd;have P:=wj r q;have F:=iI a1;have D:aZ (.el 19) [aB d,E (k:Int)]=Z (.list 0 J [ax e]):=by rw[mu,aX,s];rfl
  obtain⟨j,C⟩:=V y (bc a1);have w:=q96 (l:=d.map ah.aj) (v:=y.aj) H;rw[wA,C]at w;have t:=ags (n:=e) (a:=y) (b:=x) W (lV B (bc a1)).1 N;simp only[af,aN,au,av]at t;have U:=aaX S C s;rw[hd,kv,U];obtain⟨o,c,R,K⟩:=L (i+1) (by omega);generalize p:Z' ((k:Int) < (j:Int))=v1 at *;generalize g:Z' ((j:Int)=(k:Int))=v2 at *;generalize f:Z' (0 < pV e y x)=v3 at *;have go:(v1 ||(v2 && v3))=J->lB G yS (0,[aE l,aB d,E (k:Int),.int .i64 (i:Int),.str x.aj,.str x.aS,aE x.aa,aB d,bu (d.map ah.aj)])=Z (.go (0,[aE l,aB d,E (k:Int),E ((i+1:Nat):Int),.str x.aj,.str x.aS,aE x.aa,aB d,bu (d.map ah.aj)])):=by
   intro h;cases v1<;>cases v2<;>cases v3<;>first|(simp at h;done)|simp only[go_sem,bG,yS,r,F,aN y,w,ij,p,g,f,D,af e,t,n_,P]
  have out:(v1 ||(v2 && v3))=I->lB G yS (0,[aE l,aB d,E (k:Int),.int .i64 (i:Int),.str x.aj,.str x.aS,aE x.aa,aB d,bu (d.map ah.aj)])=Z (.out (0,[aE l,aB d,E (k:Int),.int .i64 (i:Int),.bool I,.str x.aj,.str x.aS,aE x.aa,aB d,bu (d.map ah.aj)])):=by
   intro h;cases v1<;>cases v2<;>cases v3<;>first|(simp at h;done)|simp only[go_sem,bG,yS,r,F,aN y,w,ij,p,g,f,D,af e,t,n_]
  cases A:(v1 ||(v2 && v3))
  ·refine⟨o,c,R,?_⟩;rw[bY (go A),K];simp only[ga,if_true,aH];rw[show i+(((l.drop (i+1)).takeWhile (λy=>!kD d x y)).length+1)=i+1+((l.drop (i+1)).takeWhile (λy=>!kD d x y)).length by omega]
  ·refine⟨0,I,.inl rfl,?_⟩;rw[bg (out A)];simp
theorem afz{l:M az}{x:az}{k:Nat}(b:k<=l.length)(a:l.length<=mg):aZ (.yv I) [aE l,E (k:Int),aE [x]]=Z (aE (l.take k++x::l.drop k)):=by
 simp only[aZ,bW,ay,aH,aJ];rw[if_pos ⟨by omega,by omega,by simp,by simp only[mg,room]at *;omega⟩];simp[aE]
theorem aoT{s:M ah}{l:M az}{x:az}(m:bK ax s<=mg)(n:bK aU l<=mg)(A:x.aa.length<=mg)(D:∀y∈l,Kd (dk s) y)(C:Kd (dk s) x) :
  G 362 ([aB s,aE l]++aU x)=Z (0,[aE (oJ (dk s) l x)]):=by
 have d:l.length<=mg:=by simp only[bK]at n;omega
 have hd:bK ax (dk s)<=mg:=aG lN m;have j:(dk s).length<=mg:=by simp only[bK]at hd;omega
 obtain⟨k,e,p,g,_⟩:=C.nth;obtain⟨o,c,B,b⟩:=ab0 hd n A D p g l.length 0 (by omega);rw[n0,bm,bo]at b;have P:=Mc (λy=>!kD (dk s) x y) l;have i:=J2 (λy=>!kD (dk s) x y) l;have f:=ad8 (λy=>!kD (dk s) x y) l;have w:oJ (dk s) l x=l.takeWhile (λy=>!kD (dk s) x y)++x::l.dropWhile (λy=>!kD (dk s) x y):=rfl;rw[<- P,<- i]at w;rw[w];generalize (l.takeWhile λy=>!kD (dk s) x y).length=q at *;have t:=q94 m;rw[kQ (by intro h;rw[h]at g;cases g)]at t;have K:=q95 (l:=dk s) j;have r:=q96 (l:=(dk s).map ah.aj) (v:=x.aj) (by rw[ay];exact j);rw[wA,p]at r;have N:aZ (.app 3 56) [aE [],aE l]=Z (aE l):=Dl (a:=[]) (by simp only[mg,aJ]at *;omega);have L:=afz (x:=x) f d;have H:=ab_ x;have F:=npN x.aj x.aS x.aa;refine ct alK (by rw[aN];rfl) ?_;rcases B with rfl|rfl<;>simp only[go_sem,alK,aN x,t,K,r,ij,n_,b,mo,N,L,H,F]
end
section
noncomputable def ez:gK->z->u z:=Bm mh Dx
theorem akz{t:gK}{s:z}(b:ee (ew t)<=mg)(a:s.size<=mg):G 237 (ew t++[.str s])=Z (0,gz (ez t s)):=akZ (λs _=>af2 s) (λp s _ a=>af6 a) b a
theorem VQ{t:gK}{s:z}(b:ee (ew t)<=mg)(a:s.size<=mg):G 311 (ew t++[.str s])=Z (0,gz (ez t s)):=ale (λs _=>agk s) (λp s _ a=>agm a) b a
noncomputable def va(t:gK):M ck->u (M z)
 |[]=>Z []
 |c::l=>if (Z' (c.op=4) ||decide (c.op=5))=I then O else match ez t c.aS with
  |none=>O
  |some v=>(va t l).map (v::·)
theorem aaI{t:gK}:∀{l:M ck} {a:M z},va t l=Z a->a.length=l.length
 |[],a,h=>by cases h;rfl
 |c::l,a,h=>by
  simp only[va]at h
  split at h
  ·cases h
  ·split at h
   ·cases h
   ·obtain⟨d,b,rfl⟩:=ak.1 h;simp[aaI b]
def Du(a:z)(c:ck):Bool:=Z' (c.aj=a)
theorem N7(s:M ah)(es:M ck)(a:z):I0 ez s es a=match va (oF s a) (es.filter (Du a)) with
  |some [v]=>Z v
  |_=>O:=by
 unfold I0;have f:es.filter (λc=>Z' (c.aj=a))=es.filter (Du a):=rfl;rw[f];generalize es.filter (Du a)=l
 match l with
 |[]=>rfl
 |[c]=>
  simp only[va];split
  ·rfl
  ·cases ez (oF s a) c.aS<;>rfl
 |c::d::r=>
  cases e:va (oF s a) (c::d::r) with
  |none=>rfl
  |some b=>
   have:=aaI e
   match b,this with
   |[],h=>simp at h
   |[v],h=>simp at h
   |_::_::_,_=>rfl
theorem XC{l:M ck}{y:ck}{B:Nat}(a:bK cK l<=B)(h:y∈l):y.aj.size<=B/\y.aS.size<=B/\bK cK y.aa<=B/\y.aa.length<=B:=by
 have a1:=cG cK h;rw[tV]at a1;have:y.aa.length<=bK cK y.aa:=by simp only[bK];omega
 omega
theorem Di(n:ah):ee (ew n.type)<=ee (ax n):=by rw[dO];omega
theorem mk1(v:z):aZ (.sV 1 I) [.str v]=Z (bu [v]):=by simp[aZ,chunk,dV,D.plain,bu,fe]
theorem aef{a b:M z}(h:a.length+b.length<=2147483648):aZ (.app 1 16) [bu a,bu b]=Z (bu (a++b)):=by
 rw[eN 1 16 I _ _ (by decide) (by simpa using h),bu,bN]
theorem abW{n d:ah}{e:ck}{i:Nat}{q:z}(B:nth n.a_ i=Z q)(W:ee (ax d)<=mg)(Q:bK cK e.aa<=mg):∀(m k:Nat) (c:Nat) (o:M z),k+m=e.aa.length->c<=k->o.length+m<=134217728->
  match va d.type ((e.aa.drop k).filter (Du q)) with
  |none=>∃w,cm (lB G pG) (0,[E (i:Int),E (c:Int),E (k:Int)]++ax n++cK e++ax d++[bu o])=Z (0,[.bool J,bu w])
  |some g=>cm (lB G pG) (0,[E (i:Int),E (c:Int),E (k:Int)]++ax n++cK e++ax d++[bu o])=Z (1,[E (i:Int),E ((c+g.length:Nat):Int),E (e.aa.length:Int),.bool J]++ax n++cK e++ax d++[bu (o++g)]):=by
 have h:e.aa.length<=mg:=by simp only[bK]at Q;omega
 intro m
 induction m with
 |zero=>
  intro k c o R _ _;obtain rfl:k=e.aa.length:=by omega
  rw[bE];simp only[xM,va];refine bg ?_;simp only[go_sem,bG,pG,aC,af,aO,aJ,cd,aK]
 |succ m N=>
  intro k c o R Y X;have j:k < e.aa.length:=by omega
  have a1:=cI (l:=e.aa) (i:=k) j;have hd:=eg e.aa k _ a1;generalize e.aa[k]'j=y at a1 hd;have P:=wj j h;have V:=wj (show c < e.aa.length by omega) h;have C:=EH a1;obtain⟨y1,y2,y3,y4⟩:=XC Q (bc a1);have f:=akz (t:=d.type) (s:=y.aS) (aG (Di d) W) y2;simp only[ew,au,av]at f;rw[hd,gZ];have i0:=N (k+1) c o (by omega) (by omega) (by omega);by_cases p:y.aj=q
  ·have K:Du q y=I:=by simp[Du,p]
   rw[if_pos K];simp only[va];by_cases H:y.op=4
   ·rw[if_pos (by simp[H])];refine⟨o,bg ?_⟩;cases r:ez d.type y.aS<;>rw[r]at f<;>simp only[go_sem,bG,pG,af,aO,j,C,aX,B,fe,p,f,gz,H]
   ·by_cases F:y.op=5
    ·rw[if_pos (by simp[F])];refine⟨o,bg ?_⟩;cases r:ez d.type y.aS<;>rw[r]at f<;>simp only[go_sem,bG,pG,af,aO,j,C,aX,B,fe,p,f,gz,F]
    ·rw[if_neg (by simp[H,F])];cases r:ez d.type y.aS with
     |none=>
      rw[r]at f;refine⟨o,bg ?_⟩;simp only[go_sem,bG,pG,af,aO,j,C,aX,B,fe,p,f,gz]
     |some v=>
      rw[r]at f;have A:=N (k+1) (c+1) (o++[v]) (by omega) (by omega) (by simp;omega);have U:=mk1 v;have T:=aef (a:=o) (b:=[v]) (by simp;omega);have x:lB G pG (0,[E (i:Int),E (c:Int),E (k:Int)]++ax n++cK e++ax d++[bu o])=Z (.go (0,[E (i:Int),E ((c+1:Nat):Int),E ((k+1:Nat):Int)]++ax n++cK e++ax d++[bu (o++[v])])):=by
       simp only[go_sem,bG,pG,af,aO,j,C,aX,B,fe,p,f,gz,H,F,U,T,P,V]
      cases D:va d.type ((e.aa.drop (k+1)).filter (Du q)) with
      |none=>
       rw[D]at A;obtain⟨w,L⟩:=A;exact⟨w,by rw[bY x,L]⟩
      |some g=>
       rw[D]at A;dsimp only at A;dsimp only[aQ];have S:o++[v]++g=o++v::g:=by simp
       rw[bY x,A,S,aH,show c+1+g.length=c+(g.length+1) by omega]
  ·have K:Du q y=J:=by simp[Du,p]
   rw[if_neg (by simp[K])];have x:lB G pG (0,[E (i:Int),E (c:Int),E (k:Int)]++ax n++cK e++ax d++[bu o])=Z (.go (0,[E (i:Int),E (c:Int),E ((k+1:Nat):Int)]++ax n++cK e++ax d++[bu o])):=by
    simp only[go_sem,bG,pG,af,aO,j,C,aX,B,fe,p,P]
   cases D:va d.type ((e.aa.drop (k+1)).filter (Du q)) with
   |none=>
    rw[D]at i0;obtain⟨w,L⟩:=i0;exact⟨w,by rw[bY x,L]⟩
   |some g=>
    rw[D]at i0;dsimp only at i0 ⊢;rw[bY x,i0]
def CL(n:ah):Prop:=∀k∈n.a_,∃j a,dC n.aa k=Z j/\nth n.aa j=Z a/\a.aq=3
theorem Y4{n:ah}{e:ck}(Q:ee (ax n)<=mg)(D:bK cK e.aa<=mg)(R:CL n):∀(m i:Nat) (o:M z),i+m=n.a_.length->o.length=i->
  match mM ez n.aa e.aa (n.a_.drop i) with
  |none=>∃f,cm (lB G uI) (0,[E (i:Int)]++ax n++cK e++[bu o])=Z (0,[.bool J,bu f])
  |some s=>cm (lB G uI) (0,[E (i:Int)]++ax n++cK e++[bu o])=Z (1,[E (n.a_.length:Int),.bool J]++ax n++cK e++[bu (o++s)]):=by
 have K:=mT Q;have U:n.aa.length<=mg:=by have:=eh n;simp only[bK]at this;omega
 have W:e.aa.length<=mg:=by simp only[bK]at D;omega
 intro m
 induction m with
 |zero=>
  intro i o S _;obtain rfl:i=n.a_.length:=by omega
  rw[bE];simp only[mM];refine bg ?_;simp only[go_sem,bG,uI,aC,af,aO,aK]
 |succ m N=>
  intro i o S V;have d:i < n.a_.length:=by omega
  have a1:=cI (l:=n.a_) (i:=i) d;have hd:=eg n.a_ i _ a1;generalize n.a_[i]'d=nm at a1 hd;have P:=wj d K;obtain⟨j,k,C,x,_⟩:=R nm (bc a1);have h:=ZP (l:=n.aa) (nm:=nm) U;rw[C]at h;have p:aZ (.el 19) [aB n.aa,E (j:Int)]=Z (.list 0 J [ax k]):=by rw[mu,aX,x];rfl
  have t:ee (ax k)<=mg:=by have:=cG ax (bc x);have:=eh n;omega
  have c:=abW a1 t D e.aa.length 0 0 o (by omega) (by omega) (by simp only[mg]at *;omega);have L:oF n.aa nm=k.type:=by simp only[oF,C,x]
  have F:=N7 n.aa e.aa nm;rw[L]at F;rw[hd];simp only[mM,F];rw[n0,bm]at c;cases H:va k.type (e.aa.filter (Du nm)) with
  |none=>
   rw[H]at c;obtain⟨f,q⟩:=c;simp only[af,aO,au,av]at q;refine⟨f,bg ?_⟩;simp only[go_sem,bG,uI,d,aX,a1,fe,h,ij,p,af,aO,q]
  |some s=>
   rw[H]at c;dsimp only at c;simp only[af,aO,au,av,bo]at c
   match s,c with
   |[],c=>
    dsimp only;refine⟨o,bg ?_⟩;simp only[go_sem,bG,uI,d,aX,a1,fe,h,ij,p,af,aO,c,aJ,n0,aK]
   |a::b::r,c=>
    dsimp only;have w:¬((r.length+1+1:Nat):Int)=1:=by omega
    refine⟨o++a::b::r,bg ?_⟩;simp only[go_sem,bG,uI,d,aX,a1,fe,h,ij,p,af,aO,c,aH,w]
   |[v],c=>
    dsimp only;have w:((0+1:Nat):Int)=1:=rfl;have B:lB G uI (0,[E (i:Int)]++ax n++cK e++[bu o])=Z (.go (0,[E ((i+1:Nat):Int)]++ax n++cK e++[bu (o++[v])])):=by
     simp only[go_sem,bG,uI,d,aX,a1,fe,h,ij,p,af,aO,c,aH,aJ,w,P]
    have g:=N (i+1) (o++[v]) (by omega) (by simp;omega);cases A:mM ez n.aa e.aa (n.a_.drop (i+1)) with
    |none=>
     rw[A]at g;obtain⟨f,q⟩:=g;exact⟨f,by rw[bY B,q]⟩
    |some y=>
     rw[A]at g;dsimp only at g;dsimp only[aQ];have T:o++[v]++y=o++v::y:=by simp
     rw[bY B,g,T]
theorem aoK{n:ah}{e:ck}(f:ee (ax n)<=mg)(i:bK cK e.aa<=mg)(g:CL n) :
  G 347 (ax n++cK e)=Z (0,match mM ez n.aa e.aa n.a_ with
   |some b=>[bu b,.bool I]
   |none=>[bu [],.bool J]):=by
 have h:=Y4 f i g n.a_.length 0 [] (by omega) rfl;rw[n0,bm]at h;have c:aZ (.sV 1 I) []=Z (bu []):=rfl;cases a:mM ez n.aa e.aa n.a_ with
 |none=>
  rw[a]at h;obtain⟨j,d⟩:=h;simp only[af,aO,au,av]at d;refine ct ac7 (by rw[af,aO];rfl) ?_;simp only[go_sem,ac7,af,aO,c,d];rfl
 |some b=>
  rw[a]at h;dsimp only at h;simp only[af,aO,au,av]at h;refine ct ac7 (by rw[af,aO];rfl) ?_;simp only[go_sem,ac7,af,aO,c,h]
end
section
theorem P9:∀(k a:Nat),a < 10 ^ (k+1)->(Lib.decDigits a).length<=k+1
 |k,a,h=>by
  rw[Lib.decDigits];split
  ·simp
  ·cases k with
   |zero=>simp at h;omega
   |succ k=>
    have:=P9 k (a / 10) (by rw[xO]at h;omega);simp only[bh,aH,aJ];omega
theorem abn{n:Int}(h:-1000000000<=n/\n<=1000000000):(yG n).size<=20:=by
 have a:∀l,(bA l).size=l.length:=λl=>by simp[bA,og]
 unfold yG;rw[a];unfold Lib.itoa;split
 ·have:=P9 9 n.natAbs (by omega);simp only[aH];omega
 ·have:=P9 9 n.toNat (by omega);omega
theorem aa0{t:gK}{s v:z}(h:ez t s=Z v):v.size<=s.size+20:=by
 unfold ez Bm nh at h
 split at h
 ·split at h
  ·split at h
   ·rename_i n a
    split at h
    ·cases h;have:=abn (Jq a);omega
    ·cases h
   ·cases h
  ·split at h
   ·split at h
    ·cases h;omega
    ·cases h
   ·split at h
    ·split at h
     ·cases h;unfold mc;split
      ·exact aG (show oy.size<=20 by decide) (Nat.le_add_left _ _)
      ·split
       ·exact aG (show la.size<=20 by decide) (Nat.le_add_left _ _)
       ·omega
     ·cases h
    ·split at h
     ·split at h
      ·cases h;omega
      ·cases h
     ·split at h
      ·split at h
       ·cases h;omega
       ·cases h
      ·split at h
       ·split at h
        ·cases h;omega
        ·cases h
       ·cases h
 ·cases h
theorem aej{n:ah}{e:ck}{v:z}{a:M z}(h:vt ez n e=.inr (v,a)):v.size<=e.aS.size+20:=by
 unfold vt at h;simp only at h
 split at h
 ·cases h
 ·split at h
  ·cases h
  ·split at h
   ·cases h
   ·rename_i w b;have d:kU.size=0:=rfl;have c:w.size<=e.aS.size+20:=by
     split at b
     ·exact aa0 b
     ·cases b;omega
    split at h
    ·split at h
     ·cases h
     ·cases h;omega
    ·cases h;exact c
theorem u9{c:Type}{f:c->M D}{a b:M c}(h:a.Sublist b):bK f a<=bK f b:=by
 induction h with
 |slnil=>exact aD _
 |cons x _ d=>rw[er];omega
 |cons_cons x _ d=>rw[er,er];omega
theorem Ma{b:Type}{f:b->M D}{x:b}:∀{l:M b} {j:Nat} {y:b},nth l j=Z y->bK f (l.set j x)+ee (f y)=bK f l+ee (f x)
 |a::l,0,y,h=>by cases h;rw[jz,er,er];omega
 |a::l,j+1,y,h=>by
  have:=Ma (f:=f) (x:=x) (l:=l) h;rw[lr,er,er];omega
theorem acE(d:M ah)(l:M az)(x:az):bK aU (ko d l x)<=bK aU l+ee (aU x)+1:=by
 have e:l.takeWhile (kD d · x)++l.dropWhile (kD d · x)=l:=kh;have h:=A5 aU (l.takeWhile (kD d · x)) (l.dropWhile (kD d · x));rw[e]at h;unfold ko;split
 ·rename_i y b hd;rw[hd,er]at h;split
  ·rw[A5,er,er];omega
  ·omega
 ·rename_i hd;rw[A5,er];have:bK aU []=0:=rfl;omega
theorem aa5{l:M az}{k:u Nat}:bK aU (vu l k)<=bK aU l:=by
 cases k
 ·exact aD _
 ·exact u9 (fC _ _)
abbrev zE(es:M ck):Nat:=21 * bK cK es
section
variable {oN:M ah->z->M z} {mk:M ah->M az->M ck->Int ⊕ M az} (hm:∀s l es l',mk s l es=.inr l'->bK aU l'<=bK aU l+zE es)
include hm
theorem WS{s:M ah}{n:ah}{l l':M az}{e:ck}{v:z}(c:n.aj=e.aj)(i:v.size<=e.aS.size+20)(h:sv oN mk ko s n l e v=.inr l'):bK aU l'<=bK aU l+21 * (ee (cK e)+1):=by
 have g:bK aU (Be (oN s n.aj) l)<=bK aU l:=u9 rF;have j:bK aU ([]:M az)=0:=rfl;have a:=acE (dk s) (Be (oN s n.aj) l);have b:n.aj.size=e.aj.size:=by rw[c]
 rw[tV];unfold sv at h
 split at h
 ·split at h
  ·cases h
  ·rename_i f d;have:=hm _ _ _ _ d
   split at h
   ·cases h;omega
   ·cases h;refine aG (a _) ?_;rw[fF];simp only[zE]at this ⊢;omega
 ·cases h;refine aG (a _) ?_;rw[fF];simp only
  omega
theorem afl{s:M ah}{n:ah}{l l':M az}{e:ck}{v:z}{j:Nat}{y:az}(c:nth l j=Z y)(g:n.aj=e.aj)(k:v.size<=e.aS.size+20)(h:Cj mk n l e v j y ⟨n.aj,v,y.aa⟩=.inr l'):bK aU l'<=bK aU l+21 * (ee (cK e)+1):=by
 have d:n.aj.size=e.aj.size:=by rw[g]
 rw[tV];unfold Cj at h
 split at h
 ·split at h
  ·cases h
  ·rename_i b i;have:=hm _ _ _ _ i
   split at h
   ·cases h;have:=u9 (f:=aU) (fC l j);omega
   ·cases h;have a:=Ma (f:=aU) (x:=(⟨n.aj,v,b⟩:az)) c;rw[fF,fF]at a;simp only[zE]at this a;show bK aU (l.set j ⟨n.aj,v,b⟩)<=_;omega
 ·cases h;have a:=Ma (f:=aU) (x:=(⟨n.aj,v,y.aa⟩:az)) c;rw[fF,fF]at a;simp only at a
  omega
theorem Q8{s:M ah}{l l':M az}{e:ck}(h:vx ez oN mk ko yM (λn y v=>(⟨n.aj,v,y.aa⟩:az)) s l e=.inr l'):bK aU l'<=bK aU l+21 * (ee (cK e)+1):=by
 unfold vx at h
 split at h
 ·cases h
 ·rename_i n d;obtain⟨_,_,_,c,_⟩:=dy d
  split at h
  ·cases h
  ·rename_i v a g;have b:=aej g;simp only at h
   have i:=aa5 (l:=l) (k:=yM n l v a)
   split at h
   ·cases h
   ·split at h
    ·cases h
    ·split at h
     ·cases h;omega
     ·split at h
      ·have:=WS hm c b h;omega
      ·split at h
       ·exact WS hm c b h
       ·split at h
        ·cases h;omega
        ·rename_i y f;exact afl (s:=s) hm f c b h
end
theorem q_{a:M ah->z->M z}:∀(m:Nat) {s:M ah} {l:M az} {es:M ck} {l':M az},kt ez a m s l es=.inr l'->bK aU l'<=bK aU l+zE es
 |0,_,_,_,_,h=>by cases h
 |m+1,s,l,es,l',h=>by
  unfold kt at h
  induction es generalizing l with
  |nil=>cases h;omega
  |cons e es b=>
   rw[xQ]at h
   split at h
   ·cases h
   ·rename_i d c;have a1:=Q8 (λs l es l' h=>q_ m h) c;have a2:=b _ h;simp only[zE,er]at *;omega
end
section
theorem OP(k:Nat):∀(a b:M ah) (i:Nat),rest k i (a++b)=rest k i a++rest k (i+a.length) b
 |[],b,i=>by simp[rest]
 |e::a,b,i=>by
  rw[au,rest,rest,OP k a b (i+1),bB,aH,show i+1+a.length=i+(a.length+1) by omega]
theorem Jt{k:Nat}{a:M ah}{j:Nat}{c:ah}(h:nth a j=Z c):rest k 0 (a.take (j+1))=rest k 0 (a.take j)++(if j=k then [] else (dk c.aa).map ah.aj):=by
 have b:(a.take j).length=j:=by rw[aY];have:=bp h;omega
 rw[bZ a j c h,OP,b,bo];simp[rest]
theorem aa_(c:ah):(dk c.aa).length<=ee (ax c):=by
 have b:=lN (es:=c.aa);have a:=eh c;simp only[bK]at b a;omega
theorem AV(k:Nat):∀(a:M ah) (j:Nat),(rest k j a).length<=bK ax a/\∀c,j<=k->nth a (k - j)=Z c->(rest k j a).length+ee (ax c)<=bK ax a
 |[],j=>⟨by simp[rest],λc _ h=>by cases h⟩
 |e::a,j=>by
  obtain⟨l,f⟩:=AV k a (j+1);have i:=aa_ e;rw[rest,er];by_cases d:j=k
  ·subst d;simp only[if_pos,av];refine⟨by omega,λc _ b=>?_⟩;rw[mZ]at b;cases b;omega
  ·simp only[if_neg d,bh,ay];refine⟨by omega,λc g b=>?_⟩;rw[show k - j=(k - (j+1))+1 by omega]at b;have:=f c (by omega) b;omega
theorem OI{b:z}:∀{a:M ah} {i k:Nat} {out:M z},xZ a b i=Z (k,out)->∃c,i<=k/\nth a (k - i)=Z c/\xG c.aa b=Z out
 |[],i,k,out,h=>by rw[xZ]at h;cases h
 |c::a,i,k,out,h=>by
  rw[xZ]at h
  split at h
  ·rename_i o e;cases h;exact⟨c,aD _,by rw[mZ];rfl,e⟩
  ·obtain⟨d,j,g,f⟩:=OI h;exact⟨d,by omega,by rw[show k - i=(k - (i+1))+1 by omega];exact g,f⟩
theorem acq(m:Nat):∀(es:M ah),aw es < m->∀{d:z} {out:M z},xG es d=Z out->out.length<=bK ax es:=by
 induction m with
 |zero=>intro es h;omega
 |succ m b=>
  intro es f d out h;cases es with
  |nil=>rw[xG]at h;cases h
  |cons e es=>
   have a:aw es < m:=by simp only[bJ]at f;omega
   rw[er];rw[xG]at h
   split at h
   ·cases h;simp
   ·split at h
    ·split at h
     ·rename_i k o i;cases h;obtain⟨c,_,g,l⟩:=OI i;have j:aw c.aa < m:=by
       have a1:=ah.dL c;have a2:=bj (bc g);have a3:=ah.ig e es;simp only[bJ]at f a3;omega
      have r:=b c.aa j l;have q:=(AV k e.aa 0).2 c (jt _) g;have p:=eh c;have n:=eh e;rw[bh];omega
     ·have:=b es a h;omega
    ·have:=b es a h;omega
theorem Q_{es:M ah}{a:z}{out:M z}(h:xG es a=Z out):out.length<=bK ax es:=acq _ es (aP _) h
theorem TV(es:M ah)(a:z):(fL es a).length<=bK ax es:=by
 unfold fL;cases h:xG es a with
 |none=>simp
 |some out=>exact Q_ h
def wV:u (M z)->M D
 |some out=>[bu out,.bool I]
 |none=>[bu [],.bool J]
theorem rR{d:M ah}{x:Nat}{c:ah}(h:nth d x=Z c):aZ (.el 19) [aB d,E (x:Int)]=Z (.list 0 J [ax c]):=by rw[mu,aX,h];rfl
theorem Y_{s d:M ah}{i k j:Nat}{o:M z}(hd:d.length<=mg)(y:o.length<=134217728)(A:k<=mg)(B:j<=mg) :
  ∃x:Nat,cm (lB G yo) (0,[aB s,E (i:Int),E (k:Int),E (j:Int),E 0,bu o,aB d]) =
   Z (0,[aB s,E (i:Int),E (k:Int),E (j:Int),E (x:Int),.bool J,bu (o++if j=k then [] else d.map ah.aj),aB d]):=by
 by_cases e:j=k
 ·subst e;refine⟨0,bg ?_⟩;cases d with
  |nil=>simp only[go_sem,bG,yo,aK,aJ,n0]
  |cons a d=>
   have n:Z' ((0:Int) < ((d.length+1:Nat):Int))=I:=dzs d.length;simp only[go_sem,bG,yo,aK,n,n0]
 ·refine⟨d.length,?_⟩;have p:Z' ((j:Int)=(k:Int))=J:=by simp only[decide_eq_false_iff_not];omega
  have h:=cN (b:=lB G yo) d (λx t=>(0,[aB s,E (i:Int),E (k:Int),E (j:Int),E (x:Int),bu t,aB d])) (λx=>o++(d.take x).map ah.aj)
   (0,[aB s,E (i:Int),E (k:Int),E (j:Int),E d.length,.bool J,bu (o++d.map ah.aj),aB d]) (by
   intro x c f;have g:=bp f;have m:=wj g hd;have w:=aic f;have v:=jd 19 J (d.map ax) x (by rw[ay];exact g);have r:=mk1 c.aj;have q:=aef (a:=o++(d.take x).map ah.aj) (b:=[c.aj]) (by simp only[mg,bh,ay,aY,aH,aJ]at *;omega);have l:o++(d.take (x+1)).map ah.aj=o++(d.take x).map ah.aj++[c.aj]:=by rw[bZ d x c f,bN,aW,bD,bB]
   rw[l];generalize o++(d.take x).map ah.aj=t at *;simp only[go_sem,bG,yo,g,m,p,w,v,af c,r,q]) (by simp only[go_sem,bG,yo,aC,aR]) d.length 0 (by omega)
  rw[n0,aV,bD,aK]at h;rw[if_neg e,h]
theorem Za{s:M ah}{i k:Nat}{e:ah}{o:M z}(C:nth s i=Z e)(y:bK ax e.aa<=mg)(K:o.length<=mg)(B:k<=mg) :
  cm (lB G FX) (0,[aB s,E (i:Int),E (k:Int),E 0,bu o])=Z (0,[aB s,E (i:Int),E (k:Int),E e.aa.length,.bool J,bu (o++rest k 0 e.aa)]):=by
 have a:e.aa.length<=mg:=by simp only[bK]at y;omega
 have m:=rR C;have h:=cN (b:=lB G FX) e.aa (λj t=>(0,[aB s,E (i:Int),E (k:Int),E (j:Int),bu t])) (λj=>o++rest k 0 (e.aa.take j))
  (0,[aB s,E (i:Int),E (k:Int),E e.aa.length,.bool J,bu (o++rest k 0 e.aa)]) (by
  intro j c f;have n:=bp f;have v:=wj n a;have H:=rR f;have l:bK ax c.aa<=mg:=by have:=cG ax (bc f);have:=eh c;omega
  have F:=q81 l;have p:(dk c.aa).length<=mg:=by have:=lN (es:=c.aa);simp only[bK]at this l;omega
  have A:=(AV k (e.aa.take j) 0).1;have w:=Hj ax e.aa j;rw[Jt f,<- bB];generalize D:o++rest k 0 (e.aa.take j)=t at *;have g:t.length<=134217728:=by rw[<- D,bh];simp only[mg]at *;omega
  obtain⟨x,r⟩:=Y_ (s:=s) (d:=dk c.aa) (i:=i) (k:=k) (j:=j) (o:=t) p g B (by omega);simp only[go_sem,bG,FX,m,af e,n,H,af c,F,r,v]) (by simp only[go_sem,bG,FX,m,af e,aC,aR]) e.aa.length 0 (by omega)
 rw[n0,aV]at h;have q:rest k 0 []=[]:=rfl;rw[q,aK]at h;exact h
theorem Zb{s:M ah}{nm:z}{i:Nat}{e:ah}(j:nth s i=Z e)(h:bK ax e.aa<=mg)(x:∀c∈e.aa,G 89 [aB c.aa,.str nm]=Z (0,wV (xG c.aa nm))):∀m k,k+m=e.aa.length->
  cm (lB G FY) (0,[aB s,.str nm,E (i:Int),.int .i64 (k:Int)])=Z (match xZ (e.aa.drop k) nm k with
   |some (p,out)=>(0,[.bool I,bu (out++rest p 0 e.aa)])
   |none=>(1,[aB s,.str nm,E (i:Int),E e.aa.length,.bool J])):=by
 have b:e.aa.length<=mg:=by simp only[bK]at h;omega
 have f:=rR j;intro m
 induction m with
 |zero=>
  intro k w;obtain rfl:k=e.aa.length:=by omega
  rw[bE,xZ];refine bg ?_;simp only[go_sem,bG,FY,f,af e,aC]
 |succ m r=>
  intro k w;have d:k < e.aa.length:=by omega
  have a1:=cI (l:=e.aa) (i:=k) d;have hd:=eg e.aa k _ a1;generalize e.aa[k]'d=c at a1 hd;have t:=wj d b;have n:=rR a1;have a:=x c (bc a1);rw[hd,xZ];cases g:xG c.aa nm with
  |none=>
   rw[g]at a;simp only[wV]at a;have q:lB G FY (0,[aB s,.str nm,E (i:Int),.int .i64 (k:Int)])=Z (.go (0,[aB s,.str nm,E (i:Int),E ((k+1:Nat):Int)])):=by
    simp only[go_sem,bG,FY,f,af e,d,n,af c,a,t]
   rw[bY q,r (k+1) (by omega)]
  |some out=>
   rw[g]at a;simp only[wV]at a;have v:=Q_ g;have A:bK ax c.aa<=mg:=by have:=cG ax (bc a1);have:=eh c;omega
   have y:=Za (k:=k) (o:=out) j h (by omega) (by omega);refine bg ?_;simp only[go_sem,bG,FY,f,af e,d,n,af c,a,y]
theorem alp(a:Nat):∀(s:M ah),aw s < a->bK ax s<=mg->∀nm:z,G 89 [aB s,.str nm]=Z (0,wV (xG s nm)):=by
 induction a with
 |zero=>intro s h;omega
 |succ a L=>
  intro s N P nm;have o:s.length<=mg:=by simp only[bK]at P;omega
  have Q:∀m i,i+m=s.length->∃r,cm (lB G C0) (0,[aB s,.str nm,.int .i64 (i:Int)])=Z r/\match xG (s.drop i) nm with
    |some out=>r=(1,[.bool I,bu out])\/(out=[]/\r=(0,[.bool I]))
    |none=>r=(2,[aB s,.str nm,E s.length,.bool J]):=by
   intro m
   induction m with
   |zero=>
    intro i R;obtain rfl:i=s.length:=by omega
    rw[bE,xG];refine⟨_,bg ?_,rfl⟩;simp only[go_sem,bG,C0,aC]
   |succ m x=>
    intro i R;have f:i < s.length:=by omega
    have a1:=cI (l:=s) (i:=i) f;have hd:=eg s i _ a1;generalize s[i]'f=e at a1 hd;have y:=wj f o;have v:=rR a1;have d:=q75 e.aq;have F:bK ax e.aa<=mg:=by have:=cG ax (bc a1);have:=eh e;omega
    have S:∀c∈e.aa,aw c.aa < a:=λc n=>by
     have W:=bj (bc a1);have V:=ah.dL e;have U:=bj n;have T:=ah.dL c;omega
    have H:∀c∈e.aa,bK ax c.aa<=mg:=λc n=>by have:=cG ax n;have:=eh c;omega
    have t:=Zb (nm:=nm) a1 F (λc n=>L c.aa (S c n) (H c n) nm) e.aa.length 0 (by omega);rw[n0,bm]at t;obtain⟨r,g,b⟩:=x (i+1) (by omega);rw[hd,xG];by_cases w:kP e.aq=I/\e.aj=nm
    ·rw[if_pos w];refine⟨_,bg ?_,.inr ⟨rfl,rfl⟩⟩;simp only[go_sem,bG,C0,f,v,af e,d,w.1,w.2]
    ·rw[if_neg w];have D:(kP e.aq && Z' (e.aj=nm))=J:=by simpa [pw] using w
     by_cases j:e.aq=5
     ·have q:kP 5=J:=rfl;rw[j]at d;rw[if_pos j];cases C:xZ e.aa nm 0 with
      |some p=>
       obtain⟨k,out⟩:=p;rw[C]at t;refine⟨_,bg ?_,.inl rfl⟩;simp only[go_sem,bG,C0,f,v,af e,j,d,q,t]
      |none=>
       rw[C]at t;refine⟨r,(bY ?_).trans g,b⟩;simp only[go_sem,bG,C0,f,v,af e,j,d,q,t,y]
     ·rw[if_neg j];refine⟨r,(bY ?_).trans g,b⟩;cases A:kP e.aq
      ·rw[A]at d;simp only[go_sem,bG,C0,f,v,af e,j,d,y]
      ·rw[A]at d D;have K:Z' (e.aj=nm)=J:=by simpa using D
       simp only[go_sem,bG,C0,f,v,af e,j,d,K,y]
  obtain⟨r,g,b⟩:=Q s.length 0 (by omega);rw[n0]at g;rw[bm]at b;have N:aZ (.sV 1 I) []=Z (bu []):=rfl;refine ct t89 rfl ?_;cases B:xG s nm with
  |none=>
   rw[B]at b;dsimp only at b;subst b;simp only[go_sem,t89,g,wV];rfl
  |some out=>
   rw[B]at b;rcases b with rfl|⟨rfl,rfl⟩
   ·simp only[go_sem,t89,g,wV]
   ·simp only[go_sem,t89,g,wV];rfl
theorem q89{s:M ah}{nm:z}(a:bK ax s<=mg):G 89 [aB s,.str nm]=Z (0,wV (xG s nm)):=alp _ s (aP _) a nm
end
section
theorem ae7{a:Type}(l:M a):kE l=0\/kE l=1:=by cases l<;>simp[kE]
theorem Ve{d:M ah}{k:Nat}{o:M z}(x:bK ax d<=mg)(F:o.length<=mg)(H:k<=mg) :
  cm (lB G BS) (0,[E (k:Int),aB d,E d.length,E 0,bu o])=Z (0,[E (k:Int),aB d,E d.length,E d.length,.bool J,bu (o++rest k 0 d)]):=by
 have e:d.length<=mg:=by simp only[bK]at x;omega
 have h:=cN (b:=lB G BS) d (λj t=>(0,[E (k:Int),aB d,E d.length,E (j:Int),bu t])) (λj=>o++rest k 0 (d.take j))
  (0,[E (k:Int),aB d,E d.length,E d.length,.bool J,bu (o++rest k 0 d)]) (by
  intro j c g;have i:=bp g;have m:=wj i e;have q:=rR g;have l:bK ax c.aa<=mg:=by have:=cG ax (bc g);have:=eh c;omega
  have p:=q94 l;have r:(dk c.aa).length<=mg:=by have:=lN (es:=c.aa);simp only[bK]at this l;omega
  have D:=q95 r;have y:=(AV k (d.take j) 0).1;have w:=Hj ax d j;rw[Jt g,<- bB];generalize A:o++rest k 0 (d.take j)=t at *;have v:t.length<=134217728:=by rw[<- A,bh];simp only[mg]at *;omega
  have C:=aef (a:=t) (b:=(dk c.aa).map ah.aj) (by simp only[mg,ay]at *;omega);by_cases f:j=k
  ·subst f;rw[if_pos rfl,aK];simp only[go_sem,bG,BS,i,q,af c,m]
  ·have B:Z' ((j:Int)=(k:Int))=J:=by simp only[decide_eq_false_iff_not];omega
   rw[if_neg f];rcases ae7 (dk c.aa) with n|n<;>rw[n]at p<;>simp only[go_sem,bG,BS,i,q,af c,B,p,D,C,m]) (by simp only[go_sem,bG,BS,aC,aR]) d.length 0 (by omega)
 rw[n0,aV]at h;have s:rest k 0 []=[]:=rfl;rw[s,aK]at h;exact h
theorem Vf{s:M ah}{nm:z}{i:Nat}{e:ah}(g:bK ax e.aa<=mg)(v:∀c∈e.aa,G 105 [aB c.aa,.str nm]=Z (0,wV (xG c.aa nm))):∀m k,k+m=e.aa.length->
  cm (lB G BT) (0,[.str nm,aB s,E s.length,E (i:Int),aB e.aa,E e.aa.length,.int .i64 (k:Int)]++ax e)=Z (match xZ (e.aa.drop k) nm k with
   |some (j,out)=>(0,[.bool I,bu (out++rest j 0 e.aa)])
   |none=>(1,[.str nm,aB s,E s.length,E (i:Int),aB e.aa,E e.aa.length,E e.aa.length,.bool J]++ax e)):=by
 have b:e.aa.length<=mg:=by simp only[bK]at g;omega
 intro m
 induction m with
 |zero=>
  intro k t;obtain rfl:k=e.aa.length:=by omega
  rw[bE,xZ];refine bg ?_;simp only[go_sem,bG,BT,af e,aC]
 |succ m p=>
  intro k t;have d:k < e.aa.length:=by omega
  have a1:=cI (l:=e.aa) (i:=k) d;have hd:=eg e.aa k _ a1;generalize e.aa[k]'d=c at a1 hd;have q:=wj d b;have h:=rR a1;have a:=v c (bc a1);rw[hd,xZ];cases f:xG c.aa nm with
  |none=>
   rw[f]at a;simp only[wV]at a;have n:lB G BT (0,[.str nm,aB s,E s.length,E (i:Int),aB e.aa,E e.aa.length,.int .i64 (k:Int)]++ax e)=Z (.go (0,[.str nm,aB s,E s.length,E (i:Int),aB e.aa,E e.aa.length,E ((k+1:Nat):Int)]++ax e)):=by
    simp only[go_sem,bG,BT,af e,d,h,af c,a,q]
   rw[bY n,p (k+1) (by omega)]
  |some out=>
   rw[f]at a;simp only[wV]at a;have r:=Q_ f;have x:bK ax c.aa<=mg:=by have:=cG ax (bc a1);have:=eh c;omega
   have w:=Ve (k:=k) (o:=out) g (by omega) (by omega);refine bg ?_;simp only[go_sem,bG,BT,af e,d,h,af c,a,w]
theorem afS(a:Nat):∀(s:M ah),aw s < a->bK ax s<=mg->∀nm:z,G 105 [aB s,.str nm]=Z (0,wV (xG s nm)):=by
 induction a with
 |zero=>intro s h;omega
 |succ a L=>
  intro s S N nm;have q:s.length<=mg:=by simp only[bK]at N;omega
  have P:∀m i,i+m=s.length->∃r,cm (lB G wD) (0,[.str nm,aB s,E s.length,.int .i64 (i:Int)])=Z r/\match xG (s.drop i) nm with
    |some out=>r=(1,[.bool I,bu out])\/(out=[]/\r=(0,[.bool I]))
    |none=>r=(2,[.str nm,aB s,E s.length,E s.length,.bool J]):=by
   intro m
   induction m with
   |zero=>
    intro i Q;obtain rfl:i=s.length:=by omega
    rw[bE,xG];refine⟨_,bg ?_,rfl⟩;simp only[go_sem,bG,wD,aC]
   |succ m x=>
    intro i Q;have f:i < s.length:=by omega
    have a1:=cI (l:=s) (i:=i) f;have hd:=eg s i _ a1;generalize s[i]'f=e at a1 hd;have y:=wj f q;have v:=rR a1;have d:=AP e.aq;have F:bK ax e.aa<=mg:=by have:=cG ax (bc a1);have:=eh e;omega
    have R:∀c∈e.aa,aw c.aa < a:=λc o=>by
     have W:=bj (bc a1);have V:=ah.dL e;have U:=bj o;have T:=ah.dL c;omega
    have H:∀c∈e.aa,bK ax c.aa<=mg:=λc o=>by have:=cG ax o;have:=eh c;omega
    have n:=Vf (s:=s) (i:=i) (nm:=nm) F (λc o=>L c.aa (R c o) (H c o) nm) e.aa.length 0 (by omega);rw[n0,bm]at n;simp only[af e,au,av]at n;obtain⟨r,g,b⟩:=x (i+1) (by omega);rw[hd,xG];by_cases w:kP e.aq=I/\e.aj=nm
    ·rw[if_pos w];refine⟨_,bg ?_,.inr ⟨rfl,rfl⟩⟩;simp only[go_sem,bG,wD,f,v,af e,d,w.1,w.2]
    ·rw[if_neg w];have D:(kP e.aq && Z' (e.aj=nm))=J:=by simpa [pw] using w
     by_cases j:e.aq=5
     ·have t:kP 5=J:=rfl;rw[j]at d n;rw[if_pos j];cases C:xZ e.aa nm 0 with
      |some p=>
       obtain⟨k,out⟩:=p;rw[C]at n;refine⟨_,bg ?_,.inl rfl⟩;simp only[go_sem,bG,wD,f,v,af e,j,d,t,n]
      |none=>
       rw[C]at n;refine⟨r,(bY ?_).trans g,b⟩;simp only[go_sem,bG,wD,f,v,af e,j,d,t,n,y]
     ·rw[if_neg j];refine⟨r,(bY ?_).trans g,b⟩;cases A:kP e.aq
      ·rw[A]at d;simp only[go_sem,bG,wD,f,v,af e,j,d,y]
      ·rw[A]at d D;have K:Z' (e.aj=nm)=J:=by simpa using D
       simp only[go_sem,bG,wD,f,v,af e,j,d,K,y]
  obtain⟨r,g,b⟩:=P s.length 0 (by omega);rw[n0]at g;rw[bm]at b;refine ct t105 rfl ?_;cases B:xG s nm with
  |none=>
   rw[B]at b;dsimp only at b;subst b;simp only[go_sem,t105,g,wV];rfl
  |some out=>
   rw[B]at b;rcases b with rfl|⟨rfl,rfl⟩
   ·simp only[go_sem,t105,g,wV]
   ·simp only[go_sem,t105,g,wV];rfl
theorem anH{s:M ah}{nm:z}(a:bK ax s<=mg):G 105 [aB s,.str nm]=Z (0,wV (xG s nm)):=afS _ s (aP _) a nm
end
section
theorem dt:(⟨([]:M UInt8).toArray⟩:z)=kU:=(rfl)
theorem Te(l:M ck):Z' ((0:Int) < (l.length:Int))=!l.isEmpty:=by cases l<;>simp<;>omega
theorem Ph{t:gK}{l:M D}:ew t++l=E t.aq::fU t.ranges::bu t.names::.str t.pattern::.str t.path::l:=by simp only[ew,au,av]
theorem aoL{n:ah}{e:ck}(r:ee (ax n)<=mg)(w:e.aS.size<=mg)(A:bK cK e.aa<=mg)(x:n.aq=2->CL n) :
  G 348 (ax n++cK e)=Z (0,match vt ez n e with
   | .inl c=>[.str kU,bu [],E c]
   | .inr (v,key)=>[.str v,bu key,E 0]):=by
 have g:=C8 e.op 1 5;have l:=akz (t:=n.type) (s:=e.aS) (aG (Di n) r) w;have k:n.aq=2->_:=λh=>aoK (n:=n) (e:=e) r A (x h);rw[Ph]at l;have i:=Te e.aa;refine ct DD (by rw[af,aO];rfl) ?_;unfold vt;simp only[af,aO,au,av]at k;generalize y:e.aa.isEmpty=em at *;generalize B:fO 1 5 e.op=b at *;by_cases f:n.aq=3
 ·have a:¬(3:Int)=4:=by decide
  have d:¬(3:Int)=2:=by decide
  cases em
  ·simp only[go_sem,DD,af,aO,f,i,dt,iT]
  ·cases b
   ·simp only[go_sem,DD,af,aO,f,i,g,dt,iT]
   ·by_cases p:e.op < 4
    ·cases o:ez n.type e.aS<;>rw[o]at l<;>simp only[gz]at l<;>simp only[go_sem,DD,af,aO,f,a,d,i,g,l,p,dt,iT]<;>simp[f,p,o,kU]
    ·simp only[go_sem,DD,af,aO,f,a,d,i,g,p,dt,iT]
 ·by_cases a:n.aq=4
  ·have j:¬(4:Int)=3:=by decide
   have d:¬(4:Int)=2:=by decide
   cases em
   ·simp only[go_sem,DD,af,aO,a,j,i,dt,iT]
   ·cases b
    ·simp only[go_sem,DD,af,aO,a,j,i,g,dt,iT]
    ·cases o:ez n.type e.aS<;>rw[o]at l<;>simp only[gz]at l<;>simp only[go_sem,DD,af,aO,a,j,d,i,g,l,dt,iT]<;>simp[a,o,kU]
  ·by_cases m:e.aS=kU
   ·cases b
    ·simp only[go_sem,DD,af,aO,f,a,m,g,dt,iT]
    ·by_cases d:n.aq=2
     ·have k:=k d;cases q:mM ez n.aa e.aa n.a_<;>rw[q,d]at k<;>rw[m]at k<;>dsimp only at k<;>simp only[go_sem,DD,af,aO,d,m,g,k,dt,iT]<;>simp[d,m,q,kU]
     ·simp only[go_sem,DD,af,aO,f,a,d,m,g,dt,iT]
   ·simp only[go_sem,DD,af,aO,f,a,m,dt,iT]
end
section
def mO:Int ⊕ M az->M D
 | .inl c=>[.list 3 J [],.int .i64 c]
 | .inr l=>[aE l,.int .i64 0]
theorem AH(r:Int ⊕ M az):∃a b,mO r=[a,b]:=by cases r<;>exact⟨_,_,rfl⟩
def Orc(f:Nat)(mk:M ah->M az->M ck->Int ⊕ M az)(n:ah)(a:M az)(es:M ck):Prop:=
 G f [aB n.aa,aE a,dm es]=Z (0,mO (mk n.aa a es))/\(∀c,mk n.aa a es=.inl c->c≠0)/\∀b,mk n.aa a es=.inr b->b.length<=mg
theorem TW(s:M ah)(a:z):∃b,wV (xG s a)=[bu (fL s a),.bool b]:=by
 unfold fL;cases xG s a with
 |none=>exact⟨J,rfl⟩
 |some out=>exact⟨I,rfl⟩
theorem Kd.aj{d:M ah}{x y:az}(h:Kd d x)(e:y.aj=x.aj):Kd d y:=by unfold Kd at *;rw[e];exact h
theorem dN0:aE []=.list 3 J []:=(rfl)
theorem alh{s:M ah}{n:ah}{l:M az}{e:ck}{v:z}{mk:M ah->M az->M ck->Int ⊕ M az}
  (m:bK ax s<=mg) (D:bK aU l<=mg) (U:∀y∈l,Kd (dk s) y) (N:∀a,Kd (dk s) ⟨n.aj,v,a⟩) (P:(n.aq=1\/n.aq=2)->Orc 353 mk n [] e.aa) :
  G 352 ([aB s]++ax n++[aE l]++cK e++[.str v])=Z (0,mO (sv fL mk ko s n l e v)):=by
 have H:l.length<=mg:=by simp only[bK]at D;omega
 obtain⟨b,R⟩:=TW s n.aj;have j:=q89 (nm:=n.aj) m;rw[R]at j;have r:=q81 m;have q:=aoM (l:=l) (ns:=fL s n.aj) H (aG (TV s n.aj) m);have L:bK aU (Be (fL s n.aj) l)<=mg:=aG (u9 rF) D;have t:∀y∈Be (fL s n.aj) l,Kd (dk s) y:=λy K=>U y (nE.1 K).1;have F:=λ(a:M az) (h:a.length<=mg)=>aoN (x:=⟨n.aj,v,a⟩) (aG lN m) L h t (N a);refine ct RH (by rw[af,aO];rfl) ?_;unfold sv;generalize Be (fL s n.aj) l=w at *;have W:=npN;by_cases i:n.aq=1\/n.aq=2
 ·rw[if_pos i];obtain⟨f,T,S⟩:=P i;rw[dN0]at f;cases o:mk n.aa [] e.aa with
  |inl c=>
   rw[o]at f;have Q:Z' (c=0)=J:=by simpa using T c o
   rcases i with d|d<;>simp only[go_sem,RH,af,aO,j,d,f,mO,Q]
  |inr a=>
   rw[o]at f;obtain⟨C,g⟩:=F a (S a o);simp only[aN,au,av]at g;have V:=npN n.aj v a;have k:∀l,aZ .Ww [aE l,.bool C]=Z (.bool J):=λl=>rfl;dsimp only;by_cases p:n.aq=1/\n.df=J/\a=[]
   ·rw[if_pos p];obtain⟨d,B,rfl⟩:=p;simp only[go_sem,RH,af,aO,j,d,B,f,mO,aJ,de0]
   ·rw[if_neg p];rcases i with d|d
    ·cases A:n.df
     ·cases a with
      |nil=>exact absurd ⟨d,A,rfl⟩ p
      |cons y a=>simp only[go_sem,RH,af,aO,j,d,A,f,mO,aH,Pu,r,q,g,k]
     ·simp only[go_sem,RH,af,aO,j,d,A,f,mO,r,q,g,k]
    ·simp only[go_sem,RH,af,aO,j,d,f,mO,r,q,g,k]
 ·rw[if_neg i];simp only[not_or]at i;obtain⟨d,B⟩:=i;obtain⟨C,g⟩:=F [] (by simp[mg]);simp only[aN,au,av]at g;rw[dN0]at g;have k:∀l,aZ .Ww [aE l,.bool C]=Z (.bool J):=λl=>rfl;simp only[go_sem,RH,af,aO,j,d,B,mO,r,q,g,k]
theorem P6{n:ah}{e:ck}{c:Int}(h:vt ez n e=.inl c):c≠0:=by
 unfold vt at h;simp only at h
 split at h
 ·cases h;decide
 ·split at h
  ·cases h;decide
  ·split at h
   ·cases h;decide
   ·split at h
    ·split at h
     ·cases h;decide
     ·cases h
    ·cases h
theorem aa1{n:ah}{e:ck}{v:z}{a:M z}(h:vt ez n e=.inr (v,a)):a.length<=n.a_.length:=by
 unfold vt at h;simp only at h
 split at h
 ·cases h
 ·split at h
  ·cases h
  ·split at h
   ·cases h
   ·split at h
    ·split at h
     ·cases h
     ·rename_i b;cases h;rw[(wB b).1];exact aD _
    ·cases h;simp
theorem alz{l:M az}{j:Nat}(h:j < l.length)(a b:z)(c:M az):aZ (.set 0) [aE l,E (j:Int),.str a,.str b,aE c]=Z (aE (l.set j ⟨a,b,c⟩)):=by
 simp only[aZ,bW,aX,cI h,aQ,gG,aH,aJ];rw[if_pos ⟨by omega,by simp⟩];show _=Z (D.list 3 J ((l.set j ⟨a,b,c⟩).map aU));rw[rK,aN ⟨a,b,c⟩,aN];rfl
theorem N1{n:ah}{l:M az}{v:z}{a:M z}{j:Nat}(h:yM n l v a=Z j):∃y,nth l j=Z y/\y.aj=n.aj:=by
 obtain⟨y,c,b⟩:=du h;simp only[ai,decide_eq_true_eq]at b;exact⟨y,c,b.1⟩
theorem Zz{oN:M ah->z->M z}{s:M ah}{l:M az}{e:ck}{mk:M ah->M az->M ck->Int ⊕ M az}
  (k:∀n,dQ s e.aj=Z n->(n.aq=1\/n.aq=2)->∀d,(d=[]\/∃y∈l,y.aj=n.aj/\d=y.aa)->∀c,mk n.aa d e.aa=.inl c->c≠0) {c:Int}
  (h:vx ez oN mk ko yM (λn y v=>(⟨n.aj,v,y.aa⟩:az)) s l e=.inl c):c≠0:=by
 have o:∀{n g v},dQ s e.aj=Z n->sv oN mk ko s n g e v=.inl c->c≠0:=by
  intro n g v b h;unfold sv at h
  split at h
  ·rename_i f
   split at h
   ·rename_i m a;cases h;exact k n b f [] (.inl rfl) _ a
   ·split at h<;>cases h
  ·cases h
 unfold vx at h
 split at h
 ·cases h;decide
 ·rename_i n b
  split at h
  ·rename_i m a;cases h;exact P6 a
  ·rename_i v p a;simp only at h
   split at h
   ·cases h;decide
   ·split at h
    ·cases h;decide
    ·split at h
     ·cases h
     ·split at h
      ·exact o b h
      ·split at h
       ·exact o b h
       ·rename_i j q;obtain⟨y,i,r⟩:=N1 q;rw[i]at h;simp only at h
        unfold Cj at h
        split at h
        ·rename_i f
         split at h
         ·rename_i m a;cases h;exact k n b f y.aa (.inr ⟨y,bc i,r,rfl⟩) _ a
         ·split at h<;>cases h
        ·cases h
theorem ge0(j:Nat):Z' ((0:Int)<=(j:Int))=I:=by simp
end
section
theorem aoO{s:M ah}{l:M az}{e:ck}{mk:M ah->M az->M ck->Int ⊕ M az}
  (U:bK ax s<=mg) (W:bK aU l<=mg) (he:ee (cK e)<=mg) (DT:∀y∈l,Kd (dk s) y) (hki:∀n,dQ s e.aj=Z n->n.aq=2->CL n)
  (hg:∀n,dQ s e.aj=Z n->(n.aq=1\/n.aq=2)->∀l0,(l0=[]\/∃y∈l,y.aj=n.aj/\l0=y.aa)->Orc 353 mk n l0 e.aa) :
  G 354 ([aB s,aE l]++cK e)=Z (0,mO (vx ez fL mk ko yM (λn y v=>(⟨n.aj,v,y.aa⟩:az)) s l e)):=by
 have vE:l.length<=mg:=by simp only[bK]at W;omega
 have Pw:bK ax (dk s)<=mg:=aG lN U;have qw:(dk s).length<=mg:=by simp only[bK]at Pw;omega
 have i:=q81 U;have f:=ZP (l:=dk s) (nm:=e.aj) qw;rw[tV]at he;refine ct vy (by rw[aO];rfl) ?_;cases N:dC (dk s) e.aj with
 |none=>
  have R:dQ s e.aj=O:=by simp only[dQ,N]
  rw[N]at f;unfold vx;rw[R];simp only[go_sem,vy,aO,i,f,ij,mO,n_]
 |some j=>
  obtain⟨n,V,hnn⟩:=du N;have R:dQ s e.aj=Z n:=by simp only[dQ,N,V]
  have YC:n.aj=e.aj:=by simpa using hnn
  have sH:ee (ax n)<=mg:=by have:=cG ax (bc V);omega
  rw[N]at f;have c1:=jd 19 J ((dk s).map ax) j (by rw[ay];exact bp V);have o:=Ni V;have b:=aoL (n:=n) (e:=e) sH (by omega) (by omega) (hki n R);simp only[af,aO,au,av]at b;have m:=Vb j;unfold vx;rw[R];dsimp only;cases X:vt ez n e with
  |inl c=>
   rw[X]at b;have SY:Z' (c=0)=J:=by simpa using P6 X
   simp only[go_sem,vy,af,aO,i,f,ij,m,c1,o,b,SY,mO,n_]
  |inr p=>
   obtain⟨v,key⟩:=p;rw[X]at b;have Q:key.length<=mg:=aG (aa1 X) (mT sH);have d:=ak4 (n:=n) (l:=l) (v:=v) (key:=key) sH W Q;simp only[af,au,av]at d;have T:∀K,Kd (dk s) ⟨n.aj,v,K⟩:=λK=>⟨j,by rw[YC];exact N⟩
   have U0:=hg n R;dsimp only;cases hi:yM n l v key with
   |none=>
    rw[hi]at d;have H:G 349 [aE l,E (-1)]=Z (0,[aE l]):=agv;have A:=alh (v:=v) U W DT T (λh=>U0 h [] (.inl rfl));obtain⟨ra,rb,C⟩:=AH (sv fL mk ko s n l e v);rw[C]at A;simp only[af,aO,au,av]at A;by_cases q:e.op=4
    ·rw[q]at b;simp only[go_sem,vy,af,aO,i,f,ij,m,c1,o,b,d,q,mO,n_]
     try simp[mO]
    by_cases r:e.op=5
    ·rw[r]at b;simp only[go_sem,vy,af,aO,i,f,ij,m,c1,o,b,d,r,H,mO,n_]
     try simp[vu]
    by_cases w:e.op=2
    ·rw[w]at b A;simp only[go_sem,vy,af,aO,i,f,ij,m,c1,o,b,d,w,H,A,n_];simp[vu,C]
    by_cases t:e.op=3
    ·rw[t]at b A;simp only[go_sem,vy,af,aO,i,f,ij,m,c1,o,b,d,t,A,n_];simp[C]
    ·simp only[go_sem,vy,af,aO,i,f,ij,m,c1,o,b,d,w,t,q,r,A,n_];simp[C]
   |some k=>
    rw[hi]at d;obtain⟨y,L,QL⟩:=N1 hi;have Q:=bp L;have B:=Vb k;have xT:=ge0 k;have H:=agw Q vE;have hcz:bK aU (l.eraseIdx k)<=mg:=aG (u9 (fC l k)) W;have A:=alh (v:=v) U hcz (λy L=>DT y ((fC l k).subset L)) T (λh=>U0 h [] (.inl rfl));obtain⟨ra,rb,C⟩:=AH (sv fL mk ko s n (l.eraseIdx k) e v);rw[C]at A;simp only[af,aO,au,av]at A;by_cases t:e.op=3
    ·rw[t]at b;simp only[go_sem,vy,af,aO,i,f,ij,m,c1,o,b,d,t,xT,mO,n_]
     try simp[mO]
    by_cases q:e.op=4
    ·rw[q]at b;simp only[go_sem,vy,af,aO,i,f,ij,m,c1,o,b,d,q,B,H,mO,n_]
     try simp[vu]
    by_cases r:e.op=5
    ·rw[r]at b;simp only[go_sem,vy,af,aO,i,f,ij,m,c1,o,b,d,r,H,mO,n_]
     try simp[vu]
    by_cases w:e.op=2
    ·rw[w]at b A;simp only[go_sem,vy,af,aO,i,f,ij,m,c1,o,b,d,w,H,A,n_];simp[vu,C]
    have P:=iI L;have b1:aZ (.app 3 56) [aE [],aE l]=Z (aE l):=Dl (a:=[]) (by simp only[mg,aJ]at *;omega);have b2:=jd 3 J (l.map aU) k (by rw[ay];exact Q);have b3:=alz Q n.aj v;have zy:¬(e.op=3/\(Z k).isSome=I):=λh=>t h.1;have NV:¬(e.op=4/\Z k=O):=λh=>q h.1;have hn3:¬(e.op=4\/e.op=5):=λh=>h.elim q r;rw[if_neg zy,if_neg NV,if_neg hn3,if_neg w];dsimp only;rw[L];dsimp only;unfold Cj;by_cases D:n.aq=1\/n.aq=2
    ·rw[if_pos D];obtain⟨F,g2,g4⟩:=U0 D y.aa (.inr ⟨y,bc L,QL,rfl⟩);cases hm:mk n.aa y.aa e.aa with
     |inl c=>
      rw[hm]at F;have SY:Z' (c=0)=J:=by simpa using g2 c hm
      rcases D with g|g<;>rw[g]at b d<;>simp only[go_sem,vy,af,aO,i,f,ij,m,c1,o,b,d,w,t,q,r,B,P,aN y,g,F,SY,mO,n_]
     |inr K=>
      rw[hm]at F;dsimp only;by_cases Y:n.aq=1/\n.df=J/\K=[]
      ·rw[if_pos Y];obtain⟨g,h2,rfl⟩:=Y;rw[g,h2]at b d;simp only[go_sem,vy,af,aO,i,f,ij,m,c1,o,b,d,w,t,q,r,B,P,aN y,g,h2,F,mO,n_,aJ,de0,H]
      ·rw[if_neg Y];rcases D with g|g
       ·cases S:n.df
        ·cases K with
         |nil=>exact absurd ⟨g,S,rfl⟩ Y
         |cons x K=>
          rw[g,S]at b d;simp only[go_sem,vy,af,aO,i,f,ij,m,c1,o,b,d,w,t,q,r,B,P,aN y,g,S,F,mO,n_,aH,Pu,mo,b1,b2,b3]
        ·rw[g,S]at b d;simp only[go_sem,vy,af,aO,i,f,ij,m,c1,o,b,d,w,t,q,r,B,P,aN y,g,S,F,mO,n_,mo,b1,b2,b3]
       ·rw[g]at b d;simp only[go_sem,vy,af,aO,i,f,ij,m,c1,o,b,d,w,t,q,r,B,P,aN y,g,F,mO,n_,mo,b1,b2,b3]
    ·rw[if_neg D];simp only[not_or]at D;obtain⟨g,h2⟩:=D;simp only[go_sem,vy,af,aO,i,f,ij,m,c1,o,b,d,w,t,q,r,B,P,aN y,g,h2,mO,n_,mo,b1,b2,b3]
end
section
def Sok:Nat->M ah->Prop
 |0,_=>True
 |m+1,s=>∀n∈dk s,(n.aq=2->CL n)/\((n.aq=1\/n.aq=2)->Sok m n.aa)
theorem WN{i:z->Bool}{mt:z->z->Bool}:∀(m:Nat) {N:Nat} {s:M ah} {k:Int} {f:Bool} {deep:Nat},sM i mt N s k f deep=I->Sok m s
 |0,_,_,_,_,_,_=>trivial
 |m+1,N,s,k,f,deep,h=>λn l=>by
  obtain⟨t,q,r,d,o⟩:=Nc _ (aP _) h n l;refine⟨λb=>?_,λ_=>WN m o⟩;unfold wQ j7 at d;simp only[b,ai]at d;have g:=d.2;have p:¬(2:Int)=1:=by decide
  simp only[p,if_false,if_true,C2,sW,ai]at g;intro k b;have a:=bw.1 g.1 k b;unfold BP wC at a;cases c:dC n.aa k with
  |none=>rw[c]at a;cases a
  |some j=>
   obtain⟨x,e,_⟩:=du c;rw[c]at a;simp only[e,ai,decide_eq_true_eq]at a;exact⟨j,x,rfl,e,a.1⟩
section
variable {m:Nat} {s:M ah} {l:M az} {e:ck} {n:ah}
theorem Y2(g:Wl (m+1) s l)(c:dQ s e.aj=Z n)(d:n.aq=1\/n.aq=2){a:M az}(h:a=[]\/∃y∈l,y.aj=n.aj/\a=y.aa):Wl m n.aa a:=by
 rcases h with rfl|⟨y,f,o,rfl⟩
 ·exact PN m n.aa
 ·obtain⟨k,a1,a2,a3,a4⟩:=dy c;obtain⟨i,p,c1,b,j,_⟩:=g.1 y f;rw[o,a3,a1]at c1;cases c1;rw[a2]at b;cases b;exact (j d).2
theorem abJ{es:M ck}(f:bK aU l+zE es<=mg)(c:e∈es){a:M az}(h:a=[]\/∃y∈l,y.aj=n.aj/\a=y.aa):bK aU a+zE e.aa<=mg:=by
 have d:=cG cK c;rw[tV]at d;have g:bK aU a<=bK aU l:=by
  rcases h with rfl|⟨y,b,_,rfl⟩
  ·exact jt _
  ·have:=cG aU b;rw[fF]at this;omega
 simp only[zE]at *;omega
theorem aj0(b:bK ax s<=mg)(a:dQ s e.aj=Z n):bK ax n.aa<=mg:=by
 obtain⟨k,a1,a2,a3,a4⟩:=dy a;have f:=cG ax a4;have d:=eh n;have c:=lN (es:=s);omega
theorem adB{es:M ck}(a:e∈es)(b:aw es < m+1):aw e.aa < m:=by
 have d:=bj a;have c:=ck.dL e;omega
theorem Wl.kd(b:Wl (m+1) s l):∀y∈l,Kd (dk s) y:=λy a=>by
 obtain⟨k,n,h,_⟩:=b.1 y a;exact⟨k,h⟩
end
def Mk(f:Nat)(mk:Nat->M ah->M az->M ck->Int ⊕ M az)(m:Nat):Prop:=∀(s:M ah) (l:M az) (es:M ck),aw es < m->bK ax s<=mg->bK aU l+zE es<=mg->Hs fL m s->Sok m s->Wl m s l->
 G f [aB s,aE l,dm es]=Z (0,mO (mk m s l es))/\∀c,mk m s l es=.inl c->c≠0
theorem ZB{f:Nat}{mk:Nat->M ah->M az->M ck->Int ⊕ M az}{m:Nat}(A:Mk f mk m)(j:∀s l es,Hs fL m s->Wl m s l->mk m s l es=kt ez fL m s l es){s:M ah}{l:M az}{e:ck}{n:ah}{es:M ck}(x:e∈es)(p:aw e.aa < m)(r:bK ax s<=mg)(t:bK aU l+zE es<=mg)(w:Hs fL (m+1) s)(v:Sok (m+1) s)(q:Wl (m+1) s l)
  (d:dQ s e.aj=Z n) (g:n.aq=1\/n.aq=2) {a:M az} (h:a=[]\/∃y∈l,y.aj=n.aj/\a=y.aa):Orc f (mk m) n a e.aa:=by
 obtain⟨k,a1,a2,a3,a4⟩:=dy d;have i:=abJ t x h;have c:=(w n a4).2 g;have b:=Y2 q d g h;obtain⟨C,B⟩:=A n.aa a e.aa p (aj0 r d) i c ((v n a4).2 g) b;refine⟨C,B,λD o=>?_⟩;rw[j n.aa a e.aa c b]at o;have:=q_ m o;simp only[bK,zE]at *;omega
theorem ZN:∀m,Mk 353 (kt ez fL) m
 |0=>λs l es h=>by omega
 |m+1=>λs l es V L f P N p=>by
  have q:es.length<=mg:=by simp only[bK,zE]at f;omega
  have loop:∀r i l,i+r=es.length->bK aU l+zE (es.drop i)<=mg->Wl (m+1) s l->∃o,cm (lB G FQ) (0,[aB s,aE l,dm es,.int .i64 (i:Int)])=Z o/\match xQ (yX ez fL m) s l (es.drop i) with
    | .inl c=>c≠0/\o=(0,[.list 3 J [],E c])
    | .inr l'=>o=(1,[aB s,aE l',dm es,E es.length,.bool J]):=by
   intro r
   induction r with
   |zero=>
    intro i l X _ _;obtain rfl:i=es.length:=by omega
    rw[bE];refine⟨_,bg ?_,rfl⟩;simp only[go_sem,bG,FQ,aC]
   |succ r U=>
    intro i l X f p;have w:i < es.length:=by omega
    have a1:=cI (l:=es) (i:=i) w;have hd:=eg es i _ a1;generalize es[i]'w=e at a1 hd;have C:=wj w q;have R:=EH a1;have D:bK aU l<=mg:=by omega
    rw[hd]at f ⊢;have F:ee (cK e)<=mg:=by simp only[zE,er]at f;omega
    have S:∀n,dQ s e.aj=Z n->(n.aq=1\/n.aq=2)->∀b,(b=[]\/∃y∈l,y.aj=n.aj/\b=y.aa)->Orc 353 (kt ez fL m) n b e.aa:=
     λn j B b H=>ZB (ZN m) (λ_ _ _ _ _=>rfl) bQ (adB (bc a1) V) L f P N p j B H
    have g:=aoO (mk:=kt ez fL m) L D F p.kd (λn j=>by obtain⟨k,b1,b2,b3,b4⟩:=dy j;exact (N n b4).1) S;have K:∀c,yX ez fL m s l e=.inl c->c≠0:=λc=>Zz (oN:=fL) λn j B b H=>(S n j B b H).2.1;have cU:=Q7 (tL (can:=ez) m) P p e;have T:=λl' h=>Q8 (oN:=fL) (mk:=kt ez fL m) (λs l es l' h=>q_ m h) (s:=s) (l:=l) (l':=l') (e:=e) h;simp only[aO,au,av]at g;rw[xQ];have x:yX ez fL m s l e=vx ez fL (kt ez fL m) ko yM (λn y v=>(⟨n.aj,v,y.aa⟩:az)) s l e:=rfl;rw[<- x]at g;cases d:yX ez fL m s l e with
    |inl c=>
     rw[d]at g;have SY:Z' (c=0)=J:=by simpa using K c d
     refine⟨_,bg ?_,K c d,rfl⟩;simp only[go_sem,bG,FQ,w,R,aO e,g,mO,SY]
    |inr A=>
     rw[d]at g;have W:=T A (by rw[<- x];exact d);obtain⟨o,t,a⟩:=U (i+1) A (by omega) (by simp only[zE,er]at *;omega) (cU.2 A d).1;refine⟨o,(bY ?_).trans t,a⟩;simp only[go_sem,bG,FQ,w,R,aO e,g,mO,C]
  obtain⟨o,t,a⟩:=loop es.length 0 l (by omega) (by simpa using f) p;rw[n0]at t;rw[bm]at a;have x:kt ez fL (m+1) s l es=xQ (yX ez fL m) s l es:=rfl;rw[x];cases Q:xQ (yX ez fL m) s l es with
  |inl c=>
   rw[Q]at a;obtain⟨Y,rfl⟩:=a;refine⟨ct ac9 rfl ?_,λc' h=>by cases h;exact Y⟩;simp only[go_sem,ac9,t,mO]
  |inr l'=>
   rw[Q]at a;dsimp only at a;subst a;refine⟨ct ac9 rfl ?_,λc' h=>by cases h⟩;simp only[go_sem,ac9,t,mO]
end
section
noncomputable def HX(n:ah)(e:ck):Int ⊕ z:=
 let row:=Z' (n.aq=3) ||decide (n.aq=4)
 if ((!row && !Z' (e.aS=kU)) ||(row && !e.aa.isEmpty))=I then .inl 2
 else if (!fO 1 5 e.op)=I then .inl 3
 else match (if (Z' (n.aq=4) ||(Z' (n.aq=3) && Z' (e.op < 4)))=I then ez n.type e.aS else Z kU) with
  |none=>.inl 7
  |some v=>.inr v
theorem Sk(n:ah)(e:ck):vt ez n e=match HX n e with
  | .inl c=>.inl c
  | .inr v=>if n.aq=2 then (match mM ez n.aa e.aa n.a_ with
   |none=>.inl 4
   |some a=>.inr (kU,a)) else .inr (v,[]):=by
 unfold vt HX;simp only
 split
 ·rfl
 ·split
  ·rfl
  ·split
   ·first|rfl|(rename_i b;rw[b])
   ·first|rfl|(rename_i b;rw[b];rfl)
def Cs(r:Int ⊕ z):Int:=match r with
 | .inl c=>c
 | .inr _=>0
theorem acN{n:ah}{e:ck}:G 358 (ax n++[.bool J]++cK e)=Z (0,[E 2]):=by
 refine ct RI (by rw[af,aO];rfl) ?_;simp +contextual -implicitDefEqProofs only [go_sem,eb,ki,dY,lR,dZ,Hz,hO,RI,af,aO,dt]
theorem aoQ{n:ah}{e:ck}(hd:n.aq=1\/n.aq=2\/n.aq=3\/n.aq=4)(j:ee (ax n)<=mg)(g:e.aS.size<=mg) :
  G 358 (ax n++[.bool I]++cK e)=Z (0,[E (Cs (HX n e))]):=by
 have b:=VQ (t:=n.type) (s:=e.aS) (aG (Di n) j) g;rw[Ph]at b;have f:=Te e.aa;refine ct RI (by rw[af,aO];rfl) ?_;have a:(Z' (e.op < 1) ||decide (5 < e.op))=!fO 1 5 e.op:=by
  rw[cR];simp only[fO,da,decide_eq_true_eq,cq,pw,decide_eq_false_iff_not];omega
 have c:fO 1 5 e.op=I->(Z' (e.op=4) ||decide (e.op=5))=!Z' (e.op < 4):=by
  intro h;rw[cR];simp only[fO,ai,da,decide_eq_true_eq,cq,decide_eq_false_iff_not]at h ⊢;omega
 unfold HX;generalize k:e.aa.isEmpty=em at *;generalize l:fO 1 5 e.op=q at *;rcases hd with h|h|h|h
 ·simp +contextual -implicitDefEqProofs only [go_sem,eb,ki,dY,lR,dZ,Hz,fM,hO,RI,af,aO,h,dt]
  cases Z' (e.aS=kU)<;>cases q<;>simp +contextual -implicitDefEqProofs only [go_sem,eb,dY,dZ,Hz,hO,a]<;>rfl
 ·simp +contextual -implicitDefEqProofs only [go_sem,eb,ki,dY,lR,dZ,Hz,fM,hO,RI,af,aO,h,dt]
  cases Z' (e.aS=kU)<;>cases q<;>simp +contextual -implicitDefEqProofs only [go_sem,eb,dY,dZ,Hz,hO,a]<;>rfl
 ·simp +contextual -implicitDefEqProofs only [go_sem,eb,dY,gV,dZ,Hz,hO,RI,af,aO,h,f,dt]
  cases em
  ·simp +contextual -implicitDefEqProofs only [go_sem]
   rfl
  ·cases q
   ·simp +contextual -implicitDefEqProofs only [go_sem,eb,dY,dZ,Hz,a]
    rfl
   ·have c:=c rfl;cases i:Z' (e.op < 4)<;>rw[i]at c
    ·simp +contextual -implicitDefEqProofs only [go_sem,eb,dY,dZ,Hz,hO,a,c]
     rfl
    ·cases d:ez n.type e.aS<;>rw[d]at b<;>simp only[gz]at b<;>simp +contextual -implicitDefEqProofs only [go_sem,eb,dY,dZ,Hz,hO,a,c,b]<;>rfl
 ·simp +contextual -implicitDefEqProofs only [go_sem,eb,dY,gV,dZ,Hz,hO,RI,af,aO,h,f,dt]
  cases em
  ·simp +contextual -implicitDefEqProofs only [go_sem]
   rfl
  ·cases q
   ·simp +contextual -implicitDefEqProofs only [go_sem,eb,dY,dZ,Hz,a]
    rfl
   ·cases d:ez n.type e.aS<;>rw[d]at b<;>simp only[gz]at b<;>simp +contextual -implicitDefEqProofs only [go_sem,eb,dY,dZ,Hz,hO,a,b]<;>rfl
end
section
theorem SH{d:Type}{p q:d->Bool}:∀{l:M d} {k j:Nat},ml p l k=Z j->∃i,j=k+i/\∀x,nth l i=Z x->q x=I->ml (λe=>p e && q e) l k=Z j
 |[],k,j,h=>by cases h
 |y::l,k,j,h=>by
  rw[ml]at h
  split at h
  ·rename_i c;cases h;refine⟨0,rfl,λx a b=>?_⟩;cases a;simp only[ml,c,b,jm,if_true]
  ·rename_i c;obtain⟨i,rfl,f⟩:=SH (q:=q) h;refine⟨i+1,by omega,λx a b=>?_⟩;have:=f x a b;have g:p y=J:=by simpa using c
   simp only[ml,g,cP,aF,if_false];exact this
theorem Oe{l:M ah}{b:z}{j:Nat}{a:ah}(h:dC l b=Z j)(d:nth l j=Z a)(f:a.aq=3):lW l b=Z j:=by
 obtain⟨i,c,g⟩:=SH (q:=λe:ah=>Z' (e.aq=3)) h;rw[bo]at c;subst c;exact g a d (by simp[f])
def N4(b:z)(a:M z):M az:=a.map λv=>⟨b,v,[]⟩
def kA(a:z)(n:ah)(e:ck)(i c k:Nat):M D:=[.str a,.int .i64 (c:Int),bu n.a_,.int .i64 n.a_.length,.int .i64 (i:Int),dm e.aa,.int .i64 e.aa.length,.int .i64 (k:Int)]
def kB(n:ah)(e:ck):M D:=ax n++cK e++[.str kU,.str kU,.str n.aj,.str kU]
def kS(a:M D)(b:M D)(d c:Nat):M az->Nat×M D
 |[]=>(d,a++b)
 |o=>(c,a++b++[aE o])
theorem YZ(a b:M D)(d c:Nat)(o:M az)(x:az):kS a b d c (o++[x])=(c,a++b++[aE (o++[x])]):=by cases o<;>rfl
theorem mkX(a v:z):aZ (.sV 3 J) [.str a,.str v,.list 3 J []]=Z (aE [⟨a,v,[]⟩]):=ab_ ⟨a,v,[]⟩
theorem ahu(x:az):aZ (.app 3 56) [.list 3 J [],aE [x]]=Z (aE [x]):=Dl (a:=[]) (by simp)
theorem abZ{n f:ah}{e:ck}{i j:Nat}{nm:z}(hj:dC n.aa nm=Z j)(R:nth n.aa j=Z f)(h3:f.aq=3)(hn:ee (ax n)<=mg)(T:bK cK e.aa<=mg):∀(m k c:Nat) (o:M az),k+m=e.aa.length->c<=k->o.length+m<=134217728->
  match va f.type ((e.aa.drop k).filter (Du nm)) with
  |none=>∃r,cm (lB G lh) (kS (kA nm n e i c k) (kB n e) 0 1 o)=Z r/\(r=(0,[E 4,.str kU,.str kU])\/∃x,r=(2,[E 4,.str kU,.str kU,x]))
  |some D=>cm (lB G lh) (kS (kA nm n e i c k) (kB n e) 0 1 o)=Z (kS (kA nm n e i (c+D.length) e.aa.length++[.bool J]) (kB n e) 1 3 (o++N4 nm D)):=by
 have B:e.aa.length<=mg:=by simp only[bK]at T;omega
 have W:n.aa.length<=mg:=by have:=eh n;simp only[bK]at this;omega
 have Q:ee (ax f)<=mg:=by have:=cG ax (bc R);have:=eh n;omega
 have q:=acM (l:=n.aa) (nm:=nm) W;rw[Oe hj R h3]at q;simp only[R]at q;simp only[af f,au,av]at q;have mx:=mkX;have a0:=ahu;intro m
 induction m with
 |zero=>
  intro k c o Y _ _;obtain rfl:k=e.aa.length:=by omega
  rw[bE];simp only[xM,va,N4,bD,aK,aJ,cd];refine bg ?_;cases o with
  |nil=>simp only[go_sem,kS,kA,kB,bG,lh,aC,af,aO]
  |cons x o=>simp only[go_sem,kS,kA,kB,bG,lh,aC,af,aO]
 |succ m S=>
  intro k c o Y hc ho;have g:k < e.aa.length:=by omega
  have a1:=cI (l:=e.aa) (i:=k) g;have hd:=eg e.aa k _ a1;generalize e.aa[k]'g=y at a1 hd;have N:=wj g B;have C:=wj (show c < e.aa.length by omega) B;have A:=EH a1;obtain⟨y1,y2,y3,y4⟩:=XC T (bc a1);have d:=VQ (t:=f.type) (s:=y.aS) (aG (Di f) Q) y2;simp only[ew,au,av]at d;rw[hd,gZ];by_cases p:y.aj=nm
  ·have P:Du nm y=I:=by simp[Du,p]
   rw[if_pos P];simp only[va];by_cases H:y.op=4
   ·rw[if_pos (by simp[H])];cases o with
    |nil=>
     refine⟨_,bg ?_,.inl rfl⟩;cases w:ez f.type y.aS<;>rw[w]at d<;>simp only[go_sem,kS,kA,kB,bG,lh,g,A,af,aO,p,C,q,d,gz,H,dt]
    |cons x o=>
     refine⟨_,bg ?_,.inr ⟨aE (x::o),rfl⟩⟩;cases w:ez f.type y.aS<;>rw[w]at d<;>simp only[go_sem,kS,kA,kB,bG,lh,g,A,af,aO,p,C,q,d,gz,H,dt]
   ·by_cases F:y.op=5
    ·rw[if_pos (by simp[F])];cases o with
     |nil=>
      refine⟨_,bg ?_,.inl rfl⟩;cases w:ez f.type y.aS<;>rw[w]at d<;>simp only[go_sem,kS,kA,kB,bG,lh,g,A,af,aO,p,C,q,d,gz,F,dt]
     |cons x o=>
      refine⟨_,bg ?_,.inr ⟨aE (x::o),rfl⟩⟩;cases w:ez f.type y.aS<;>rw[w]at d<;>simp only[go_sem,kS,kA,kB,bG,lh,g,A,af,aO,p,C,q,d,gz,F,dt]
    ·rw[if_neg (by simp[H,F])];cases w:ez f.type y.aS with
     |none=>
      rw[w]at d;cases o with
      |nil=>
       refine⟨_,bg ?_,.inl rfl⟩;simp only[go_sem,kS,kA,kB,bG,lh,g,A,af,aO,p,C,q,d,gz,dt]
      |cons x o=>
       refine⟨_,bg ?_,.inr ⟨aE (x::o),rfl⟩⟩;simp only[go_sem,kS,kA,kB,bG,lh,g,A,af,aO,p,C,q,d,gz,dt]
     |some v=>
      rw[w]at d;have K:=S (k+1) (c+1) (o++[⟨nm,v,[]⟩]) (by omega) (by omega) (by simp;omega);have g2:=Dl (a:=o) (b:=[⟨nm,v,[]⟩]) (by simp;omega);have U:=OM nm v;have L:lB G lh (kS (kA nm n e i c k) (kB n e) 0 1 o)=Z (.go (kS (kA nm n e i (c+1) (k+1)) (kB n e) 0 1 (o++[⟨nm,v,[]⟩]))):=by
       rw[YZ];cases o with
       |nil=>simp only[go_sem,kS,kA,kB,bG,lh,g,A,af,aO,p,C,q,d,gz,H,F,U,mx,a0,N]
       |cons x o=>simp only[go_sem,kS,kA,kB,bG,lh,g,A,af,aO,p,C,q,d,gz,H,F,U,mx,g2,N]
      cases V:va f.type ((e.aa.drop (k+1)).filter (Du nm)) with
      |none=>
       rw[V]at K;obtain⟨r,X,h⟩:=K;exact⟨r,by rw[bY L,X],h⟩
      |some D=>
       rw[V]at K;dsimp only at K;dsimp only[aQ];have ha:o++[⟨nm,v,[]⟩]++N4 nm D=o++N4 nm (v::D):=by simp[N4]
       rw[bY L,K,ha,aH,show c+1+D.length=c+(D.length+1) by omega]
  ·have P:Du nm y=J:=by simp[Du,p]
   rw[if_neg (by simp[P])];have i0:=S (k+1) c o (by omega) (by omega) (by omega);have L:lB G lh (kS (kA nm n e i c k) (kB n e) 0 1 o)=Z (.go (kS (kA nm n e i c (k+1)) (kB n e) 0 1 o)):=by
    cases o with
    |nil=>simp only[go_sem,kS,kA,kB,bG,lh,g,A,af,aO,p,N]
    |cons x o=>simp only[go_sem,kS,kA,kB,bG,lh,g,A,af,aO,p,N]
   rw[bY L];exact i0
end
end Go.Proofs.YtnnjajingjfjiaaGreatDoor
