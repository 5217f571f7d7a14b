/- Part of the proof. Condition: none. -/
import Derived.Test.YtgfcijiikgjbcaaGreatDoorZz16
set_option linter.unusedVariables false
set_option linter.unusedSimpArgs false
set_option linter.unusedSectionVars false
open Bool renaming and_eq_true->ai,and_self_left->ax,false_eq_true->aD,not_not->aL,not_eq_true'->ck,false_and->cM,true_and->cU,false_ne_true->da,or_eq_true->df,eq_iff_iff->dC,eq_false_iff->eg,not_false->gp,false_or->gG,or_assoc->iu,and_assoc->iE,and_self->jr,or_false->kg,and_false->kH,or_true->la,true_or->lg,not_true->lL,and_eq_false_iff->oV,true->I,false->J
open ByteArray renaming size->nQ
open Int renaming toNat_natCast->cd,reduceLE->dF,reduceLT->dG,natCast_nonneg->eo,lt_irrefl->fD,zero_add->rn
open List renaming cons_append->au,nil_append->av,length_map->aA,length_cons->aG,mem_cons->aI,append_nil->aJ,length_nil->aP,mem_append->aT,replicate->aY,map_cons->aZ,length_append->a_,sizeOf_lt_of_mem->ba,length_take->bj,take_length->bo,drop_zero->br,all_eq_true->bz,append_assoc->bB,take_zero->bE,nodup_append->bH,drop_length->bJ,mem_cons_self->bQ,mem_cons_of_mem->bT,mem_map->bZ,map_nil->cj,forall_mem_cons->cm,map_append->cp,range->cu,nodup_cons->cx,mem_map_of_mem->cH,mem_singleton->db,length_drop->dK,length_eq_one_iff->dP,map_id'->eV,pairwise_cons->fj,getElem?_eq_getElem->fw,eraseIdx_sublist->fG,drop_of_length_le->fP,isEmpty_nil->fQ,not_mem_nil->fR,isEmpty_cons->ga,replicate_succ->gK,mem_or_eq_of_mem_set->gW,filter_cons->iq,takeWhile_append_dropWhile->kh,takeWhile_cons->kt,any_eq_true->kI,set_cons_succ->lh,take_of_length_le->lj,map_take->lM,any_cons->nj,mem_filter->nn,length_filter_le->oW,map_drop->pw,map_const'->qD,filter_sublist->qH,set_cons_zero->rZ,getElem_append_left->tW,map_set->vV,filter_nil->wN,foldl_cons->wO,takeWhile_prefix->w_,foldl_nil->yk
open List.cons renaming sizeOf_spec->bG,injEq->bY
open Nat renaming le_refl->az,lt_irrefl->aB,le_trans->aH,reduceEqDiff->aN,lt_succ_self->aS,reduceLeDiff->bm,reduceBNe->bq,zero_add->bu,reduceAdd->bM,reduceMul->cF,reduceBEq->cJ,reduceSub->cK,reduceLT->cS,add_zero->dx,lt_or_ge->dH,zero_le->nU,sub_self->oF,mul_one->pX,pow_succ->wP
open Option renaming map_eq_some_iff->aj,map_some->aQ,isSome_none->fH,getD_some->ku,isSome_some->kX,some->Z,none->O
open Option.some renaming injEq->aa,inj->iF
open SizeOf renaming sizeOf->aw
open UInt8 renaming ofNat->dD
open Decidable renaming decide->Z'
namespace Go.Proofs.YtgfcijiikgjbcaaGreatDoor
set_option maxRecDepth 100000
set_option maxHeartbeats 4000000
section
attribute [go_sem] Gu Ux VA Mg Za rsl
section
variable (T:Nat->u KF)(cf:Cf)(mf:Mf)(a b:K)(s:St)(d:u Nat)(o:KO)(x y:u (Ex×St))
@[go_sem] theorem y1:cnd T mf (.d (.bool I)) a b s=ev T mf a s:=rfl
@[go_sem] theorem y2:cnd T mf (.d (.bool J)) a b s=ev T mf b s:=rfl
@[go_sem] theorem y3:ife (.d (.bool I)) x y=x:=rfl
@[go_sem] theorem y4:ife (.d (.bool J)) x y=y:=rfl
@[go_sem] theorem y5:gdn cf mf s d o I (.d (.bool I))=B8 cf mf s d o:=rfl
@[go_sem] theorem y6:gdn cf mf s d o J (.d (.bool J))=B8 cf mf s d o:=rfl
@[go_sem] theorem y7:gdn cf mf s d o I (.d (.bool J))=Z (s.put d .uv):=rfl
@[go_sem] theorem y8:gdn cf mf s d o J (.d (.bool I))=Z (s.put d .uv):=rfl
@[go_sem] theorem y9(w:Bool):gdn cf mf s d o w .uv=Z (s.put d .uv):=rfl
end
theorem pU(a:Int)(t:z)(l:M dB):aU (.wB 3 J) [E a,.str t,cC l]=Z (.list 3 J [[E a,.str t,cC l]]):=l6 3 _ rfl (by decide)
theorem xT(a b:Int)(t c:z)(l m:D):aU (.wB 3 J) [E a,.str t,l,E b,.str c,m]=Z (.list 3 J [[E a,.str t,l],[E b,.str c,m]]):=by
 simp[aU,chunk]
theorem Ii{l:M dB}(h:l.length<=mg)(op:Int)(t:z)(a:M dB):aU (.app 3 48) [cC l,.list 3 J [[E op,.str t,cC a]]]=Z (cC (l++[⟨op,t,a⟩])):=by
 have h:=gy 3 48 J (l.map je) [[E op,.str t,cC a]] (by decide) (by simp only[mg,aA,aG,aP]at *;omega);rw[h];simp[cC,aW]
theorem P1(a:Int)(t:z)(b:M dB):D.list 3 J [[E a,.str t,cC b]]=cC [⟨a,t,b⟩]:=by simp[cC,aW]
theorem P2(a b:Int)(t c:z)(e d:M dB):D.list 3 J [[E a,.str t,cC e],[E b,.str c,cC d]]=cC [⟨a,t,e⟩,⟨b,c,d⟩]:=by simp[cC,aW]
theorem Uk{l:M dB}(h:l.length<=mg)(x:dB):aU (.app 3 48) [cC l,cC [x]]=Z (cC (l++[x])):=by
 have:=Ii h x.op x.text x.ae;rw[P1]at this;cases x;exact this
theorem ae_(op:Int)(t:z)(a:M dB):aU (.app 3 48) [.list 3 J [],.list 3 J [[E op,.str t,cC a]]]=Z (cC [⟨op,t,a⟩]):=Ii (l:=[]) (by decide) op t a
theorem cE(p:dB):(⟨p.op,p.text,p.ae⟩:dB)=p:=by cases p;rfl
theorem adS(n:Nat):∀p:dB,aw p < n->xX 64 p=I->G 224 (je p)=Z (0,je p):=by
 induction n with
 |zero=>intro p h;omega
 |succ n y=>
  intro p C q;have r:=CP q;have d:∀k∈p.ae,G 224 (je k)=Z (0,je k):=λk d=>y k (by have:=dB.Kt d;omega) (CO q d);refine cN t224 (by rw[aW];rfl) ?_;have v:=wc (b:=lB G AP) p.ae (λe=>e) (λi=>(0,[E (i:Int),E p.op,.str p.text,cC p.ae,E 0,.str ⟨#[]⟩,E p.op,.str p.text]))
   (λi a=>(1,[E (i:Int),E p.op,.str p.text,cC p.ae,E 0,.str ⟨#[]⟩,E p.op,.str p.text,cC a]))
   (0,[E 0,.bool J,E p.op,.str p.text,cC p.ae,E 0,.str ⟨#[]⟩,E p.op,.str p.text])
   (λa=>(1,[E p.ae.length,.bool J,E p.op,.str p.text,cC p.ae,E 0,.str ⟨#[]⟩,E p.op,.str p.text,cC a])) (by
    intro k c;have g:=bw c;have o:=wj (i:=0) (n:=p.ae.length) g (by simp only[mg];omega);have f:=d k (bp c);have j:=K8 c;rw[n0]at j;have m:IntKind.i64.wrap 1=1:=wrap_i64 (by decide);rw[aW]at f;have w:(0:Int) < p.ae.length:=by omega
    simp only[go_sem,bK,AP,n0,w,j,jo];simp only[go_sem,aW k,f,tN,pU,ae_,cE,m]) (by
    intro i k c D;have g:=bw c;have o:=wj (i:=i) (n:=p.ae.length) g (by simp only[mg];omega);have f:=d k (bp c);have j:=K8 c;have A:=λ(op:Int) (t:z) (x:M dB)=>Ii (l:=p.ae.take i) (by rw[bj];simp only[mg];omega) op t x;rw[aW]at f;simp only[go_sem,bK,AP,eV,g,j,jo];simp only[go_sem,aW k,f,tN,pU,A,cE,o]) (by
    intro h;simp only[go_sem,bK,AP,h,n0,aP,fD]) (by
    intro h;simp only[go_sem,bK,AP,aB,eV])
  rw[n0]at v;simp only[go_sem,t224,aW p,cz,v];cases B:p.ae with
  |nil=>simp only[go_sem,fQ];rfl
  |cons s l=>simp only[go_sem,ga,eV]
theorem akQ{p:dB}(a:xX 64 p=I):G 224 (je p)=Z (0,je p):=adS _ p (aS _) a
section
variable {s:z} {alt:Nat->PR}
theorem Sr(W:s.size<=30){i:Nat}{l:M dB}(X:l.length<=100)(S:vI s i=I)(L:C0 222 s i 1 3 J (xp alt s i)) :
  ∃(p:dB) (k:Nat) (b:Bool),lB G jv (0,[E 0,.str ⟨#[]⟩,.str s,E (i:Int),.bool J,cC l])=Z (.go (0,[E 0,.str ⟨#[]⟩,.str s,E (k:Int),.bool b,cC (l++[p])]))/\PA s i 1 (sM alt s i) p k b:=by
 have K:s.size<=mg:=by simp only[mg];omega
 have N:l.length<=mg:=by simp only[mg];omega
 simp only[vI,ai,decide_eq_true_eq,ck,decide_eq_false_iff_not]at S;obtain⟨d,g,f⟩:=S;have m:=fF s i d;have fa:=λop t U=>Ii N op t U;have h:=λx=>Uk N x;obtain⟨j,p,k,b,B,e,F,Q,P,y⟩:=L;simp only[aW,au,av]at e;cases b with
 |true=>
  have a:=λc=>JO (s:=s) (i:=(k:Int)) (c:=c);have v:sM alt s i=O:=by
   unfold sM;cases v:xp alt s i with
   |none=>rfl
   |some q=>rw[v]at y;cases y.1
  rw[v];refine⟨p,k,I,?_,F,Q,P,rfl⟩
  match j,B with
  |0,_=>simp only[go_sem,d,g,f,m,e,cz,tN,jw,pU,fa,h,cE,eT,bK,jv,a]
  |1,_=>simp only[go_sem,d,g,f,m,e,cz,tN,jw,pU,fa,h,cE,eT,bK,jv,a]
  |2,_=>simp only[go_sem,d,g,f,m,e,cz,tN,jw,pU,fa,h,cE,eT,bK,jv,a]
 |false=>
  cases v:xp alt s i with
  |none=>rw[v]at y;cases y
  |some q=>
   rw[v]at y;obtain⟨_,rfl,T⟩:=y;have V:sM alt s i=Z (E5 s p k):=by rw[sM,v];rfl
   have r:=QZ (n:=64) (by decide) (s:=s) k F;have A:=QY s p k;have D:=akQ F;rw[aW]at D;have Y:je ⟨4,eT,[p]⟩=[E 4,.str ⟨#[]⟩,cC [p]]:=aW _;rw[V];unfold E5 at r A ⊢;cases c1:iC s k 42 with
   |true=>
    have a:=rU K c1;have R:=nH c1;rw[c1]at r A;refine⟨⟨4,eT,[p]⟩,k+1,J,?_,r,by omega,by omega,rfl,rfl,by omega⟩
    match j,B with
    |0,_=>simp only[go_sem,d,g,f,m,e,cz,tN,jw,pU,fa,h,cE,eT,bK,jv,a,P1]
    |1,_=>simp only[go_sem,d,g,f,m,e,cz,tN,jw,pU,fa,h,cE,eT,bK,jv,a,P1]
    |2,_=>simp only[go_sem,d,g,f,m,e,cz,tN,jw,pU,fa,h,cE,eT,bK,jv,a,P1]
   |false=>
    have a:=rT c1;rw[c1]at r A;cases C:iC s k 43 with
    |true=>
     have o:=rU K C;have R:=nH C;rw[C]at r A;refine⟨⟨2,eT,[p,⟨4,eT,[p]⟩]⟩,k+1,J,?_,r,by omega,by omega,rfl,rfl,by omega⟩
     match j,B with
     |0,_=>simp only[go_sem,d,g,f,m,e,cz,tN,jw,pU,fa,h,cE,eT,bK,jv,a,o,D,P1,xT,P2]
     |1,_=>simp only[go_sem,d,g,f,m,e,cz,tN,jw,pU,fa,h,cE,eT,bK,jv,a,o,D,P1,xT,P2]
     |2,_=>simp only[go_sem,d,g,f,m,e,cz,tN,jw,pU,fa,h,cE,eT,bK,jv,a,o,D,P1,xT,P2]
    |false=>
     have o:=rT C;rw[C]at r A;cases H:iC s k 63 with
     |true=>
      have w:=rU K H;have R:=nH H;rw[H]at r A;refine⟨⟨5,eT,[p]⟩,k+1,J,?_,r,by omega,by omega,rfl,rfl,by omega⟩
      match j,B with
      |0,_=>simp only[go_sem,d,g,f,m,e,cz,tN,jw,pU,fa,h,cE,eT,bK,jv,a,o,w,P1]
      |1,_=>simp only[go_sem,d,g,f,m,e,cz,tN,jw,pU,fa,h,cE,eT,bK,jv,a,o,w,P1]
      |2,_=>simp only[go_sem,d,g,f,m,e,cz,tN,jw,pU,fa,h,cE,eT,bK,jv,a,o,w,P1]
     |false=>
      have w:=rT H;refine⟨p,k,J,?_,F,Q,P,rfl,rfl,T⟩
      match j,B with
      |0,_=>simp only[go_sem,d,g,f,m,e,cz,tN,jw,pU,fa,h,cE,eT,bK,jv,a,o,w]
      |1,_=>simp only[go_sem,d,g,f,m,e,cz,tN,jw,pU,fa,h,cE,eT,bK,jv,a,o,w]
      |2,_=>simp only[go_sem,d,g,f,m,e,cz,tN,jw,pU,fa,h,cE,eT,bK,jv,a,o,w]
def YL(l:M dB)(n:Nat):Prop:=l.length<=n/\∀q∈l,xX 64 q=I
theorem py{l:M dB}{n m:Nat}{p:dB}(h:YL l n)(b:xX 64 p=I)(c:n+1<=m):YL (l++[p]) m:=by
 refine⟨by rw[a_];have:=h.1;simp;omega,λq a=>?_⟩;rcases aT.1 a with a|a
 ·exact h.2 q a
 ·rw[db.1 a];exact b
def RdL(i:Nat)(s:z)(l:M dB)(r:u (M dB×Nat))(a:M dB)(k:Nat)(b:Bool):Prop:=YL a 40/\i<=k/\k<=s.size/\match r with
 |some q=>b=J/\a=l++q.1/\k=q.2
 |none=>b=I
theorem yv{i j:Nat}{l a:M dB}{p:dB}{k:Nat}{b:Bool}{r:u (M dB×Nat)}(d:i<=j)(h:RdL j s (l++[p]) r a k b):RdL i s l (r.map λq=>(p::q.1,q.2)) a k b:=by
 obtain⟨n,o,m,c⟩:=h;refine⟨n,by omega,m,?_⟩;cases r with
 |none=>exact c
 |some q=>
  obtain⟨g,f,e⟩:=c;exact⟨g,by rw[f,bB];rfl,e⟩
theorem Z2(y:s.size<=30){i0:Nat}(H:∀j,i0 < j->j<=s.size->C0 223 s j 0 2 J (alt j)):∀(g i:Nat) (l:M dB),i0<=i->i<=s.size->s.size+1 - i<=g->YL l i->
  ∃(h:M dB) (k:Nat) (b:Bool),cl (lB G jv) (0,[E 0,.str ⟨#[]⟩,.str s,E (i:Int),.bool J,cC l])=Z (0,[.bool J,E 0,.str ⟨#[]⟩,.str s,E (k:Int),.bool b,cC h])/\RdL i s l (vH alt s g i) h k b:=by
 have F:s.size<=mg:=by simp only[mg];omega
 intro g
 induction g with
 |zero=>intro i l _ v K;omega
 |succ g D=>
  intro i l T v K c;simp only[vH];cases d:vI s i with
  |false=>
   simp only[aD,if_false];refine⟨l,i,J,aX ?_,⟨by have:=c.1;omega,c.2⟩,az _,v,rfl,by rw[aJ],rfl⟩;by_cases a:i < s.size
   ·have w:=fF s i a;simp only[vI,a,decide_true,cU]at d;by_cases r:eA s i=124
    ·simp only[go_sem,bK,jv,a,r,w]
    ·have f:eA s i=41:=by
      by_cases f:eA s i=41
      ·exact f
      ·simp[r,f]at d
     have B:¬(41:Int)=124:=by decide
     simp only[go_sem,bK,jv,a,f,B,w]
   ·simp only[go_sem,bK,jv,a]
  |true=>
   have a:i < s.size:=by simp only[vI,ai,decide_eq_true_eq]at d;exact d.1
   simp only[if_true];obtain⟨p,k,b,x,o,A,m,e⟩:=Sr y (l:=l) (by have:=c.1;omega) d (akP F a λj S Q=>H j (by omega) Q);cases t:sM alt s i with
   |none=>
    rw[t]at e;subst e;refine⟨l++[p],k,I,(bU x).trans (aX ?_),py (n:=30) ⟨by have:=c.1;omega,c.2⟩ o (by decide),A,m,rfl⟩;simp only[go_sem,bK,jv]
   |some q=>
    rw[t]at e;obtain⟨rfl,rfl,R⟩:=e;obtain⟨h,C,P,N,L⟩:=D k (l++[p]) (by omega) m (by omega) (py c o (by omega));exact⟨h,C,P,(bU x).trans N,yv (by omega) L⟩
theorem GY{k:dB}:aU (.UY 3 0 3 J) [cC [k],E 0]=Z (.list 0 J [je k]):=by
 have h:nth ([k].map je) 0=Z (je k):=rfl;simp only[cC,aU,Int.toNat_zero,h,K7];simp
theorem GP{k:dB}:aU .TJ [cC [k],E 0]=Z (.bool J):=(rfl)
theorem Hx{l:M dB}:Z' ((l.length:Int)=1)=Z' (l.length=1):=by apply decide_eq_decide.2;omega
theorem Kc{op:Int}{l:M dB}(h:l.length≠1):sP op l=⟨op,eT,l⟩:=by
 unfold sP;split
 ·exact absurd rfl h
 ·rfl
theorem ahM(m:s.size<=30){i:Nat}(w:i<=s.size)(o:∀j,i < j->j<=s.size->C0 223 s j 0 2 J (alt j)):C0 225 s i 0 2 J (Ci alt s i):=by
 obtain⟨f,k,b,l,h,y,x,c⟩:=Z2 m o (s.size+1) i [] (az _) w (by omega) ⟨by simp,by simp⟩;have e:aU (.wB 3 J) []=Z (cC []):=wI 3 J;have a:PA s i 0 (Ci alt s i) (sP 2 f) k b:=by
  refine⟨vT (by have:=h.1;omega) h.2,y,x,?_⟩;unfold Ci;cases g:vH alt s (s.size+1) i with
  |none=>rw[g]at c;exact c
  |some q=>
   rw[g]at c;obtain⟨v,t,r⟩:=c;subst t r;exact⟨v,rfl,by omega⟩
 by_cases d:f.length=1
 ·obtain⟨p,rfl⟩:=dP.1 d;have n:sP 2 [p]=p:=rfl;rw[n]at a;refine⟨0,p,k,b,by decide,cN t225 rfl ?_,a⟩;simp only[go_sem,t225,cz,e,l,GY,GP,aW p]
 ·rw[Kc d]at a;refine⟨1,_,k,b,by decide,cN t225 rfl ?_,a⟩;simp only[go_sem,t225,cz,e,l,Hx,d,aW,eT]
theorem Z1(B:s.size<=30){i0:Nat}(K:∀j,i0 < j->j<=s.size->C0 223 s j 0 2 J (alt j)):∀(g i:Nat) (l:M dB),i0<=i->i<=s.size->s.size+1 - i<=g->YL l (i+1)->
  ∃(e:M dB) (k:Nat) (b:Bool),cl (lB G tu) (0,[E 0,.str ⟨#[]⟩,.str s,E (i:Int),.bool J,cC l])=Z (0,[.bool J,E 0,.str ⟨#[]⟩,.str s,E (k:Int),.bool b,cC e])/\RdL i s l (BP alt s g i) e k b:=by
 have H:s.size<=mg:=by simp only[mg];omega
 intro g
 induction g with
 |zero=>intro i l _ A L;omega
 |succ g F=>
  intro i l W A L a;simp only[BP];cases m:iC s i 124 with
  |false=>
   have f:=rT m;simp only[aD,if_false];refine⟨l,i,J,aX ?_,⟨by have:=a.1;omega,a.2⟩,az _,A,rfl,by rw[aJ],rfl⟩;simp only[go_sem,bK,tu,f]
  |true=>
   have f:=rU H m;have V:=nH m;have o:l.length<=mg:=by have:=a.1;simp only[mg];omega
   have X:=λx=>Uk o x;have fa:=λop t C=>Ii o op t C;simp only[if_true];obtain⟨j,p,k,b,y,h,v,U,r,d⟩:=ahM B (i:=i+1) (by omega) λj y S=>K j (by omega) S;simp only[aW,au,av]at h;have go:lB G tu (0,[E 0,.str ⟨#[]⟩,.str s,E (i:Int),.bool J,cC l])=Z (.go (0,[E 0,.str ⟨#[]⟩,.str s,E (k:Int),.bool b,cC (l++[p])])):=by
    match j,y with
    |0,_=>simp only[go_sem,bK,tu,f,h,jw,pU,fa,cE]
    |1,_=>simp only[go_sem,bK,tu,f,h,jw,pU,fa,cE]
   cases w:Ci alt s (i+1) with
   |none=>
    rw[w]at d;subst d;have N:=λc=>JO (s:=s) (i:=(k:Int)) (c:=c);refine⟨l++[p],k,I,(bU go).trans (aX ?_),py (n:=32) ⟨by have:=a.1;omega,a.2⟩ v (by decide),by omega,r,rfl⟩;simp only[go_sem,bK,tu,N]
   |some q=>
    rw[w]at d;obtain⟨rfl,rfl,T⟩:=d;obtain⟨e,D,R,Q,P⟩:=F k (l++[p]) (by omega) r (by omega) (py a v (by omega));exact⟨e,D,R,(bU go).trans Q,yv (by omega) P⟩
theorem adR(r:s.size<=30){i:Nat}(R:i<=s.size)(B:∀j,i < j->j<=s.size->C0 223 s j 0 2 J (alt j)):C0 223 s i 0 2 J (E4 alt s i):=by
 obtain⟨j,p,k,b,A,g,x,w,v,l⟩:=ahM r R B;simp only[aW,au,av]at g;have L:∃(e:M dB) (a:Nat) (d:Bool),cl (lB G tu) (0,[E 0,.str ⟨#[]⟩,.str s,E (k:Int),.bool b,cC [p]])=Z (0,[.bool J,E 0,.str ⟨#[]⟩,.str s,E (a:Int),.bool d,cC e])/\PA s i 0 (E4 alt s i) (sP 3 e) a d:=by
  unfold E4;cases y:Ci alt s i with
  |none=>
   rw[y]at l;subst l;have S:=λc=>JO (s:=s) (i:=(k:Int)) (c:=c);exact⟨[p],k,I,aX (by simp only[go_sem,bK,tu,S]),x,w,v,rfl⟩
  |some q=>
   rw[y]at l;obtain⟨rfl,rfl,U⟩:=l;obtain⟨e,a,d,f,C,V,T,o⟩:=Z1 r B (s.size+1) k [p] w v (by omega) ⟨by simp,by simpa using x⟩;refine⟨e,a,d,f,vT (by have:=C.1;omega) C.2,by omega,T,?_⟩;dsimp only;cases F:BP alt s (s.size+1) k with
   |none=>rw[F]at o;exact o
   |some q=>
    rw[F]at o;obtain⟨Q,P,N⟩:=o;subst P N;exact⟨Q,rfl,by omega⟩
 obtain⟨e,a,d,f,n⟩:=L;have K:∀(t:Nat×M D) (h:eZ G (t223.t) 0 [.str s,E (i:Int),.bool J]=Z t),True:=λ_ _=>trivial;by_cases m:e.length=1
 ·obtain⟨q,rfl⟩:=dP.1 m;have H:sP 3 [q]=q:=rfl;rw[H]at n;refine⟨0,q,a,d,by decide,cN t223 rfl ?_,n⟩
  match j,A with
  |0,_=>simp only[go_sem,t223,cz,g,jw,pU,P1,cE,f,GY,GP,aW q]
  |1,_=>simp only[go_sem,t223,cz,g,jw,pU,P1,cE,f,GY,GP,aW q]
 ·rw[Kc m]at n;refine⟨1,_,a,d,by decide,cN t223 rfl ?_,n⟩
  match j,A with
  |0,_=>simp only[go_sem,t223,cz,g,jw,pU,P1,cE,f,Hx,m,aW,eT]
  |1,_=>simp only[go_sem,t223,cz,g,jw,pU,P1,cE,f,Hx,m,aW,eT]
theorem W6(a:s.size<=30):∀(g i:Nat),i<=s.size->s.size+1 - i<=g->C0 223 s i 0 2 J (Tb s g i)
 |0,i,b,c=>by omega
 |g+1,i,b,c=>adR a b λj e d=>W6 a g j d (by omega)
end
theorem yT(n:Nat):Z' ((30:Int) < (n:Int))=Z' (30 < n):=by apply decide_eq_decide.2;omega
theorem QK(a b:Nat):Z' ((a:Int)=(b:Int))=Z' (a=b):=by apply decide_eq_decide.2;omega
theorem ahN{s:z}:∃j p,j < 3/\G 226 [.str s]=Z (j,je p++[.bool (nZ s)])/\∀q,BQ s=Z q->p=q/\xX 64 p=I:=by
 unfold nZ BQ;by_cases h:30 < s.size
 ·refine⟨0,⟨0,eT,[]⟩,by decide,cN t226 rfl ?_,λq a=>by rw[if_pos h]at a;cases a⟩;rw[if_pos h];simp only[go_sem,t226,cz,yT,h,aW,fH];rfl
 ·rw[if_neg h];obtain⟨j,p,k,b,f,c,i,n,m,e⟩:=W6 (s:=s) (by omega) (s.size+1) 0 (by omega) (by omega);simp only[aW,au,av,n0]at c;cases g:Tb s (s.size+1) 0 with
  |none=>
   rw[g]at e;subst e;refine⟨0,⟨0,eT,[]⟩,by decide,cN t226 rfl ?_,λq a=>by cases a⟩
   match j,f with
   |0,_=>simp only[go_sem,t226,cz,yT,h,c,aW,fH];rfl
   |1,_=>simp only[go_sem,t226,cz,yT,h,c,aW,fH];rfl
  |some q=>
   rw[g]at e;obtain⟨rfl,rfl,l⟩:=e;dsimp only;by_cases d:k=s.size
   ·rw[if_pos d];refine⟨j+1,p,by omega,cN t226 rfl ?_,λq a=>by cases a;exact⟨rfl,i⟩⟩
    match j,f with
    |0,_=>simp only[go_sem,t226,cz,yT,h,c,d,aW,kX]
    |1,_=>simp only[go_sem,t226,cz,yT,h,c,d,aW,kX]
   ·rw[if_neg d];refine⟨0,⟨0,eT,[]⟩,by decide,cN t226 rfl ?_,λq a=>by cases a⟩
    match j,f with
    |0,_=>simp only[go_sem,t226,cz,yT,QK,h,c,d,aW,fH];rfl
    |1,_=>simp only[go_sem,t226,cz,yT,QK,h,c,d,aW,fH];rfl
theorem adT(s:z):G 227 [.str s]=Z (0,[.bool (nZ s)]):=by
 obtain⟨j,p,b,a,_⟩:=ahN (s:=s);simp only[aW,au,av]at a;refine cN t227 rfl ?_
 match j,b with
 |0,_=>simp only[go_sem,t227,a]
 |1,_=>simp only[go_sem,t227,a]
 |2,_=>simp only[go_sem,t227,a]
theorem adX{t s:z}(g:s.size<=mg):G 236 [.str t,.str s]=Z (0,[.bool (Mc t s)]):=by
 obtain⟨j,p,f,a,h⟩:=ahN (s:=t);simp only[aW,au,av]at a;have qG:∀b,aU .pl [.bool b]=Z (.bool J):=λb=>rfl;refine cN t236 rfl ?_;unfold Mc;cases d:BQ t with
 |none=>
  have e:nZ t=J:=by rw[nZ,d];rfl
  rw[e]at a
  match j,f with
  |0,_=>simp only[go_sem,t236,a]
  |1,_=>simp only[go_sem,t236,a]
  |2,_=>simp only[go_sem,t236,a]
 |some q=>
  have e:nZ t=I:=by rw[nZ,d];rfl
  obtain⟨rfl,i⟩:=h q d;have c:=akT g i;simp only[aW,au,av]at c;rw[e]at a
  match j,f with
  |0,_=>simp only[go_sem,t236,a,c,qG]
  |1,_=>simp only[go_sem,t236,a,c,qG]
  |2,_=>simp only[go_sem,t236,a,c,qG]
end
section
def bC(f:Nat->Bool):M C:=(cu 256).map λx=>.d (.bool (f x))
def bV(f:Nat->Bool):M RV:=(cu 256).map λx=>.d (.bool (f x))
def eL(f:Nat->Bool)(n:Nat):M (M D):=((cu n).filter f).map λx:Nat=>[D.int .u8 (x:Int)]
def YY(f:Nat->Bool):z:=⟨(((cu 256).filter f).map dD).toArray⟩
theorem mz:((0:Nat):Int)=0:=(rfl)
theorem Qg(f:Nat->Bool)(d:Nat):∀(l:M Nat) (j:Nat) (s:St),fv d j (l.map λx=>RV.d (.bool (f x))) s=(l.map λx=>C.d (.bool (f x)),s)
 |[],j,s=>rfl
 |x::l,j,s=>by
  simp only[aZ,fv,Qg f d l (j+1) s]
theorem ags(f:Nat->Bool)(d j:Nat)(s:St):fv d j (bV f) s=(bC f,s):=Qg f d _ j s
theorem Ho(f:Nat->Bool)(i:Nat):∀(l:M Nat),C.kN i (l.map λx=>C.d (.bool (f x)))=l.map λx=>C.d (.bool (f x))
 |[]=>rfl
 |x::l=>by simp only[aZ,C.kN,C.kill,Ho f i l]
theorem pH(f:Nat->Bool)(i:Nat):C.kN i (bC f)=bC f:=Ho f i _
theorem sV(f:Nat->Bool):(bC f).all C.cell=I:=by rw[bC,List.all_map];exact bz.2 λx _=>rfl
theorem sh(f:Nat->Bool):(bC f).all C.const=I:=by rw[bC,List.all_map];exact bz.2 λx _=>rfl
theorem oZ(f:Nat->Bool):(bC f).length=256:=by simp[bC]
theorem aao{a:Type}{f:Nat->a}{n x:Nat}(h:x < n):nth ((cu n).map f) x=Z (f x):=by
 rw[eh];simp[h]
theorem ab5(f:Nat->Bool){x:Nat}(h:x < 256):nth (bC f) x=Z (.d (.bool (f x))):=aao h
theorem Y8(f:Nat->Bool)(n:Nat):eL f (n+1)=eL f n++(if f n=I then [[D.int .u8 (n:Int)]] else []):=by
 simp only[eL,List.range_succ,List.filter_append,cp]
 congr 1
 by_cases h:f n=I<;>simp[h]
theorem acf(f:Nat->Bool)(n:Nat):(eL f n).length<=n:=by
 have:=oW f (cu n)
 simpa [eL] using this
theorem GL:∀(l:M Nat),bytesOf (l.map λx:Nat=>[D.int .u8 (x:Int)])=Z (l.map λx:Nat=>(x:Int))
 |[]=>rfl
 |x::l=>by simp only[aZ,bytesOf,GL l,aQ]
abbrev vJ:M C:=[.d (.int .i64 0),.d (.str ⟨#[]⟩),.nil 3 J]
def HX(f:Nat->Bool)(i:Nat):St:=⟨[(1,.ptr 1 0),(2,.ptr 2 0),(3,.ref 5),(6,.d (.int .i64 (i:Int)))],[(1,bC f),(2,vJ)],[(5,⟨eL f i,1,I,I,I,J⟩)]⟩
theorem Z5(f:Nat->Bool):ev T wY (.loop zm) (HX f 0)=Z (.exit 0,⟨[(1,.ptr 1 0),(2,.ptr 2 0),(3,.ref 5),(6,.d (E 256)),(7,.d (.bool J))],[(1,bC f),(2,vJ)],[(5,⟨eL f 256,1,I,I,I,J⟩)]⟩):=by
 refine abJ (HX f) 256 (λh=>by cases h) ?_ ?_
 ·simp only[go_sem,reduceIte,bM,aN,cF,bm,cJ,bq,cK,cS,dG,dF,zm,HX,show ((256:Nat):Int)=256 from rfl]
 ·intro i b;have k:((i:Int) < 256)=True:=by simp;omega
  have g:IntKind.i64.wrap ((i:Int)+1)=((i+1:Nat):Int):=wi b (by decide);have j:IntKind.u8.wrap (i:Int)=(i:Int):=wrap_u8 (by omega);have a:=ab5 f b;have e:=Y8 f i;have n:=acf f i;have m:((eL f i).length+1<=room)=True:=eq_true (by simp only[room];omega);have l:((eL f i).length+1<=maxLen)=True:=eq_true (by simp only[maxLen];omega);cases c:f i with
  |true=>
   rw[c,if_pos rfl]at e;rw[c]at a;simp only[go_sem,reduceIte,bM,aN,cF,bm,cJ,bq,cK,cS,dG,dF,zm,HX,k,g,j,a,b,pH,pX,m,l,e,eo]
  |false=>
   rw[c,if_neg da,aJ]at e;rw[c]at a;simp only[go_sem,reduceIte,bM,aN,cF,bm,cJ,bq,cK,cS,dG,dF,zm,HX,k,g,j,a,b,pH,pX,e,eo]
theorem ahW(f:Nat->Bool):ej T 276 [.val I (bV f)]=Z ([.val I [.d (E 1),.d (.str (YY f)),.row ⟨[],3,J,I,I,J⟩]],[]):=by
 have b:=Z5 f;have g:eL f 0=[]:=rfl;have c:bytesOf (eL f 256)=Z (((cu 256).filter f).map λx:Nat=>(x:Int)):=GL _;have a:(((cu 256).filter f).map λx:Nat=>(x:Int)).map (λn=>dD n.toNat)=((cu 256).filter f).map dD:=by
  rw[List.map_map];rfl
 generalize h:(((cu 256).filter f).map λx:Nat=>(x:Int))=q at c a;have e:(⟨(q.map λn=>dD n.toNat).toArray⟩:z)=YY f:=by rw[a];rfl
 rw[vr (f:=276) rfl rfl];simp only[HX,g,vJ,show ((0:Nat):Int)=0 from rfl]at b;simp only[go_sem,reduceIte,bM,aN,cF,bm,cJ,bq,cK,cS,dG,dF,ags,sV,pH,b,c,e]
abbrev mgK:Nat:=33554432
abbrev nk(s:z)(i:Int)(b:Bool):A:=.box [.d (.str s),.d (.int .i64 i),.d (.bool b)]
abbrev bt(c:Int):A:=.val J [.d (.int .u8 c)]
abbrev ys(b:Bool):A:=.val J [.d (.bool b)]
theorem IX{s:z}{i e k c:Int}{b a t:Bool}{op:Int}{tx:z}{kd:RV}(h:(∃es,kd=.d (.list 3 J es))\/∃es,kd=.row ⟨es,3,J,J,I,I⟩)
  (m:ej T 275 [nk s i b,bt 40]=Z ([ys I],[nk s e b])) (l:ej T 280 [nk s e b]=Z ([.val I [.d (E op),.d (.str tx),kd]],[nk s k a]))
  (j:ej T 275 [nk s k a,bt 41]=Z ([ys t],[nk s c a])):ej T 279 [nk s i b]=Z ([.val I [.d (E op),.d (.str tx),kd]],[nk s c (a ||!t)]):=by
 have g:(aY 256 (C.d (.bool J)))=bC λ_=>J:=by rw[bC,qD];simp
 conv at g=>lhs;reduce
 rw[vr (f:=279) rfl rfl,g];rcases h with ⟨es,rfl⟩|⟨es,rfl⟩<;>cases t<;>cases a<;>simp only[go_sem,reduceIte,bM,aN,cF,bm,cJ,bq,cK,cS,dG,dF,sV,sh,pH,oZ,m,l,j,bm]
theorem Un(f:Nat->Bool){x:Nat}(h:x < 256):List.take x (bC f)++[C.d (.bool I)]++List.drop (x+1) (bC f)=bC λy=>f y ||decide (x=y):=by
 apply List.ext_getElem
 ·simp[bC];omega
 intro i l c;simp only[oZ]at c;have e:∀g:Nat->Bool,(bC g)[i]'(by rw[oZ];exact c)=C.d (.bool (g i)):=λg=>by simp[bC]
 rw[e];have a:((bC f).take x).length=x:=by simp[bC];omega
 by_cases k:i < x
 ·rw[tW (by simp[a];omega),tW (by omega),List.getElem_take,e];have:¬x=i:=by omega
  simp[this]
 ·by_cases b:i=x
  ·subst b;rw[tW (by simp[a]),List.getElem_append_right (by omega)];simp[a]
  ·rw[List.getElem_append_right (by simp[a];omega),List.getElem_drop];have j:x+1+(i - (List.take x (bC f)++[C.d (D.bool I)]).length)=i:=by simp[a];omega
   simp only[j];rw[e];have:¬x=i:=by omega
   simp[this]
theorem yz(f:Nat->Bool):List.drop 256 (bC f)=[]:=fP (by rw[oZ];exact az _)
theorem yA(f:Nat->Bool):List.take 256 (bC f)=bC f:=lj (by rw[oZ];exact az _)
theorem Xf(f:Nat->Bool)(s:St):∀(l:M Nat),gH (mZ s) (l.map λx=>C.d (.bool (f x)))=Z (l.map λx=>RV.d (.bool (f x)))
 |[]=>rfl
 |x::l=>by simp only[aZ,gH,mZ,Xf f s l,aQ]
theorem Xe(f:Nat->Bool)(s:St):gH (mZ s) (bC f)=Z (bV f):=Xf f s _
theorem Mz(f:Nat->Bool):∀(l:M Nat),rowsOf (l.map λx=>C.d (.bool (f x)))=[]
 |[]=>rfl
 |x::l=>by simp only[aZ,rowsOf,Mz f l]
theorem E_(f:Nat->Bool):rowsOf (bC f)=[]:=Mz f _
abbrev uI(x:Nat):Nat->Bool:=λy=>decide (32<=y) && decide (y < x)
def st0(c:M C)(x:Nat):St:=⟨[(0,.ptr 900 0),(2,.ptr 2 0),(3,.ptr 3 0),(5,.d (.int .i64 (x:Int)))],[(2,vJ),(3,bC (uI x)),(900,c)],[]⟩
theorem ab3{x:Nat}(h:32<=x):(λy=>uI x y ||decide (x=y))=uI (x+1):=by
 funext y
 simp only[uI];by_cases a:32<=y
 ·by_cases c:y < x
  ·have:y < x+1:=by omega
   simp[a,c,this]
  ·by_cases b:x=y
   ·subst b;simp[a]
   ·have:¬y < x+1:=by omega
    simp[a,c,b,this]
 ·have:¬x=y:=by omega
  simp[a,this]
theorem Sz(c:M C):ev T wY (.loop wA) (st0 c 32)=Z (.exit 1,⟨[(0,.ptr 900 0),(2,.ptr 2 0),(3,.ptr 3 0),(5,.d (E 127)),(28,.d (.bool J))],[(2,vJ),(3,bC (uI 127)),(900,c)],[]⟩):=by
 have h:∀m x,x+m=127->32<=x->ev T wY (.loop wA) (st0 c x)=Z (.exit 1,⟨[(0,.ptr 900 0),(2,.ptr 2 0),(3,.ptr 3 0),(5,.d (E 127)),(28,.d (.bool J))],[(2,vJ),(3,bC (uI 127)),(900,c)],[]⟩):=by
  intro m
  induction m with
  |zero=>
   intro x f _;obtain rfl:x=127:=by omega
   rw[gX];simp only[go_sem,reduceIte,bM,aN,cF,bm,cJ,bq,cK,cS,dG,dF,wA,st0,show ((127:Nat):Int)=127 from rfl]
  |succ m e=>
   intro x f a;have l:((x:Int)<=126)=True:=eq_true (by omega);have g:IntKind.i64.wrap ((x:Int)+1)=((x+1:Nat):Int):=wi (n:=127) (by omega) (by decide);have k:(x < 256)=True:=eq_true (by omega);have j:(x+1<=256)=True:=eq_true (by omega);have b:=Un (uI x) (x:=x) (by omega);rw[ab3 a]at b;have i:ev T wY wA (st0 c x)=Z (.norm,st0 c (x+1)):=by
    simp only[go_sem,reduceIte,bM,aN,cF,bm,cJ,bq,cK,cS,dG,dF,wA,st0,l,g,k,j,b,oZ,pX,bu,eo]
   rw[gX,i];exact e (x+1) (by omega) (by omega)
 exact h 95 32 rfl (by omega)
theorem acQ{s:z}{i a:Int}{b:Bool}(j:ej T 275 [nk s i b,bt 40]=Z ([ys J],[nk s i b]))(h:ej T 275 [nk s i b,bt 46]=Z ([ys I],[nk s a b])) :
  ej T 279 [nk s i b]=Z ([.val I [.d (E 1),.d (.str (YY (uI 127))),.row ⟨[],3,J,I,I,J⟩]],[nk s a b]):=by
 have c:(aY 256 (C.d (.bool J)))=bC (uI 32):=by
  have:uI 32=λ_=>J:=by funext y;simp[uI]
  rw[this,bC,qD];simp
 have e:=Sz [.d (.str s),.d (E a),.d (.bool b)];simp only[st0,vJ,show ((32:Nat):Int)=32 from rfl]at e;have g:=ahW (uI 127)
 conv at c=>lhs;reduce
 rw[vr (f:=279) rfl rfl,c];simp only[go_sem,reduceIte,bM,aN,cF,bm,cJ,bq,cK,cS,dG,dF,sV,sh,pH,oZ,yz,yA,Xe,E_,j,h,e,g,bm]
theorem Wh{s:z}{i l a:Int}{b o:Bool}(j:ej T 275 [nk s i b,bt 40]=Z ([ys J],[nk s i b]))(h:ej T 275 [nk s i b,bt 46]=Z ([ys J],[nk s i b]))(g:ej T 275 [nk s i b,bt 91]=Z ([ys J],[nk s i b]))
  (e:ej T 278 [nk s i b]=Z ([.val J [.d (.int .u8 a)]],[nk s l o])) :
  ej T 279 [nk s i b]=Z ([.val I [.d (E 1),.d (.str ⟨[dD a.toNat].toArray⟩),.row ⟨[],3,J,I,I,J⟩]],[nk s l (o ||(Z' (a=95) ||decide (a=46)))]):=by
 have m:(aY 256 (C.d (.bool J)))=bC (uI 32):=by
  have:uI 32=λ_=>J:=by funext y;simp[uI]
  rw[this,bC,qD];simp
 conv at m=>lhs;reduce
 rw[vr (f:=279) rfl rfl,m];by_cases c1:a=95
 ·have c:(a=95)=True:=eq_true c1;simp only[go_sem,reduceIte,bM,aN,cF,bm,cJ,bq,cK,cS,dG,dF,sV,sh,pH,oZ,yz,yA,Xe,E_,j,h,g,e,c,bytesOf,bm]
 ·have c:(a=95)=False:=eq_false c1;by_cases n:a=46
  ·have k:(a=46)=True:=eq_true n;simp only[go_sem,reduceIte,bM,aN,cF,bm,cJ,bq,cK,cS,dG,dF,sV,sh,pH,oZ,yz,yA,Xe,E_,j,h,g,e,c,k,bytesOf,bm]
  ·have k:(a=46)=False:=eq_false n;simp only[go_sem,reduceIte,bM,aN,cF,bm,cJ,bq,cK,cS,dG,dF,sV,sh,pH,oZ,yz,yA,Xe,E_,j,h,g,e,c,k,bytesOf,bm]
abbrev rC(s:z)(i:Int)(b:Bool):M C:=[.d (.str s),.d (.int .i64 i),.d (.bool b)]
def Xt(c:M C)(n:Nat)(a x:Nat)(f:Nat->Bool):St:=⟨[(0,.ptr 900 0),(2,.ptr 2 0),(3,.ptr 3 0),(6,.d (.int .i64 (n:Int))),(8,.d (.int .u8 (a:Int))),(9,.d (.int .i64 (x:Int)))],[(2,vJ),(3,bC f),(900,c)],[]⟩
def rg(f:Nat->Bool)(x a:Nat):Nat->Bool:=λy=>f y ||(Z' (x<=y) && Z' (y<=a))
theorem abS{f:Nat->Bool}{x a:Nat}(h:a < x):rg f x a=f:=by
 funext y
 unfold rg;by_cases b:x<=y
 ·have:¬y<=a:=by omega
  simp[this]
 ·simp[b]
theorem alO{f:Nat->Bool}{x a:Nat}(h:x<=a):rg (λy=>f y ||decide (x=y)) (x+1) a=rg f x a:=by
 funext y
 unfold rg;by_cases b:x=y
 ·subst b;simp[h]
 ·by_cases c:x<=y
  ·have:x+1<=y:=by omega
   simp[b,c,this]
  ·have:¬x+1<=y:=by omega
   simp[b,c,this]
theorem Hr(c:M C)(n a:Nat)(j:a < 256):∀(m x:Nat) (f:Nat->Bool),x+m=a+1->∃b:Int,ev T wY (.loop pJ) (Xt c n a x f)=Z (.exit 5,⟨[(0,.ptr 900 0),(2,.ptr 2 0),(3,.ptr 3 0),(6,.d (E (n:Int))),(8,.d (.int .u8 (a:Int))),(9,.d (E b)),(72,.d (.bool J))],[(2,vJ),(3,bC (rg f x a)),(900,c)],[]⟩)
 |0,x,f,k=>by
  have h:((x:Int)<=(a:Int))=False:=eq_false (by omega);have g:IntKind.i64.wrap (a:Int)=(a:Int):=cD (by omega);refine⟨x,?_⟩;rw[abS (by omega),gX];simp only[go_sem,reduceIte,bM,aN,cF,bm,cJ,bq,cK,cS,dG,dF,pJ,Xt,h,g]
 |m+1,x,f,k=>by
  have h:((x:Int)<=(a:Int))=True:=eq_true (by omega);have e:IntKind.i64.wrap (a:Int)=(a:Int):=cD (by omega);have g:IntKind.i64.wrap ((x:Int)+1)=((x+1:Nat):Int):=wi (n:=256) (by omega) (by decide);have q:(x < 256)=True:=eq_true (by omega);have p:(x+1<=256)=True:=eq_true (by omega);have l:=Un f (x:=x) (by omega);obtain⟨b,i⟩:=Hr c n a j m (x+1) (λy=>f y ||decide (x=y)) (by omega);rw[alO (by omega)]at i;have o:ev T wY pJ (Xt c n a x f)=Z (.norm,Xt c n a (x+1) (λy=>f y ||decide (x=y))):=by
   simp only[go_sem,reduceIte,bM,aN,cF,bm,cJ,bq,cK,cS,dG,dF,pJ,Xt,h,g,e,q,p,l,oZ,pX,bu,eo]
  refine⟨b,?_⟩;rw[gX,o];exact i
theorem Eh(c:M C)(n a x:Nat)(f:Nat->Bool)(e:a < 256)(j:x < 256):∃b:Int,ev T wY (.loop pJ) (Xt c n a x f)=Z (.exit 5,⟨[(0,.ptr 900 0),(2,.ptr 2 0),(3,.ptr 3 0),(6,.d (E (n:Int))),(8,.d (.int .u8 (a:Int))),(9,.d (E b)),(72,.d (.bool J))],[(2,vJ),(3,bC (rg f x a)),(900,c)],[]⟩):=by
 by_cases h:x<=a+1
 ·exact Hr c n a e (a+1 - x) x f (by omega)
 ·have i:((x:Int)<=(a:Int))=False:=eq_false (by omega);have g:IntKind.i64.wrap (a:Int)=(a:Int):=cD (by omega);refine⟨x,?_⟩;rw[abS (by omega),gX];simp only[go_sem,reduceIte,bM,aN,cF,bm,cJ,bq,cK,cS,dG,dF,pJ,Xt,i,g]
def FU(s:z)(i:Int)(b:Bool)(n:Nat)(f:Nat->Bool):St:=⟨[(0,.ptr 900 0),(2,.ptr 2 0),(3,.ptr 3 0),(6,.d (.int .i64 (n:Int)))],[(2,vJ),(3,bC f),(900,rC s i b)],[]⟩
theorem DR{s:z}{i B i2 i3:Int}{o b3 t:Bool}{n a z0:Nat}{f:Nat->Bool}(H:n<=mgK)(y:a < 256)(F:z0 < 256)(r:n=0\/ej T 275 [nk s i J,bt 93]=Z ([ys J],[nk s i J]))
  (m:ej T 278 [nk s i J]=Z ([.val J [.d (.int .u8 (a:Int))]],[nk s B o]))
  (l:ej T 275 [nk s B o,bt 126]=Z ([ys t],[nk s i2 o]))
  (G:t=I->ej T 278 [nk s i2 o]=Z ([.val J [.d (.int .u8 (z0:Int))]],[nk s i3 b3])) :
  ev T wY iO (FU s i J n f)=Z (.norm,FU s (if t then i3 else i2) ((if t then b3 else o) ||(t && Z' (z0 < a))) (n+1) (rg f a (if t then z0 else a))):=by
 have e:IntKind.i64.wrap ((n:Int)+1)=((n+1:Nat):Int):=wi (n:=mgK+1) (by omega) (by decide);have c:IntKind.i64.wrap (a:Int)=(a:Int):=cD (by omega);have A:∀(P:Prop),(n=0->P)->(¬n=0->ej T 275 [nk s i J,bt 93]=Z ([ys J],[nk s i J])->P)->P:=λP D C=>by
  by_cases h:n=0
  ·exact D h
  ·rcases r with r|r
   ·exact absurd r h
   ·exact C h r
 cases t with
 |false=>
  obtain⟨w,b⟩:=Eh (rC s i2 o) n a a f y y;have k:((a:Int) < (a:Int))=False:=eq_false (by omega);simp only[Xt]at b;refine A _ (λj=>?_) (λj q=>?_)
  ·subst j;simp only[show ((0:Nat):Int)=0 from rfl,bu,rn]at b e ⊢;simp only[go_sem,reduceIte,bM,aN,cF,bm,cJ,bq,cK,cS,dG,dF,iO,FU,mz,m,l,k,c,b,e,rn]
  ·have p:((n:Int)=0)=False:=eq_false (by omega);simp only[go_sem,reduceIte,bM,aN,cF,bm,cJ,bq,cK,cS,dG,dF,iO,FU,m,l,q,p,k,c,b,e]
 |true=>
  have g:=G rfl;have fin:∀(x:Bool),x=(b3 ||decide (z0 < a))->∃w:Int,ev T wY (.loop pJ) (Xt (rC s i3 x) n z0 a f)=Z (.exit 5,⟨[(0,.ptr 900 0),(2,.ptr 2 0),(3,.ptr 3 0),(6,.d (E (n:Int))),(8,.d (.int .u8 (z0:Int))),(9,.d (E w)),(72,.d (.bool J))],[(2,vJ),(3,bC (rg f a z0)),(900,rC s i3 x)],[]⟩):=λx _=>Eh _ n z0 a f F y;by_cases k:z0 < a
  ·obtain⟨w,b⟩:=fin I (by simp[k]);have v:((z0:Int) < (a:Int))=True:=eq_true (by omega);simp only[Xt]at b;simp only[k,decide_true,jr,la,if_true];refine A _ (λj=>?_) (λj q=>?_)
   ·subst j;simp only[show ((0:Nat):Int)=0 from rfl,bu,rn]at b e ⊢;simp only[go_sem,reduceIte,bM,aN,cF,bm,cJ,bq,cK,cS,dG,dF,iO,FU,mz,m,l,g,v,c,b,e,rn]
   ·have p:((n:Int)=0)=False:=eq_false (by omega);simp only[go_sem,reduceIte,bM,aN,cF,bm,cJ,bq,cK,cS,dG,dF,iO,FU,m,l,g,q,p,v,c,b,e]
  ·obtain⟨w,b⟩:=fin b3 (by simp[k]);have v:((z0:Int) < (a:Int))=False:=eq_false (by omega);simp only[Xt]at b;simp only[k,decide_false,kH,kg,if_true];refine A _ (λj=>?_) (λj q=>?_)
   ·subst j;simp only[show ((0:Nat):Int)=0 from rfl,bu,rn]at b e ⊢;simp only[go_sem,reduceIte,bM,aN,cF,bm,cJ,bq,cK,cS,dG,dF,iO,FU,mz,m,l,g,v,c,b,e,rn]
   ·have p:((n:Int)=0)=False:=eq_false (by omega);simp only[go_sem,reduceIte,bM,aN,cF,bm,cJ,bq,cK,cS,dG,dF,iO,FU,m,l,g,q,p,v,c,b,e]
theorem Hk{s:z}{i:Int}{n:Nat}{f:Nat->Bool}:ev T wY (.loop iO) (FU s i I n f)=Z (.exit 3,⟨[(0,.ptr 900 0),(2,.ptr 2 0),(3,.ptr 3 0),(6,.d (E (n:Int))),(51,.d (.bool J))],[(2,vJ),(3,bC f),(900,rC s i I)],[]⟩):=by
 rw[gX];simp only[go_sem,reduceIte,bM,aN,cF,bm,cJ,bq,cK,cS,dG,dF,iO,FU]
theorem Sf{s:z}{i a:Int}{n:Nat}{f:Nat->Bool}(e:n≠0)(c:ej T 275 [nk s i J,bt 93]=Z ([ys I],[nk s a J])) :
  ev T wY (.loop iO) (FU s i J n f)=Z (.exit 3,⟨[(0,.ptr 900 0),(2,.ptr 2 0),(3,.ptr 3 0),(6,.d (E (n:Int))),(51,.d (.bool J))],[(2,vJ),(3,bC f),(900,rC s a J)],[]⟩):=by
 have b:((n:Int)=0)=False:=eq_false (by omega);rw[gX];simp only[go_sem,reduceIte,bM,aN,cF,bm,cJ,bq,cK,cS,dG,dF,iO,FU,c,b]
theorem Wg{s:z}{i a k:Int}{b g:Bool}{n:Int}{f:Nat->Bool}(m:ej T 275 [nk s i b,bt 40]=Z ([ys J],[nk s i b]))(l:ej T 275 [nk s i b,bt 46]=Z ([ys J],[nk s i b]))(j:ej T 275 [nk s i b,bt 91]=Z ([ys I],[nk s a b]))
  (e:ev T wY (.loop iO) (FU s a b 0 λ_=>J)=Z (.exit 3,⟨[(0,.ptr 900 0),(2,.ptr 2 0),(3,.ptr 3 0),(6,.d (E n)),(51,.d (.bool J))],[(2,vJ),(3,bC f),(900,rC s k g)],[]⟩)) :
  ej T 279 [nk s i b]=Z ([.val I [.d (E 1),.d (.str (YY f)),.row ⟨[],3,J,I,I,J⟩]],[nk s k g]):=by
 have c:(aY 256 (C.d (.bool J)))=bC λ_=>J:=by rw[bC,qD];simp
 have h:=ahW f;simp only[FU,mz]at e
 conv at c=>lhs;reduce
 rw[vr (f:=279) rfl rfl,c];simp only[go_sem,reduceIte,bM,aN,cF,bm,cJ,bq,cK,cS,dG,dF,sV,sh,pH,oZ,yz,yA,Xe,E_,m,l,j,e,h,bm]
end
section
theorem nL{s:z}{i:Nat}{c:Int}{b:Bool}(e:s.size<=mg)(h:iC s i c=I):G 275 [.str s,E (i:Int),.bool b,.int .u8 c]=Z (0,[.bool I,.str s,E ((i+1:Nat):Int),.bool b]):=by
 obtain⟨a,f⟩:=mH.1 h;have d:=wj a e;refine cN XL rfl ?_;simp only[go_sem,XL,a,f,fF _ _ a,d]
theorem ou{s:z}{i:Nat}{c:Int}{b:Bool}(h:iC s i c=J):G 275 [.str s,E (i:Int),.bool b,.int .u8 c]=Z (0,[.bool J,.str s,E (i:Int),.bool b]):=by
 refine cN XL rfl ?_;by_cases a:i < s.size
 ·have d:=Qi h a;simp only[go_sem,XL,a,d,fF _ _ a]
 ·simp only[go_sem,XL,a]
theorem ahX(b:Int):G 277 [.int .u8 b]=Z (0,[.bool (Nx b)]):=by
 refine cN aiy rfl ?_;unfold Nx;cases f:fS 97 122 b<;>cases e:fS 48 57 b<;>simp only[go_sem,aiy,aaM,ad4,f,e]
 by_cases d:b=95
 ·simp only[go_sem,d]
 ·by_cases c:b=45
  ·simp only[go_sem,c]
  ·by_cases a:b=46
   ·simp only[go_sem,a]
   ·simp only[go_sem,d,c,a]
def A8(s:z)(i:Nat):Bool:=Z' (i < s.size) && Nx (eA s i)
theorem JP{s:z}{i:Nat}{b:Bool}(f:s.size<=mg)(h:A8 s i=I):G 278 [.str s,E (i:Int),.bool b]=Z (0,[.int .u8 (eA s i),.str s,E ((i+1:Nat):Int),.bool b]):=by
 simp only[A8,ai,decide_eq_true_eq]at h;obtain⟨a,g⟩:=h;have e:=wj a f;have c:=ahX (eA s i);have k:=fF s i a;have j:=air i (by omega);have d:¬s.size<=i:=by omega
 rw[g]at c;refine cN XM rfl ?_;simp only[go_sem,XM,oO,d,c,k,j,e]
theorem E7{s:z}{i:Nat}{b:Bool}(h:A8 s i=J):G 278 [.str s,E (i:Int),.bool b]=Z (0,[.int .u8 0,.str s,E (i:Int),.bool I]):=by
 refine cN XM rfl ?_;by_cases c:i < s.size
 ·simp only[A8,c,decide_true,cU]at h;have d:=ahX (eA s i);have e:=fF s i c;have a:¬s.size<=i:=by omega
  rw[h]at d;simp only[go_sem,XM,oO,a,d,e]
 ·have a:s.size<=i:=by omega
  simp only[go_sem,XM,oO,a]
theorem ad_(n:Nat):∀p:dB,aw p < n->xX 64 p=I->G 281 (je p)=Z (0,je p):=by
 induction n with
 |zero=>intro p h;omega
 |succ n r=>
  intro p x e;have f:=CP e;have d:∀k∈p.ae,G 281 (je k)=Z (0,je k):=λk d=>r k (by have:=dB.Kt d;omega) (CO e d);refine cN aiz (by rw[aW];rfl) ?_;have g:=ei (b:=lB G Jk) p.ae (λi (a:M dB)=>(0,[cC p.ae,E p.ae.length,E (i:Int),E p.op,.str p.text,cC p.ae,E 0,.str ⟨#[]⟩,cC a])) (λi=>p.ae.take i) (0,[cC p.ae,E p.ae.length,E p.ae.length,.bool J,E p.op,.str p.text,cC p.ae,E 0,.str ⟨#[]⟩,cC p.ae]) (by
   intro i k c;have j:=bw c;have s:=wj (i:=i) (n:=p.ae.length) j (by simp only[mg];omega);have m:=d k (bp c);have w:=K8 c;have v:=λ(op:Int) (t:z) (q:M dB)=>Ii (l:=p.ae.take i) (by rw[bj];simp only[mg];omega) op t q;rw[aW]at m;rw[cB _ _ _ c];simp only[go_sem,bK,Jk,j,w,jo];simp only[go_sem,aW k,m,tN,pU,v,cE,s]) (by
   rw[bo];simp only[go_sem,bK,Jk,aB]) p.ae.length 0 (by omega)
  have o:aU (.wB 3 J) []=Z (cC []):=wI 3 J;rw[n0,bE]at g;simp only[go_sem,aiz,aW p,cz,o,g]
theorem ald{p:dB}(a:xX 64 p=I):G 281 (je p)=Z (0,je p):=ad_ _ p (aS _) a
theorem vw{s:z}{i d:Nat}{c:Int}{b t:Bool}(h:G 275 [.str s,E (i:Int),.bool b,.int .u8 c]=Z (0,[.bool t,.str s,E (d:Int),.bool b])):ej T 275 [nk s i b,bt c]=Z ([ys t],[nk s d b]):=by
 obtain⟨a,r,v,j,g,f,e⟩:=GA T xf 275 _ rfl _ _ _ h;cases j;cases g;cases f
 exact e
theorem JA{s:z}{i c:Nat}{a:Int}{b e:Bool}(h:G 278 [.str s,E (i:Int),.bool b]=Z (0,[.int .u8 a,.str s,E (c:Int),.bool e])):ej T 278 [nk s i b]=Z ([.val J [.d (.int .u8 a)]],[nk s c e]):=by
 obtain⟨l,r,v,k,j,g,f⟩:=GA T xf 278 _ rfl _ _ _ h;cases k;cases j;cases g
 exact f
theorem WE{s:z}{i k:Nat}{p:dB}{b a:Bool}(h:G 280 [.str s,E (i:Int),.bool b]=Z (0,je p++[.str s,E (k:Int),.bool a])) :
  ej T 280 [nk s i b]=Z ([.val I [.d (E p.op),.d (.str p.text),.d (.list 3 J (p.ae.map je))]],[nk s k a]):=by
 rw[aW]at h;obtain⟨j,r,v,g,f,e,c⟩:=GA T xf 280 _ rfl _ _ _ h;cases g;cases f;cases e
 exact c
theorem WG{s:z}{i k:Nat}{p:dB}{b a:Bool}(h:G 280 [.str s,E (i:Int),.bool b]=Z (1,je p++[.str s,E (k:Int),.bool a])) :
  ej T 280 [nk s i b]=Z ([.val I [.d (E p.op),.d (.str p.text),.row ⟨p.ae.map je,3,J,J,I,I⟩]],[nk s k a]):=by
 rw[aW]at h;obtain⟨j,r,v,g,f,e,c⟩:=GA T xf 280 _ rfl _ _ _ h;cases g;cases f;cases e
 exact c
theorem VE{s:z}{i k:Nat}{p:dB}{b a:Bool}(h:ej T 279 [nk s i b]=Z ([.val I [.d (E p.op),.d (.str p.text),.d (.list 3 J (p.ae.map je))]],[nk s k a])) :
  G 279 [.str s,E (i:Int),.bool b]=Z (0,je p++[.str s,E (k:Int),.bool a]):=by
 rw[aW];exact xw (i:=279) (sg:=⟨279,[.box [.d,.d,.d]],_⟩) (v:=([.val I [.d,.d,.d]],[.box [.d,.d,.d]])) rfl rfl h rfl rfl
theorem VF{s:z}{i k:Nat}{p:dB}{b a:Bool}(h:ej T 279 [nk s i b]=Z ([.val I [.d (E p.op),.d (.str p.text),.row ⟨p.ae.map je,3,J,J,I,I⟩]],[nk s k a])) :
  G 279 [.str s,E (i:Int),.bool b]=Z (1,je p++[.str s,E (k:Int),.bool a]):=by
 rw[aW];exact xw (i:=279) (sg:=⟨279,[.box [.d,.d,.d]],_⟩) (v:=([.val I [.d,.d,.row 3 J J I I]],[.box [.d,.d,.d]])) rfl rfl h rfl rfl
theorem Ax{s:z}{i k:Nat}{t:z}{op:Int}{b a:Bool}(h:ej T 279 [nk s i b]=Z ([.val I [.d (E op),.d (.str t),.row ⟨[],3,J,I,I,J⟩]],[nk s k a])) :
  G 279 [.str s,E (i:Int),.bool b]=Z (2,je ⟨op,t,[]⟩++[.str s,E (k:Int),.bool a]):=by
 rw[aW];exact xw (i:=279) (sg:=⟨279,[.box [.d,.d,.d]],_⟩) (v:=([.val I [.d,.d,.row 3 J I I J]],[.box [.d,.d,.d]])) rfl rfl h rfl rfl
theorem UE(f:Nat->Bool):YY f=YV f:=(rfl)
theorem any_eq:YY (uI 127)=Ru:=by
 rw[UE,Ru]
 congr 1
 funext x
 simp only[uI]
 congr 1
 apply decide_eq_decide.2
 omega
theorem agt(f:Nat->Bool)(a b:Nat)(l:M (Int×Int)):(λy:Nat=>rg f a b y ||pF l y)=λy=>f y ||pF (((a:Int),(b:Int))::l) y:=V_ f a b l
def eC(s:z)(k:Nat)(b:Bool)(n:Int)(f:Nat->Bool):u (Ex×St):=Z (.exit 3,⟨[(0,.ptr 900 0),(2,.ptr 2 0),(3,.ptr 3 0),(6,.d (.int .i64 n)),(51,.d (.bool J))],[(2,vJ),(3,bC f),(900,rC s k b)],[]⟩)
theorem SD{s:z}(hs:s.size<=30):∀(g i n:Nat) (f:Nat->Bool),i<=s.size->s.size+1 - i<=g->n<=i->(n=0->iC s i 93=J)->
  ∃(k:Nat) (b:Bool) (r:Nat->Bool) (B:Int),ev T wY (.loop iO) (FU s i J n f)=eC s k b B r/\i<=k/\k<=s.size/\(match iW s g i with
   |some q=>b=J/\k=q.2/\r=λy=>f y ||pF q.1 y
   |none=>b=I):=by
 have w:s.size<=mg:=by simp only[mg];omega
 intro g
 induction g with
 |zero=>intro i n f h1 h2;omega
 |succ g ih=>
  intro i n f hi hg hn h0;cases v:iC s i 93 with
  |true=>
   have Y:=nH v;have e:=Sf (f:=f) (n:=n) (λh=>by rw[h0 h]at v;cases v) (vw (nL (b:=J) w v));refine⟨i+1,J,f,n,e,by omega,by omega,?_⟩;have:iW s (g+1) i=Z ([],i+1):=by simp only[iW,v,if_true]
   rw[this];exact⟨rfl,rfl,by funext y;simp[pF]⟩
  |false=>
   have D:n=0\/ej T 275 [nk s i J,bt 93]=Z ([ys J],[nk s i J]):=.inr (vw (ou v));have l:n<=mgK:=by simp only[mgK];omega
   have o:∀(k a c:Nat),i<=k->k<=s.size->rQ s i=O->ev T wY iO (FU s i J n f)=Z (.norm,FU s k I (n+1) (rg f a c))->
     ∃(k:Nat) (b:Bool) (r:Nat->Bool) (B:Int),ev T wY (.loop iO) (FU s i J n f)=eC s k b B r/\i<=k/\k<=s.size/\(match iW s (g+1) i with
      |some q=>b=J/\k=q.2/\r=λy=>f y ||pF q.1 y
      |none=>b=I):=by
    intro k a c W R m d;have hx:=Hk (s:=s) (i:=(k:Int)) (n:=n+1) (f:=rg f a c);refine⟨k,I,rg f a c,((n+1:Nat):Int),?_,W,R,?_⟩
    ·rw[gX,d];exact hx
    ·have:iW s (g+1) i=O:=by simp only[iW,v,aD,if_false,m]
     rw[this]
   have VJ:∀(k a c:Nat) (N:Int×Int),i < k->k<=s.size->rQ s i=Z (N,k)->N=((a:Int),(c:Int))->ev T wY iO (FU s i J n f)=Z (.norm,FU s k J (n+1) (rg f a c))->
     ∃(k:Nat) (b:Bool) (r:Nat->Bool) (B:Int),ev T wY (.loop iO) (FU s i J n f)=eC s k b B r/\i<=k/\k<=s.size/\(match iW s (g+1) i with
      |some q=>b=J/\k=q.2/\r=λy=>f y ||pF q.1 y
      |none=>b=I):=by
    intro k a c N W R m uo d;obtain⟨k',b',r,B,e1,e2,e3,Q⟩:=ih k (n+1) (rg f a c) R (by omega) (by omega) (λh=>by omega);refine⟨k',b',r,B,?_,by omega,e3,?_⟩
    ·rw[gX,d];exact e1
    ·have:iW s (g+1) i=(iW s g k).map λp=>(N::p.1,p.2):=by simp only[iW,v,aD,if_false,m]
     rw[this];cases X:iW s g k with
     |none=>rw[X]at Q;exact Q
     |some q=>
      rw[X]at Q;obtain⟨h5,h6,h7⟩:=Q;refine⟨h5,h6,?_⟩;rw[h7,uo];exact agt f a c q.1
   cases P:A8 s i with
   |false=>
    have m:rQ s i=O:=by
     have A:(Z' (i < s.size) && Nx (eA s i))=J:=P;simp only[rQ,A,aD,if_false]
    have x:=JA (E7 (b:=J) P);cases j:iC s i 126 with
    |false=>
     have d:=DR (a:=0) (z0:=0) (f:=f) (i3:=0) (b3:=J) l (by decide) (by decide) D x (vw (ou (b:=I) j)) (λh=>by cases h);exact o i 0 0 (az _) hi m (by simpa using d)
    |true=>
     have Y:=nH j;cases t:A8 s (i+1) with
     |false=>
      have d:=DR (a:=0) (z0:=0) (f:=f) l (by decide) (by decide) D x (vw (nL (b:=I) w j)) (λ_=>JA (E7 (b:=I) t));exact o (i+1) 0 0 (by omega) (by omega) m (by simpa using d)
     |true=>
      obtain⟨c,S,F⟩:=yy s (i+1);have K:=JA (JP (b:=I) w t);rw[F]at K;have V:i+1 < s.size:=by simp only[A8,ai,decide_eq_true_eq]at t;exact t.1
      have d:=DR (a:=0) (z0:=c) (f:=f) l (by decide) S D x (vw (nL (b:=I) w j)) (λ_=>K);exact o (i+1+1) 0 c (by omega) (by omega) m (by simpa using d)
   |true=>
    obtain⟨a,U,L⟩:=yy s i;have x:=JA (JP (b:=J) w P);rw[L]at x;have A:(Z' (i < s.size) && Nx (eA s i))=I:=P;have Y:i < s.size:=by simp only[ai,decide_eq_true_eq]at A;exact A.1
    cases j:iC s (i+1) 126 with
    |false=>
     have d:=DR (a:=a) (z0:=0) (f:=f) (i3:=0) (b3:=J) l U (by decide) D x (vw (ou (b:=J) j)) (λh=>by cases h);exact VJ (i+1) a a (eA s i,eA s i) (by omega) (by omega) (by simp only[rQ,A,j,if_true,aD,if_false]) (by rw[L]) (by simpa using d)
    |true=>
     have V:=nH j;cases t:A8 s (i+1+1) with
     |false=>
      have m:rQ s i=O:=by
       have G:(Z' (i+2 < s.size) && Nx (eA s (i+2)))=J:=t;simp only[rQ,A,j,if_true,<- iE,G,cM,aD,if_false]
      have d:=DR (a:=a) (z0:=0) (f:=f) l U (by decide) D x (vw (nL (b:=J) w j)) (λ_=>JA (E7 (b:=J) t));exact o (i+1+1) a 0 (by omega) (by omega) m (by simpa using d)
     |true=>
      obtain⟨c,S,F⟩:=yy s (i+1+1);have K:=JA (JP (b:=J) w t);rw[F]at K;have G:(Z' (i+2 < s.size) && Nx (eA s (i+2)))=I:=t;have al1:i+1+1 < s.size:=by simp only[ai,decide_eq_true_eq]at G;exact G.1
      have d:=DR (a:=a) (z0:=c) (f:=f) l U S D x (vw (nL (b:=J) w j)) (λ_=>K);by_cases H:c < a
      ·have C:¬eA s i<=eA s (i+2):=by rw[L,F];omega
       have m:rQ s i=O:=by simp only[rQ,A,j,if_true,<- iE,G,cU,C,decide_false,aD,if_false]
       exact o (i+1+1+1) a c (by omega) (by omega) m (by simpa [H] using d)
      ·have C:eA s i<=eA s (i+2):=by rw[L,F];omega
       exact VJ (i+1+1+1) a c (eA s i,eA s (i+2)) (by omega) (by omega) (by simp only[rQ,A,j,if_true,<- iE,G,cU,C,decide_true]) (by rw[L,F]) (by simpa [H] using d)
end
section
def ixB(t:z)(c:Int):Int:=Lib.indexByte t.data.toList c.toNat.toUInt8
theorem aid(t:z)(c:Int):G 9002 [.str t,.int .u8 c]=Z (0,[E (ixB t c)]):=
 xw (i:=9002) (sg:=⟨9002,[.val J [.d],.val J [.d]],[([.val J [.d]],[])]⟩) (v:=([.val J [.d]],[])) (j:=0) (r:=([.val J [.d (E (ixB t c))]],[])) (ws:=[.str t,.int .u8 c]) rfl rfl ((WA T rfl [.val J [.d (.str t)],.val J [.d (.int .u8 c)]]).trans rfl) rfl rfl
theorem Wf:∀(l:M UInt8) (c:UInt8),-1<=Lib.indexByte l c
 |[],c=>by simp[Lib.indexByte]
 |b::l,c=>by
  have a:=Wf l c;simp only[Lib.indexByte];split
  ·omega
  ·split<;>omega
theorem abG:∀(l:M UInt8) (c:UInt8),Z' (0<=Lib.indexByte l c)=l.any λx=>x ==c
 |[],c=>by simp[Lib.indexByte]
 |b::l,c=>by
  have e:=abG l c;have a:Lib.indexByte (b::l) c=if (b ==c)=I then 0 else if (Lib.indexByte l c == -1)=I then -1 else Lib.indexByte l c+1:=rfl
  rw[nj,<- e];have g:=Wf l c;by_cases h:(b ==c)=I
  ·rw[h,lg,decide_eq_true_eq,a,if_pos h];exact Int.le_refl 0
  ·rw[eg.2 h,gG]
   apply decide_eq_decide.2
   rw[a,if_neg h];split
   ·rename_i d;rw[beq_iff_eq]at d;omega
   ·rename_i d;have f:¬Lib.indexByte l c=-1:=by simpa using d
    omega
theorem ZS(t:z){s:z}{i:Nat}:Z' (0<=ixB t (eA s i))=hasB t (eA s i):=by
 rw[ixB,abG,dC,kI,hasB,kI];have f:∀k,eA t k=(((t.data.toList)[k]?.getD 0).toNat:Int):=λk=>by
  unfold eA
  congr 2
  simp only[Array.getElem?_toList];rfl
 have j:(eA s i).toNat.toUInt8=s[i]?.getD 0:=by unfold eA;simp
 have g:eA s i=((s[i]?.getD 0).toNat:Int):=rfl;rw[j]
 constructor
 ·rintro⟨x,h,a⟩
  obtain⟨k,c,d⟩:=List.getElem_of_mem h;refine⟨k,?_,?_⟩
  ·rw[List.mem_range];simpa using c
  ·rw[decide_eq_true_eq,f,g,fw c,d];rw[beq_iff_eq]at a;rw[a];rfl
 ·rintro⟨k,c,b⟩
  rw[List.mem_range]at c;have e:k < t.data.toList.length:=by simpa using c
  rw[decide_eq_true_eq,f,g,fw e]at b;refine⟨_,List.getElem_mem e,?_⟩;rw[beq_iff_eq];simp only[ku]at b;exact UInt8.toNat_inj.1 (by omega)
theorem Ad:∀(l:M Bool),lr (l.map BB)=Z l
 |[]=>rfl
 |b::l=>by
  have:=Ad l;simp only[aZ,BB,lr,this,aQ]
theorem Ns{a b:M Bool}(h:b.length=a.length)(c:0 < b.length):aU .jnl [bI a,bI b]=Z (bI (dM a b)):=by
 simp only[aU,Ad,aA,h];rw[if_pos ⟨trivial,trivial,trivial,trivial,λd=>by rw[List.map_eq_nil_iff]at d;rw[d]at c;exact absurd c (by simp)⟩];rfl
theorem Nr(a b:M Bool):aU .jnb [bI a,bI b]=Z (.bool (nC a b)):=by
 simp only[aU,Ad]
theorem SH{s t:z}{a:M Bool}{op ks:D}(w:s.size<=mg)(y:a.length=s.size+1) :
  cl (lB G AV) (0,[.str s,bI a,E 0,op,.str t,ks,bI (aY (s.size+1) J)])=Z (0,[.str s,bI a,E s.size,.bool J,op,.str t,ks,bI (M5 t s a)]):=by
 have h:=Io t s a;have g:=Lr (b:=lB G AV) (λi=>(0,[.str s,bI a,E (i:Int),op,.str t,ks,bI (ly (M5 t s a) (i+1))])) s.size (fin:=(0,[.str s,bI a,E s.size,.bool J,op,.str t,ks,bI (ly (M5 t s a) (s.size+1))])) (by
  intro i d;have f:IntKind.i64.wrap ((i:Int)+1)=((i+1:Nat):Int):=Gi (by omega);have j:nth a i=Z (a[i]'(by omega)):=dz (by omega);have p:=QN (t:=t) d j;have n:=Pw j;have o:i+1 < (ly (M5 t s a) (i+1)).length:=by rw[yR _ _ (by omega)];omega
  have m:=sY o;have l:=λc=>C6 (c:=c) o;have e:=At p;have k:=fF s i d;have v:=aid t (eA s i);have r:=ZS t (s:=s) (i:=i);generalize (a[i]'(by omega))=x at *;cases x with
  |false=>
   rw[cM]at e;simp only[go_sem,bK,AV,d,f,n,m,l,e,k]
  |true=>
   rw[cU]at e;simp only[go_sem,bK,AV,d,f,n,m,l,e,k,v,r]) (by
  simp only[go_sem,bK,AV,aB])
 have q:ly (M5 t s a) (0+1)=aY (s.size+1) J:=by
  rw[ly,h];simp[M5,gK]
 rw[q,n0]at g;rw[g]
 congr 9
 rw[<- h,NU]
section
variable {s:z} {k:dB} {f:M Bool->M Bool} (hf:∀x:M Bool,x.length=s.size+1->(f x).length=s.size+1)
 (ih:∀x:M Bool,x.length=s.size+1->G 308 (je k++[.str s,bI x])=Z (0,[bI (f x)]))
include hf ih
theorem SJ{t:z}:∀(m:Nat) (x:M Bool) (h:Nat) (c:D),h < 2->outs x < m->x.length=s.size+1->
  cl (lB G vn) (h,[.str s,c,E 4,.str t,cC [k],bI x])=Z (0,[.str s,.bool J,E 4,.str t,cC [k],bI (BW f m x)]):=by
 intro m
 induction m with
 |zero=>intro x h c o r;omega
 |succ m p=>
  intro x h c o r j;have g:=ih x j;rw[aW]at g;simp only[au,av]at g;have n:=hf x j;have i:=Ns (a:=x) (b:=f x) (by rw[n,j]) (by omega);have e:=Nr x (f x);have q:=j9 x (f x);have l:=Hf x (f x);simp only[BW];by_cases d:dM x (f x)=x
  ·rw[if_pos d];rw[decide_eq_true d,lL]at l;rw[l]at e;rw[d]at i;refine aX ?_
   match h,o with
   |0,_=>simp only[go_sem,bK,vn,xj,jo,aW k,g,i,e]
   |1,_=>simp only[go_sem,bK,vn,xj,jo,aW k,g,i,e]
  ·rw[if_neg d];rw[decide_eq_false d,gp]at l;rw[l]at e;refine (bU (s':=(1,[.str s,.bool I,E 4,.str t,cC [k],bI (dM x (f x))])) ?_).trans (p _ 1 (.bool I) (by decide) (by have:=(xK x (f x)).2 d;omega) (by rw[q];exact j))
   match h,o with
   |0,_=>simp only[go_sem,bK,vn,xj,jo,aW k,g,i,e]
   |1,_=>simp only[go_sem,bK,vn,xj,jo,aW k,g,i,e]
theorem SI{t:ByteArray}{x:M Bool}{z:D}(c:x.length=s.size+1) :
  cl (lB G vn) (0,[.str s,z,E 5,.str t,cC [k],bI x])=Z (0,[.str s,.bool J,E 5,.str t,cC [k],bI (dM x (f x))]):=by
 have e:=ih x c;rw[aW]at e;simp only[au,av]at e;have d:=hf x c;have i:=Ns (a:=x) (b:=f x) (by rw[d,c]) (by omega);have g:=Nr x (f x);refine aX ?_;cases h:nC x (f x)<;>rw[h]at g<;>simp only[go_sem,bK,vn,xj,jo,aW k,e,i,g]
end
def Fl(h:u D)(s:z)(l:M dB)(i:Nat)(x:M Bool):Nat×M D:=match h with
 |none=>(0,[.str s,cC l,.int .i64 l.length,.int .i64 (i:Int),bI x])
 |some a=>(1,[.str s,cC l,.int .i64 l.length,.int .i64 (i:Int),a,bI x])
def Ln(h:u D)(s:z)(l:M dB)(x:M Bool):Nat×M D:=match h with
 |none=>(0,[.str s,cC l,.int .i64 l.length,.int .i64 l.length,.bool J,bI x])
 |some a=>(1,[.str s,cC l,.int .i64 l.length,.int .i64 l.length,.bool J,a,bI x])
theorem Ht{s:z}{l:M dB}{f:dB->M Bool->M Bool}(p:l.length<=mg)(q:∀(k:dB) (x:M Bool),x.length=s.size+1->(f k x).length=s.size+1)
  (n:∀k∈l,∀x:M Bool,x.length=s.size+1->G 308 (je k++[.str s,bI x])=Z (0,[bI (f k x)])):∀(m i:Nat) (x:M Bool) (h:u D),i+m=l.length->x.length=s.size+1->
  ∃j,cl (lB G AW) (Fl h s l i x)=Z (Ln j s l ((l.drop i).foldl (λo k=>f k o) x))
 |0,i,x,h,t,d=>by
  obtain rfl:i=l.length:=by omega
  refine⟨h,aX ?_⟩;rw[bJ,yk];cases h with
  |none=>simp only[go_sem,bK,AW,Fl,Ln,aB]
  |some a=>simp only[go_sem,bK,AW,Fl,Ln,aB]
 |m+1,i,x,h,t,d=>by
  have e:nth l i=Z (l[i]'(by omega)):=dz (by omega);have g:i < l.length:=by omega
  have b:=wj g p;have c:=n _ (bp e) x d;have r:=K8 e;obtain⟨j,v⟩:=Ht p q n m (i+1) (f (l[i]'(by omega)) x) (Z (h.getD (bI x))) (by omega) (q _ x d);refine⟨j,(bU (s':=Fl (Z (h.getD (bI x))) s l (i+1) (f (l[i]'(by omega)) x)) ?_).trans (v.trans ?_)⟩
  ·generalize (l[i]'(by omega))=k at *;rw[aW]at c;simp only[au,av]at c;cases h with
   |none=>
    simp only[go_sem,bK,AW,Fl,g,b,r,jo];simp only[go_sem,aW k,c,b,Option.getD_none,ku]
   |some a=>
    simp only[go_sem,bK,AW,Fl,g,b,r,jo];simp only[go_sem,aW k,c,b,Option.getD_none,ku]
  ·rw[eM l i _ e,wO]
theorem aec{s:ByteArray}(P:s.size<=mg)(n:Nat):∀(p:dB) (a:M Bool),aw p < n->xX 64 p=I->a.length=s.size+1->G 308 (je p++[.str s,bI a])=Z (0,[bI (jg s n p a)]):=by
 induction n with
 |zero=>intro p a h;omega
 |succ n V=>
  intro p a hz S A;have c:=so (s:=s) n;have D:∀k∈p.ae,∀x:M Bool,x.length=s.size+1->G 308 (je k++[.str s,bI x])=Z (0,[bI (jg s n k x)]):=λk D x H=>V k x (by have:=dB.Kt D;omega) (CO S D) H;have d:=Gi P;have e:=yB (n:=s.size+1) (by simp only[mg]at P;omega);have su:=CP S;have j:=Uy (l:=aY (s.size+1) J) (m:=a) (by simpa using A);refine cN Gq (by rw[aW];rfl) ?_;simp only[jg];unfold La;by_cases q:p.op=1
  ·have r:=SH (s:=s) (t:=p.text) (a:=a) (op:=E 1) (ks:=cC p.ae) P A;rw[if_pos q];simp only[go_sem,d,e,j,Gq,aW p,q,r]
  rw[if_neg q];by_cases v:p.op=2
  ·rw[if_pos v];obtain⟨W,r⟩:=Ht (s:=s) (l:=p.ae) (f:=jg s n) (by simp only[mg];omega) c D p.ae.length 0 a O (by omega) A;rw[br]at r;simp only[Fl,n0]at r;cases W with
   |none=>
    simp only[Ln]at r;simp only[go_sem,d,e,j,Gq,aW p,q,v,r]
   |some z=>
    simp only[Ln]at r;simp only[go_sem,d,e,j,Gq,aW p,q,v,r]
  rw[if_neg v];by_cases y:p.op=3
  ·rw[if_pos y];have r:=ei (b:=lB G Jm) p.ae (λi (x:M Bool)=>(0,[.str s,bI a,cC p.ae,E p.ae.length,E (i:Int),bI x])) (λi=>(p.ae.take i).foldl (λo k=>dM o (jg s n k a)) (aY (s.size+1) J)) (0,[.str s,bI a,cC p.ae,E p.ae.length,E p.ae.length,.bool J,bI (p.ae.foldl (λo k=>dM o (jg s n k a)) (aY (s.size+1) J))]) (by
    intro i k L;have T:=bw L;have K:=wj (i:=i) (n:=p.ae.length) T (by simp only[mg];omega);have R:=D k (bp L) a A;have U:=Aw (s:=s) (g:=λk=>jg s n k a) (p.ae.take i) (aY (s.size+1) J) (by simp);have Y:=Ns (a:=(p.ae.take i).foldl (λo k=>dM o (jg s n k a)) (aY (s.size+1) J)) (b:=jg s n k a) (by rw[c k a A,U]) (by rw[c k a A];omega);have X:=Nr ((p.ae.take i).foldl (λo k=>dM o (jg s n k a)) (aY (s.size+1) J)) (jg s n k a);rw[aW]at R;simp only[au,av]at R;rw[xG _ _ _ _ _ L];simp only[go_sem,d,e,j,bK,Jm,T,K,K8 L,jo];simp only[go_sem,d,e,j,aW k,R,Y,X,K]) (by
    rw[bo];simp only[go_sem,d,e,j,bK,Jm,aB]) p.ae.length 0 (by omega)
   rw[n0,bE,yk]at r;simp only[go_sem,d,e,j,Gq,aW p,q,v,y,r]
  rw[if_neg y];by_cases C:p.op=4
  ·rw[if_pos C];have w:¬(4:Int)=5:=by decide
   by_cases F:p.ae.length=1
   ·obtain⟨k,B⟩:=dP.1 F;have N:=SJ (t:=p.text) (c k) (λx H=>D k (by rw[B];simp) x H) (s.size+2) a 0 (.bool J) (by decide) (by have:=JM a;omega) A;rw[B,JK];simp only[go_sem,d,e,j,Gq,aW p,q,v,y,C,w,B,N]
   ·rw[JL F];have Q:=aan F;simp only[go_sem,d,e,j,Gq,aW p,q,v,y,C,w,Q]
  rw[if_neg C];by_cases w:p.op=5
  ·rw[if_pos w];by_cases F:p.ae.length=1
   ·obtain⟨k,B⟩:=dP.1 F;have N:=SI (t:=p.text) (z:=.bool J) (c k) (λx H=>D k (by rw[B];simp) x H) A;rw[B,JK];simp only[go_sem,d,e,j,Gq,aW p,q,v,y,C,w,B,N]
   ·rw[JL F];have Q:=aan F;simp only[go_sem,d,e,j,Gq,aW p,q,v,y,C,w,Q]
  rw[if_neg w];simp only[go_sem,d,e,j,Gq,aW p,q,v,y,C,w]
theorem ali{s:z}{p:dB}(d:s.size<=mg)(m:xX 64 p=I):G 309 (je p++[.str s])=Z (0,[.bool (Oi p s)]):=by
 have k:=Gi d;have o:=yB (n:=s.size+1) (by simp only[mg]at d;omega);have e:=aec d (aw p+1) p (I::aY s.size J) (aS _) m (by simp);have g:=so (s:=s) (aw p+1) p (I::aY s.size J) (by simp);rw[aW]at e;simp only[au,av]at e;have j:=sY (l:=aY (s.size+1) J) (i:=0) (by simp);have f:=C6 (l:=aY (s.size+1) J) (i:=0) (c:=I) (by simp);have v:(aY (s.size+1) J).set 0 I=I::aY s.size J:=by rw[gK];rfl
 rw[v]at f;rw[n0]at j f;have t:=sY (l:=jg s (aw p+1) p (I::aY s.size J)) (i:=s.size) (by rw[g];omega);obtain⟨b,h⟩:∃b,nth (jg s (aw p+1) p (I::aY s.size J)) s.size=Z b:=⟨_,dz (by rw[g];omega)⟩
 have r:=C5 h;refine cN aiE (by rw[aW];rfl) ?_;have q:Oi p s=b:=by rw[Oi,h];rfl
 rw[q];generalize jg s (aw p+1) p (I::aY s.size J)=a at *;simp only[go_sem,aiE,aW p,k,o,j,f,e,t,r]
end
section
section
variable {s:z} {alt:Nat->PR}
theorem alc(wR:s.size<=30){i:Nat}(D:i < s.size)(hA:∀j,i < j->j<=s.size->C0 280 s j 0 2 J (alt j)):C0 279 s i 1 3 J (xp alt s i):=by
 have C:s.size<=mg:=by simp only[mg];omega
 unfold xp;cases G:iC s i 40 with
 |true=>
  have o:=vw (nL (b:=J) C G);obtain⟨j,p,k,b,W,P,V,p2,p3,A⟩:=hA (i+1) (by omega) (by omega);rw[if_pos rfl];cases L:iC s k 41 with
  |true=>
   have g:=vw (nL (b:=b) C L);have hk:=nH L;have F:PA s i 1 (match alt (i+1) with
     |some (p,j)=>if iC s j 41=I then Z (p,j+1) else O
     |none=>O) p (k+1) b:=by
    refine⟨V,by omega,by omega,?_⟩;cases e:alt (i+1) with
    |none=>rw[e]at A;exact A
    |some q=>
     rw[e]at A;obtain⟨Q,rfl,p5⟩:=A;simp only[L,if_true];exact⟨Q,trivial,by omega⟩
   match j,W with
   |0,_=>
    have:=IX (.inl ⟨_,rfl⟩) o (WE P) g;rw[lL,kg]at this;exact⟨0,p,k+1,b,by decide,VE this,F⟩
   |1,_=>
    have:=IX (.inr ⟨_,rfl⟩) o (WG P) g;rw[lL,kg]at this;exact⟨1,p,k+1,b,by decide,VF this,F⟩
  |false=>
   have g:=vw (ou (b:=b) L);have F:PA s i 1 (match alt (i+1) with
     |some (p,j)=>if iC s j 41=I then Z (p,j+1) else O
     |none=>O) p k I:=by
    refine⟨V,by omega,p3,?_⟩;cases e:alt (i+1) with
    |none=>rfl
    |some q=>
     rw[e]at A;obtain⟨Q,rfl,p5⟩:=A;simp only[L,aD,if_false]
   match j,W with
   |0,_=>
    have:=IX (.inl ⟨_,rfl⟩) o (WE P) g;rw[gp,la]at this;exact⟨0,p,k,I,by decide,VE this,F⟩
   |1,_=>
    have:=IX (.inr ⟨_,rfl⟩) o (WG P) g;rw[gp,la]at this;exact⟨1,p,k,I,by decide,VF this,F⟩
 |false=>
  have o:=vw (ou (b:=J) G);rw[if_neg da];cases m:iC s i 46 with
  |true=>
   have g:=vw (nL (b:=J) C m);have t:iC s i 91=J:=by
    rw[eg];intro h;have a1:=(mH.1 h).2;have a2:=(mH.1 m).2;omega
   have:=acQ o g;rw[any_eq]at this;rw[t,if_neg da,if_pos rfl];exact⟨2,⟨1,Ru,[]⟩,i+1,J,by decide,Ax this,kR _ _ (Af _),by omega,by omega,rfl,rfl,by omega⟩
  |false=>
   have g:=vw (ou (b:=J) m);cases t:iC s i 91 with
   |true=>
    have H:=vw (nL (b:=J) C t);rw[if_pos rfl];cases N:iC s (i+1) 93 with
    |false=>
     obtain⟨k,b,Y,n',e1,e2,e3,R⟩:=SD wR (s.size+1) (i+1) 0 (λ_=>J) (by omega) (by omega) (by omega) (λ_=>N);have:=Wg o g H e1;refine⟨2,⟨1,YY Y,[]⟩,k,b,by decide,Ax this,kR _ _ (Af _),by omega,e3,?_⟩;unfold Ms;cases e:iW s (s.size+1) (i+1) with
     |none=>rw[e]at R;exact R
     |some q=>
      obtain⟨l,k0⟩:=q;rw[e]at R;obtain⟨Q,X,h7⟩:=R;dsimp only at X;subst Q X;cases l with
      |nil=>
       exfalso
       simp only[iW,N,aD,if_false]at e
       split at e
       ·obtain⟨p,_,h⟩:=aj.1 e;simp at h
       ·cases e
      |cons r l=>
       have hf:YY Y=aer (r::l):=by
        rw[UE,aer,h7]
        congr 1
       rw[hf];exact⟨rfl,rfl,by omega⟩
    |true=>
     obtain⟨hl3,U⟩:=mH.1 N;have v:A8 s (i+1)=J:=by
      simp only[A8,U];rw[oV];exact .inr (by decide)
     have ht:iC s (i+1) 126=J:=by
      rw[eg];intro h;have a1:=(mH.1 h).2;omega
     have he:=DR (a:=0) (z0:=0) (f:=λ_=>J) (i3:=0) (b3:=J) (n:=0) (by decide) (by decide) (by decide) (.inl rfl) (JA (E7 (b:=J) v)) (vw (ou (b:=I) ht)) (λh=>by cases h);have hx:=Hk (s:=s) (i:=((i+1:Nat):Int)) (n:=1) (f:=rg (λ_=>J) 0 0);have hl:ev T wY (.loop iO) (FU s ((i+1:Nat):Int) J 0 λ_=>J)=Z (.exit 3,⟨[(0,.ptr 900 0),(2,.ptr 2 0),(3,.ptr 3 0),(6,.d (E ((1:Nat):Int))),(51,.d (.bool J))],[(2,vJ),(3,bC (rg (λ_=>J) 0 0)),(900,rC s ((i+1:Nat):Int) I)],[]⟩):=by
      rw[gX,he];exact hx
     have:=Wg o g H hl;refine⟨2,⟨1,YY _,[]⟩,i+1,I,by decide,Ax this,kR _ _ (Af _),by omega,by omega,?_⟩;have e:iW s (s.size+1) (i+1)=Z ([],i+1+1):=by simp only[iW,N,if_true]
     have:Ms s (i+1)=O:=by rw[Ms,e]
     rw[this]
   |false=>
    have H:=vw (ou (b:=J) t);rw[if_neg da,if_neg da];cases v:A8 s i with
    |false=>
     have:=Wh o g H (JA (E7 (b:=J) v));have S:(Z' (i < s.size) && pCh (eA s i))=J:=by
      simp only[A8,D,decide_true,cU,Nx]at v;simp only[D,decide_true,cU,pCh];generalize fS 97 122 (eA s i)=x at *;generalize fS 48 57 (eA s i)=y at *;generalize Z' (eA s i=45)=c at *;cases x<;>cases y<;>cases c<;>simp_all
     rw[S,if_neg da];exact⟨2,⟨1,_,[]⟩,i,I,by decide,Ax this,kR _ _ (by decide),by omega,by omega,rfl⟩
    |true=>
     have:=Wh o g H (JA (JP (b:=J) C v));have K:¬eA s i=46:=λh=>by rw[mH.2 ⟨D,h⟩]at m;cases m
     have e1:([dD (eA s i).toNat].toArray:Array UInt8)=(EU (eA s i)).data:=rfl;have B:(EU (eA s i)).size<=256:=by rw[EU,qO];simp
     have S:(Z' (i < s.size) && pCh (eA s i))=!Z' (eA s i=95):=by
      simp only[A8,D,decide_true,cU,Nx]at v;simp only[D,decide_true,cU,pCh];by_cases w:eA s i=95
      ·rw[w];decide
      ·simp only[w,K,decide_false,gG,kg]at v;rw[v];simp[w]
     rw[S];by_cases w:eA s i=95
     ·rw[decide_eq_true w,lg,la]at this;rw[decide_eq_true w,lL,if_neg da];exact⟨2,⟨1,EU (eA s i),[]⟩,i+1,I,by decide,Ax this,kR _ _ B,by omega,by omega,rfl⟩
     ·rw[decide_eq_false w,decide_eq_false K,kg,kg]at this;rw[decide_eq_false w,gp,if_pos rfl];exact⟨2,⟨1,EU (eA s i),[]⟩,i+1,J,by decide,Ax this,kR _ _ B,by omega,by omega,rfl,rfl,by omega⟩
theorem ale(B:s.size<=30){i:Nat}(r:C0 279 s i 1 3 J (xp alt s i)):C0 282 s i 1 4 J (sM alt s i):=by
 have o:s.size<=mg:=by simp only[mg];omega
 obtain⟨j,p,k,b,h,c,t,D,w,g⟩:=r;simp only[aW,au,av]at c;have q1:=ald t;rw[aW]at q1;have A:=QZ (n:=64) (by decide) (s:=s) k t;have y:=QY s p k;have a:PA s i 1 (sM alt s i) (E5 s p k).1 (E5 s p k).2 b:=by
  refine⟨A,by omega,y.2 w,?_⟩;unfold sM;cases v:xp alt s i with
  |none=>rw[v]at g;exact g
  |some q=>
   rw[v]at g;obtain⟨x,rfl,C⟩:=g;exact⟨x,rfl,by omega⟩
 unfold E5 at a;cases c1:iC s k 42 with
 |true=>
  have d:=nL (b:=b) o c1;rw[c1,if_pos rfl]at a
  match j,h with
  |0,_=>exact⟨0,_,_,b,by decide,cN pO rfl (by simp only[go_sem,c,cz,tN,jw,pU,xT,P1,P2,q1,cE,eT,pO,d,aW]),a⟩
  |1,_=>exact⟨0,_,_,b,by decide,cN pO rfl (by simp only[go_sem,c,cz,tN,jw,pU,xT,P1,P2,q1,cE,eT,pO,d,aW]),a⟩
  |2,_=>exact⟨3,_,_,b,by decide,cN pO rfl (by simp only[go_sem,c,cz,tN,jw,pU,xT,P1,P2,q1,cE,eT,pO,d,aW]),a⟩
 |false=>
  have d:=ou (b:=b) c1;rw[c1,if_neg da]at a;cases m:iC s k 43 with
  |true=>
   have e:=nL (b:=b) o m;rw[m,if_pos rfl]at a
   match j,h with
   |0,_=>exact⟨0,_,_,b,by decide,cN pO rfl (by simp only[go_sem,c,cz,tN,jw,pU,xT,P1,P2,q1,cE,eT,pO,d,e,aW]),a⟩
   |1,_=>exact⟨0,_,_,b,by decide,cN pO rfl (by simp only[go_sem,c,cz,tN,jw,pU,xT,P1,P2,q1,cE,eT,pO,d,e,aW]),a⟩
   |2,_=>exact⟨0,_,_,b,by decide,cN pO rfl (by simp only[go_sem,c,cz,tN,jw,pU,xT,P1,P2,q1,cE,eT,pO,d,e,aW]),a⟩
  |false=>
   have e:=ou (b:=b) m;rw[m,if_neg da]at a;cases l:iC s k 63 with
   |true=>
    have f:=nL (b:=b) o l;rw[l,if_pos rfl]at a
    match j,h with
    |0,_=>exact⟨0,_,_,b,by decide,cN pO rfl (by simp only[go_sem,c,cz,tN,jw,pU,xT,P1,P2,q1,cE,eT,pO,d,e,f,aW]),a⟩
    |1,_=>exact⟨0,_,_,b,by decide,cN pO rfl (by simp only[go_sem,c,cz,tN,jw,pU,xT,P1,P2,q1,cE,eT,pO,d,e,f,aW]),a⟩
    |2,_=>exact⟨3,_,_,b,by decide,cN pO rfl (by simp only[go_sem,c,cz,tN,jw,pU,xT,P1,P2,q1,cE,eT,pO,d,e,f,aW]),a⟩
   |false=>
    have f:=ou (b:=b) l;rw[l,if_neg da]at a
    match j,h with
    |0,_=>exact⟨1,_,_,b,by decide,cN pO rfl (by simp only[go_sem,c,cz,tN,jw,pU,xT,P1,P2,q1,cE,eT,pO,d,e,f,aW]),a⟩
    |1,_=>exact⟨2,_,_,b,by decide,cN pO rfl (by simp only[go_sem,c,cz,tN,jw,pU,xT,P1,P2,q1,cE,eT,pO,d,e,f,aW]),a⟩
    |2,_=>exact⟨3,_,_,b,by decide,cN pO rfl (by simp only[go_sem,c,cz,tN,jw,pU,xT,P1,P2,q1,cE,eT,pO,d,e,f,aW]),a⟩
end
end
section
section
variable {s:z} {alt:Nat->PR}
theorem SF(r:s.size<=30){i:Nat}{l:M dB}(v:l.length<=100)(h:vI s i=I)(g:C0 282 s i 1 4 J (sM alt s i)) :
  ∃(p:dB) (k:Nat) (b:Bool),lB G og (0,[E 0,.str ⟨#[]⟩,.str s,E (i:Int),.bool J,cC l])=Z (.go (0,[E 0,.str ⟨#[]⟩,.str s,E (k:Int),.bool b,cC (l++[p])]))/\PA s i 1 (sM alt s i) p k b:=by
 have m:l.length<=mg:=by simp only[mg];omega
 simp only[vI,ai,decide_eq_true_eq,ck,decide_eq_false_iff_not]at h;obtain⟨a,e,d⟩:=h;have f:=fF s i a;have fa:=λop t n=>Ii m op t n;obtain⟨j,p,k,b,o,c,q⟩:=g;simp only[aW,au,av]at c;refine⟨p,k,b,?_,q⟩
 match j,o with
 |0,_=>simp only[go_sem,a,e,d,f,c,cz,tN,jw,pU,fa,cE,bK,og]
 |1,_=>simp only[go_sem,a,e,d,f,c,cz,tN,jw,pU,fa,cE,bK,og]
 |2,_=>simp only[go_sem,a,e,d,f,c,cz,tN,jw,pU,fa,cE,bK,og]
 |3,_=>simp only[go_sem,a,e,d,f,c,cz,tN,jw,pU,fa,cE,bK,og]
theorem Z7(m:s.size<=30){i0:Nat}(F:∀j,i0 < j->j<=s.size->C0 280 s j 0 2 J (alt j)):∀(g i:Nat) (l:M dB),i0<=i->i<=s.size->s.size+1 - i<=g->YL l i->
  ∃(h:M dB) (k:Nat) (b:Bool),cl (lB G og) (0,[E 0,.str ⟨#[]⟩,.str s,E (i:Int),.bool J,cC l])=Z (0,[.bool J,E 0,.str ⟨#[]⟩,.str s,E (k:Int),.bool b,cC h])/\RdL i s l (vH alt s g i) h k b:=by
 have R:s.size<=mg:=by simp only[mg];omega
 intro g
 induction g with
 |zero=>intro i l _ w H;omega
 |succ g D=>
  intro i l T w H c;simp only[vH];cases d:vI s i with
  |false=>
   simp only[aD,if_false];refine⟨l,i,J,aX ?_,⟨by have:=c.1;omega,c.2⟩,az _,w,rfl,by rw[aJ],rfl⟩;by_cases a:i < s.size
   ·have x:=fF s i a;simp only[vI,a,decide_true,cU]at d;by_cases t:eA s i=124
    ·simp only[go_sem,bK,og,a,t,x]
    ·have f:eA s i=41:=by
      by_cases f:eA s i=41
      ·exact f
      ·simp[t,f]at d
     have B:¬(41:Int)=124:=by decide
     simp only[go_sem,bK,og,a,f,B,x]
   ·simp only[go_sem,bK,og,a]
  |true=>
   have a:i < s.size:=by simp only[vI,ai,decide_eq_true_eq]at d;exact d.1
   simp only[if_true];obtain⟨p,k,b,y,r,A,o,e⟩:=SF m (l:=l) (by have:=c.1;omega) d (ale m (alc m a λj S P=>F j (by omega) P));cases v:sM alt s i with
   |none=>
    rw[v]at e;subst e;refine⟨l++[p],k,I,(bU y).trans (aX ?_),py (n:=30) ⟨by have:=c.1;omega,c.2⟩ r (by decide),A,o,rfl⟩;simp only[go_sem,bK,og]
   |some q=>
    rw[v]at e;obtain⟨rfl,rfl,Q⟩:=e;obtain⟨h,C,N,L,K⟩:=D k (l++[p]) (by omega) o (by omega) (py c r (by omega));exact⟨h,C,N,(bU y).trans L,yv (by omega) K⟩
theorem ahY(m:s.size<=30){i:Nat}(w:i<=s.size)(o:∀j,i < j->j<=s.size->C0 280 s j 0 2 J (alt j)):C0 283 s i 0 2 J (Ci alt s i):=by
 obtain⟨f,k,b,l,h,y,x,c⟩:=Z7 m o (s.size+1) i [] (az _) w (by omega) ⟨by simp,by simp⟩;have e:aU (.wB 3 J) []=Z (cC []):=wI 3 J;have a:PA s i 0 (Ci alt s i) (sP 2 f) k b:=by
  refine⟨vT (by have:=h.1;omega) h.2,y,x,?_⟩;unfold Ci;cases g:vH alt s (s.size+1) i with
  |none=>rw[g]at c;exact c
  |some q=>
   rw[g]at c;obtain⟨v,t,r⟩:=c;subst t r;exact⟨v,rfl,by omega⟩
 by_cases d:f.length=1
 ·obtain⟨p,rfl⟩:=dP.1 d;have n:sP 2 [p]=p:=rfl;rw[n]at a;refine⟨0,p,k,b,by decide,cN Tn rfl ?_,a⟩;simp only[go_sem,Tn,cz,e,l,GY,GP,aW p]
 ·rw[Kc d]at a;refine⟨1,_,k,b,by decide,cN Tn rfl ?_,a⟩;simp only[go_sem,Tn,cz,e,l,Hx,d,aW,eT]
theorem aea{i:Nat}(c:i<=s.size):C0 283 s i 0 2 I O:=by
 have a:aU (.wB 3 J) []=Z (cC []):=wI 3 J;have b:cl (lB G og) (0,[E 0,.str ⟨#[]⟩,.str s,E (i:Int),.bool I,cC []])=Z (0,[.bool J,E 0,.str ⟨#[]⟩,.str s,E (i:Int),.bool I,cC []]):=by
  refine aX ?_;simp only[go_sem,bK,og]
 refine⟨1,⟨2,eT,[]⟩,i,I,by decide,cN Tn rfl ?_,xY BC (by simp) (by simp),az _,c,rfl⟩;simp only[go_sem,Tn,cz,n0,a,b,aW,eT]
theorem LQ(H:s.size<=30):∀(g i:Nat) (l:M dB),i<=s.size->s.size+1 - i<=g->YL l (i+2)->
  ∃(a:M dB) (k:Nat),cl (lB G o9) (0,[E 0,.str ⟨#[]⟩,.str s,E (i:Int),.bool I,cC l])=Z (0,[.bool J,E 0,.str ⟨#[]⟩,.str s,E (k:Int),.bool I,cC a])/\YL a 40/\i<=k/\k<=s.size:=by
 have y:s.size<=mg:=by simp only[mg];omega
 intro g
 induction g with
 |zero=>intro i l m B;omega
 |succ g x=>
  intro i l m B c;cases h:iC s i 124 with
  |false=>
   have d:=ou (b:=I) h;exact⟨l,i,aX (by simp only[go_sem,bK,o9,d]),⟨by have:=c.1;omega,c.2⟩,az _,m⟩
  |true=>
   have d:=nL (b:=I) y h;have L:=nH h;have n:l.length<=mg:=by have:=c.1;simp only[mg];omega
   have fa:=λop t v=>Ii n op t v;obtain⟨j,p,k,b,A,f,r,K,q,o⟩:=aea (s:=s) (i:=i+1) (by omega);simp only[aW,au,av]at f;have e:b=I:=o;subst e;have go:lB G o9 (0,[E 0,.str ⟨#[]⟩,.str s,E (i:Int),.bool I,cC l])=Z (.go (0,[E 0,.str ⟨#[]⟩,.str s,E (k:Int),.bool I,cC (l++[p])])):=by
    match j,A with
    |0,_=>simp only[go_sem,bK,o9,d,f,jw,pU,fa,cE]
    |1,_=>simp only[go_sem,bK,o9,d,f,jw,pU,fa,cE]
   obtain⟨a,w,F,D,N,C⟩:=x k (l++[p]) q (by omega) (py c r (by omega));exact⟨a,w,(bU go).trans F,D,by omega,C⟩
theorem Z6(o:s.size<=30){i0:Nat}(K:∀j,i0 < j->j<=s.size->C0 280 s j 0 2 J (alt j)):∀(g i:Nat) (l:M dB),i0<=i->i<=s.size->s.size+1 - i<=g->YL l (i+1)->
  ∃(a:M dB) (k:Nat) (b:Bool),cl (lB G o9) (0,[E 0,.str ⟨#[]⟩,.str s,E (i:Int),.bool J,cC l])=Z (0,[.bool J,E 0,.str ⟨#[]⟩,.str s,E (k:Int),.bool b,cC a])/\RdL i s l (BP alt s g i) a k b:=by
 have H:s.size<=mg:=by simp only[mg];omega
 intro g
 induction g with
 |zero=>intro i l _ B L;omega
 |succ g F=>
  intro i l V B L c;simp only[BP];cases m:iC s i 124 with
  |false=>
   have e:=ou (b:=J) m;simp only[aD,if_false];refine⟨l,i,J,aX ?_,⟨by have:=c.1;omega,c.2⟩,az _,B,rfl,by rw[aJ],rfl⟩;simp only[go_sem,bK,o9,e]
  |true=>
   have e:=nL (b:=J) H m;have U:=nH m;have r:l.length<=mg:=by have:=c.1;simp only[mg];omega
   have W:=λx=>Uk r x;have fa:=λop t D=>Ii r op t D;simp only[if_true];obtain⟨j,p,k,b,A,h,w,T,v,d⟩:=ahY o (i:=i+1) (by omega) λj A R=>K j (by omega) R;simp only[aW,au,av]at h;have go:lB G o9 (0,[E 0,.str ⟨#[]⟩,.str s,E (i:Int),.bool J,cC l])=Z (.go (0,[E 0,.str ⟨#[]⟩,.str s,E (k:Int),.bool b,cC (l++[p])])):=by
    match j,A with
    |0,_=>simp only[go_sem,bK,o9,e,h,jw,pU,fa,cE]
    |1,_=>simp only[go_sem,bK,o9,e,h,jw,pU,fa,cE]
   cases y:Ci alt s (i+1) with
   |none=>
    rw[y]at d;subst d;obtain⟨a,f,P,n,C,N⟩:=LQ o (s.size+1) k (l++[p]) v (by omega) (py c w (by omega));exact⟨a,f,I,(bU go).trans P,n,by omega,N,rfl⟩
   |some q=>
    rw[y]at d;obtain⟨rfl,rfl,S⟩:=d;obtain⟨a,f,Q,n,C⟩:=F k (l++[p]) (by omega) v (by omega) (py c w (by omega));exact⟨a,f,Q,(bU go).trans n,yv (by omega) C⟩
theorem ad9(r:s.size<=30){i:Nat}(R:i<=s.size)(B:∀j,i < j->j<=s.size->C0 280 s j 0 2 J (alt j)):C0 280 s i 0 2 J (E4 alt s i):=by
 obtain⟨j,p,k,b,A,f,x,F,w,l⟩:=ahY r R B;simp only[aW,au,av]at f;have L:∃(c:M dB) (a:Nat) (e:Bool),cl (lB G o9) (0,[E 0,.str ⟨#[]⟩,.str s,E (k:Int),.bool b,cC [p]])=Z (0,[.bool J,E 0,.str ⟨#[]⟩,.str s,E (a:Int),.bool e,cC c])/\PA s i 0 (E4 alt s i) (sP 3 c) a e:=by
  unfold E4;cases y:Ci alt s i with
  |none=>
   rw[y]at l;subst l;obtain⟨c,a,d,g,S,v⟩:=LQ r (s.size+1) k [p] w (by omega) ⟨by simp,by simpa using x⟩;exact⟨c,a,I,d,vT (by have:=g.1;omega) g.2,by omega,v,rfl⟩
  |some q=>
   rw[y]at l;obtain⟨rfl,rfl,T⟩:=l;obtain⟨c,a,e,d,g,S,v,o⟩:=Z6 r B (s.size+1) k [p] F w (by omega) ⟨by simp,by simpa using x⟩;refine⟨c,a,e,d,vT (by have:=g.1;omega) g.2,by omega,v,?_⟩;dsimp only;cases C:BP alt s (s.size+1) k with
   |none=>rw[C]at o;exact o
   |some q=>
    rw[C]at o;obtain⟨Q,P,N⟩:=o;subst P N;exact⟨Q,rfl,by omega⟩
 obtain⟨c,a,e,d,n⟩:=L;have K:∀(t:Nat×M D) (h:eZ G (O2.t) 0 [.str s,E (i:Int),.bool J]=Z t),True:=λ_ _=>trivial;by_cases m:c.length=1
 ·obtain⟨q,rfl⟩:=dP.1 m;have H:sP 3 [q]=q:=rfl;rw[H]at n;refine⟨0,q,a,e,by decide,cN O2 rfl ?_,n⟩
  match j,A with
  |0,_=>simp only[go_sem,O2,cz,f,jw,pU,P1,cE,d,GY,GP,aW q]
  |1,_=>simp only[go_sem,O2,cz,f,jw,pU,P1,cE,d,GY,GP,aW q]
 ·rw[Kc m]at n;refine⟨1,_,a,e,by decide,cN O2 rfl ?_,n⟩
  match j,A with
  |0,_=>simp only[go_sem,O2,cz,f,jw,pU,P1,cE,d,Hx,m,aW,eT]
  |1,_=>simp only[go_sem,O2,cz,f,jw,pU,P1,cE,d,Hx,m,aW,eT]
theorem W8(a:s.size<=30):∀(g i:Nat),i<=s.size->s.size+1 - i<=g->C0 280 s i 0 2 J (Tb s g i)
 |0,i,b,c=>by omega
 |g+1,i,b,c=>ad9 a b λj e d=>W8 a g j d (by omega)
end
theorem ahZ{s:z}:∃j p,j < 3/\G 284 [.str s]=Z (j,je p++[.bool (nZ s)])/\∀q,BQ s=Z q->p=q/\xX 64 p=I:=by
 unfold nZ BQ;by_cases h:30 < s.size
 ·refine⟨0,⟨0,eT,[]⟩,by decide,cN FC rfl ?_,λq a=>by rw[if_pos h]at a;cases a⟩;rw[if_pos h];simp only[go_sem,FC,cz,yT,h,aW,fH];rfl
 ·rw[if_neg h];obtain⟨j,p,k,b,f,c,i,n,m,e⟩:=W8 (s:=s) (by omega) (s.size+1) 0 (by omega) (by omega);simp only[aW,au,av,n0]at c;cases g:Tb s (s.size+1) 0 with
  |none=>
   rw[g]at e;subst e;refine⟨0,⟨0,eT,[]⟩,by decide,cN FC rfl ?_,λq a=>by cases a⟩
   match j,f with
   |0,_=>simp only[go_sem,FC,cz,yT,h,c,aW,fH];rfl
   |1,_=>simp only[go_sem,FC,cz,yT,h,c,aW,fH];rfl
  |some q=>
   rw[g]at e;obtain⟨rfl,rfl,l⟩:=e;dsimp only;by_cases d:k=s.size
   ·rw[if_pos d];refine⟨j+1,p,by omega,cN FC rfl ?_,λq a=>by cases a;exact⟨rfl,i⟩⟩
    match j,f with
    |0,_=>simp only[go_sem,FC,cz,yT,h,c,d,aW,kX]
    |1,_=>simp only[go_sem,FC,cz,yT,h,c,d,aW,kX]
   ·rw[if_neg d];refine⟨0,⟨0,eT,[]⟩,by decide,cN FC rfl ?_,λq a=>by cases a⟩
    match j,f with
    |0,_=>simp only[go_sem,FC,cz,yT,QK,h,c,d,aW,fH];rfl
    |1,_=>simp only[go_sem,FC,cz,yT,QK,h,c,d,aW,fH];rfl
theorem aeb(s:z):G 285 [.str s]=Z (0,[.bool (nZ s)]):=by
 obtain⟨j,p,b,a,_⟩:=ahZ (s:=s);simp only[aW,au,av]at a;refine cN aa8 rfl ?_
 match j,b with
 |0,_=>simp only[go_sem,aa8,a]
 |1,_=>simp only[go_sem,aa8,a]
 |2,_=>simp only[go_sem,aa8,a]
theorem aed{t s:z}(g:s.size<=mg):G 310 [.str t,.str s]=Z (0,[.bool (Mc t s)]):=by
 obtain⟨j,p,f,a,h⟩:=ahZ (s:=t);simp only[aW,au,av]at a;have qG:∀b,aU .pl [.bool b]=Z (.bool J):=λb=>rfl;refine cN O3 rfl ?_;unfold Mc;cases d:BQ t with
 |none=>
  have e:nZ t=J:=by rw[nZ,d];rfl
  rw[e]at a
  match j,f with
  |0,_=>simp only[go_sem,O3,a]
  |1,_=>simp only[go_sem,O3,a]
  |2,_=>simp only[go_sem,O3,a]
 |some q=>
  have e:nZ t=I:=by rw[nZ,d];rfl
  obtain⟨rfl,i⟩:=h q d;have c:=ali g i;simp only[aW,au,av]at c;rw[e]at a
  match j,f with
  |0,_=>simp only[go_sem,O3,a,c,qG]
  |1,_=>simp only[go_sem,O3,a,c,qG]
  |2,_=>simp only[go_sem,O3,a,c,qG]
end
def gv(c:Bool)(r:u D):u D:=if c=I then r else Z (.bool J)
def gw(c:Bool)(x:D):D:=if c=I then x else .bool J
@[congr] theorem afU {c a:Bool} {r b:u D} (h:c=a) (d:a=I->r=b):gv c r=gv a b:=by
 subst h;unfold gv;split
 ·exact d (by assumption)
 ·rfl
theorem dq(r:u D):gv I r=r:=(rfl)
theorem dh(r:u D):gv J r=Z (.bool J):=(rfl)
theorem dm(c:Bool)(x:D):gv c (Z x)=Z (gw c x):=by cases c<;>rfl
theorem bF(a b:Bool)(r:u D):gv (a && b) r=gv a (gv b r):=by cases a<;>cases b<;>rfl
theorem du(x:D):gw I x=x:=(rfl)
theorem dt(x:D):gw J x=.bool J:=(rfl)
theorem dr(c b:Bool):gw c (.bool b)=.bool (c && b):=by cases c<;>rfl
theorem dv(G:Gf)(a:M D)(c:Bool)(o:PO)(es:M SE)(t:ST):WS (Z c) G o es t a=opT (gv c (poT o (jc a es))) G t a:=by cases c<;>rfl
theorem afQ(G:Gf)(d:M D)(c:Bool)(a b:ST):TL (Z c) G a b d=if c=I then TL (Z I) G a b d else TL (Z J) G a b d:=by cases c<;>rfl
theorem adD(k:IntKind)(a b:Int):aU (.bin .eql) [.int k a,.int k b]=Z (.bool (Z' (a=b))):=by rw[BR];rfl
theorem adI(k:IntKind)(a b:Int):aU (.bin .neq) [.int k a,.int k b]=Z (.bool (!Z' (a=b))):=by rw[BR];rfl
theorem adH(k:IntKind)(a b:Int):aU (.bin .lss) [.int k a,.int k b]=Z (.bool (Z' (a < b))):=by rw[BR];rfl
theorem adG(k:IntKind)(a b:Int):aU (.bin .leq) [.int k a,.int k b]=Z (.bool (Z' (a<=b))):=by rw[BR];rfl
theorem adF(k:IntKind)(a b:Int):aU (.bin .gtr) [.int k a,.int k b]=Z (.bool (Z' (b < a))):=by rw[BR];rfl
theorem adE(k:IntKind)(a b:Int):aU (.bin .geq) [.int k a,.int k b]=Z (.bool (Z' (b<=a))):=by rw[BR];rfl
theorem adB(k:IntKind)(a b:Int):aU (.bin .add) [.int k a,.int k b]=Z (.int k (k.wrap (a+b))):=by rw[BR];rfl
theorem adK(a b:z):aU (.bin .eql) [.str a,.str b]=Z (.bool (Z' (a=b))):=by rw[WZ];rfl
theorem adJ(a b:z):aU (.bin .neq) [.str a,.str b]=Z (.bool (!Z' (a=b))):=by rw[WZ];rfl
theorem adC(a b:Bool):aU (.TI .neq) [.bool a,.bool b]=Z (.bool (!Z' (a=b))):=(rfl)
attribute [go_sem 2000] adD adI adH adG adF adE adB adK adJ adC
theorem iQ(a b:Bool):(a ||(!a && b))=(a ||b):=by cases a<;>rfl
theorem iR(a b:Bool):(!a ||(a && b))=(!a ||b):=by cases a<;>rfl
theorem iT(a b:Bool):(a && (!a ||b))=(a && b):=by cases a<;>rfl
theorem iU(a b:Bool):(!a && (a ||b))=(!a && b):=by cases a<;>rfl
theorem akA(k:IntKind)(n:Int):aU .pl [.int k n]=Z (.bool J):=(rfl)
theorem akz(b:Bool):aU .pl [.bool b]=Z (.bool J):=(rfl)
attribute [go_sem] akA akz
section
theorem qG(n:Int):aU .pl [E n]=Z (.bool J):=(rfl)
theorem OB(b:Bool):aU .pl [.bool b]=Z (.bool J):=(rfl)
theorem n8{l:M aE}{i:Nat}{y:aE}(h:nth l i=Z y):aU (.el 3) [aO l,E (i:Int)]=Z (.list 0 J [bl y]):=by
 rw[rR,aR,h];rfl
theorem tt{l:M aE}{y:aE}(a:bW bl l<=mg)(h:y∈l):y.ae.length<=mg/\bW bl y.ae<=mg:=by
 have a1:=dV bl h;rw[ij]at a1;refine⟨?_,by omega⟩;simp only[bW]at a1 a;omega
theorem pG{n:ah}(a:fm (ay n)<=mg):n.bk.length<=mg:=by
 rw[eR]at a;simp only[bW]at a;omega
theorem QO:∀{a b:M z},a.length=b.length->(∀j x,nth a j=Z x->nth b j=Z x)->a=b
 |[],[],_,_=>rfl
 |x::a,y::b,h,d=>by
  have f:=d 0 x rfl;cases f;rw[QO (a:=a) (b:=b) (by simpa using h) λj c e=>d (j+1) c e]
theorem YN{a b:M z}(h:a.length=b.length):allI (λi e=>Z' (nth b i=Z e)) 0 a=Z' (a=b):=by
 rw[dC,nq];simp only[bu,decide_eq_true_eq];exact⟨λd=>QO h d,λe j x c=>e▸c⟩
theorem akB{a b:M z}(o:a.length<=mg):G 100 [bn a,bn b]=Z (0,[.bool (Z' (a=b))]):=by
 refine cN t100 rfl ?_;by_cases j:a.length=b.length
 ·have d:(a.length:Int)=(b.length:Int):=by omega
  have h:=pD (b:=lB G D3) a (λi=>(0,[bn a,bn b,E a.length,E (i:Int)])) (λi e=>Z' (nth b i=Z e)) (1,[bn a,bn b,E a.length,E a.length,.bool J]) (0,[.bool J]) (by
   intro i e g;have k:=bw g;have m:=wj k o;have l:nth b i=Z (b[i]'(by omega)):=dz (by omega);rw[l];generalize (b[i]'(by omega))=f at *;by_cases c:e=f
   ·subst c;simp only[go_sem,bK,D3,k,m,aR,g,l,fo,aa]
   ·have p:¬f=e:=λh=>c h.symm;simp only[go_sem,bK,D3,k,m,aR,g,l,fo,c,p,aa]) (by simp only[go_sem,bK,D3,aB]) a.length 0 (by omega)
  rw[n0,br,YN j]at h;rw[j]at h;cases hd:Z' (a=b)<;>rw[hd]at h<;>simp only[go_sem]at h<;>simp only[go_sem,t100,d,h]
 ·have d:¬(a.length:Int)=(b.length:Int):=by omega
  have n:¬a=b:=λh=>j (by rw[h]);simp only[go_sem,t100,d,n]
theorem ZT(j:Nat):Z' ((j:Int) < 0)=J:=by simp only[decide_eq_false_iff_not];omega
theorem ag7(k:Int)(e:ah)(b:Bool):aU .TU [E k,.str e.ak,E e.type.aq,gg e.type.ranges,bn e.type.names,.str e.type.pattern,.str e.type.path,bn e.bk,bn e.unique,.str e.default,.bool e.given,.bool e.ft,.bool e.cZ,.bool e.fixed,E e.min,E e.max,ek e.when,ek e.jG,aF e.ae,.bool b]=Z (.bool J):=(rfl)
end
section
theorem gY{a:Type}(l:M a):Z' ((0:Int) < (l.length:Int))=!l.isEmpty:=by cases l<;>simp
theorem Sn{n:ah}(o:fm (ay n)<=mg) :
  cl (lB G AM) (0,E 0::ay n)=Z (if n.bk.all (AG n.ae)=I then (1,E n.bk.length::.bool J::ay n) else (0,[.bool J])):=by
 have c:=o;rw[eR]at c;have r:n.bk.length<=mg:=by simp only[bW]at c;omega
 have s:n.ae.length<=mg:=by simp only[bW]at c;omega
 have v:=mU (b:=lB G AM) n.bk (λi=>(0,E (i:Int)::ay n)) (AG n.ae) (1,E n.bk.length::.bool J::ay n) (0,[.bool J]) (by
  intro i e f;have k:=bw f;have m:=wj k r;have d:=q82 (l:=n.ae) (nm:=e) s;clear o c;cases a:dO n.ae e with
  |none=>
   have h:AG n.ae e=J:=by simp only[AG,vi,a]
   rw[a]at d;simp +contextual -implicitDefEqProofs only [go_sem,dv,dq,dh,dm,bF,du,dt,dr,bK,AM,af n,k,aR,f,fo,d,ko,h]
  |some j=>
   obtain⟨x,p,_⟩:=dU a;have h:AG n.ae e=(Z' (x.aq=3) && Si x):=by simp only[AG,vi,a,p]
   have t:Z' ((j:Int) < 0)=J:=by simp only[decide_eq_false_iff_not];omega
   rw[a]at d;rw[h,Si];simp +contextual -implicitDefEqProofs only [go_sem,dv,dq,dh,dm,bF,du,dt,dr,bK,AM,af n,k,aR,f,fo,d,ko]
   simp +contextual -implicitDefEqProofs only [go_sem,dv,dq,dh,dm,bF,du,dt,dr,t,p,aR,af x,gY,m]
   rw[afQ];generalize Z' (x.aq=3)=v3;generalize x.when.isEmpty=w;generalize x.given=g;generalize Z' (x.type.aq=6)=q;cases v3<;>cases w<;>cases g<;>cases q<;>simp +contextual -implicitDefEqProofs only [go_sem,dv,dq,dh,dm,bF,du,dt,dr,m]) (by simp +contextual -implicitDefEqProofs only [go_sem,dv,dq,dh,dm,bF,du,dt,dr,bK,AM,af n,aB])
 exact v
theorem So{n:ah}(m:fm (ay n)<=mg) :
  cl (lB G AN) (0,E 0::ay n)=Z (if n.unique.all (FF n.ae)=I then (1,E n.unique.length::.bool J::ay n) else (0,[.bool J])):=by
 have c:=m;rw[eR]at c;have p:n.unique.length<=mg:=by simp only[bW]at c;omega
 have q:n.ae.length<=mg:=by simp only[bW]at c;omega
 have s:=mU (b:=lB G AN) n.unique (λi=>(0,E (i:Int)::ay n)) (FF n.ae) (1,E n.unique.length::.bool J::ay n) (0,[.bool J]) (by
  intro i e f;have h:=bw f;have k:=wj h p;have d:=q82 (l:=n.ae) (nm:=e) q;clear m c;cases a:dO n.ae e with
  |none=>
   have g:FF n.ae e=J:=by simp only[FF,vi,a]
   rw[a]at d;simp +contextual -implicitDefEqProofs only [go_sem,dv,dq,dh,dm,bF,du,dt,dr,bK,AN,af n,h,aR,f,fo,d,ko,g]
  |some j=>
   obtain⟨x,o,_⟩:=dU a;have g:FF n.ae e=Z' (x.aq=3):=by simp only[FF,vi,a,o]
   have r:Z' ((j:Int) < 0)=J:=by simp only[decide_eq_false_iff_not];omega
   rw[a]at d;rw[g];simp +contextual -implicitDefEqProofs only [go_sem,dv,dq,dh,dm,bF,du,dt,dr,bK,AN,af n,h,aR,f,fo,d,ko]
   simp +contextual -implicitDefEqProofs only [go_sem,dv,dq,dh,dm,bF,du,dt,dr,r,o,aR,af x,k]
   rw[afQ];generalize Z' (x.aq=3)=v3;cases v3<;>simp +contextual -implicitDefEqProofs only [go_sem,dv,dq,dh,dm,bF,du,dt,dr,k]) (by simp +contextual -implicitDefEqProofs only [go_sem,dv,dq,dh,dm,bF,du,dt,dr,bK,AN,af n,aB])
 exact s
theorem akL{n:ah}(k:fm (ay n)<=mg):G 214 (ay n)=Z (0,[.bool (BN n)]):=by
 have j:=k;rw[eR]at j;have d:=Sn k;have e:=So k;have g:=ahI n.type;have i:=ahJ (l:=n.bk) (by simp only[bW]at j;omega);have h:=ahJ (l:=n.unique) (by simp only[bW]at j;omega);have f:=ahK n;clear k j;unfold BN;rw[ez]at g;simp only[af n]at d e f;refine cN t214 (by rw[af];rfl) ?_;generalize n.bk.all (AG n.ae)=q at *;generalize n.unique.all (FF n.ae)=p at *;generalize zT n.type=c at *;generalize rP n.bk=a at *;generalize rP n.unique=b at *;generalize mW n=o at *;cases q
 ·simp +contextual -implicitDefEqProofs only [go_sem,dv,dq,dh,dm,bF,du,dt,dr]at d
  simp +contextual -implicitDefEqProofs only [go_sem,dv,dq,dh,dm,bF,du,dt,dr,t214,af n,d]
 cases p
 ·simp +contextual -implicitDefEqProofs only [go_sem,dv,dq,dh,dm,bF,du,dt,dr]at d
  simp +contextual -implicitDefEqProofs only [go_sem,dv,dq,dh,dm,bF,du,dt,dr]at e
  simp +contextual -implicitDefEqProofs only [go_sem,dv,dq,dh,dm,bF,du,dt,dr,t214,af n,d,e]
 simp +contextual -implicitDefEqProofs only [go_sem,dv,dq,dh,dm,bF,du,dt,dr]at d
 simp +contextual -implicitDefEqProofs only [go_sem,dv,dq,dh,dm,bF,du,dt,dr]at e
 cases c
 ·simp only[go_sem,dv,dq,dh,dm,bF,du,dt,dr,gY,g,i,h,f,cz,bc,t214,af n,d,e]
 cases m:n.bk.isEmpty
 rotate_left
 ·simp only[go_sem,dv,dq,dh,dm,bF,du,dt,dr,gY,g,i,h,f,cz,bc,t214,af n,d,e,m]
 cases a
 ·simp only[go_sem,dv,dq,dh,dm,bF,du,dt,dr,gY,g,i,h,f,cz,bc,t214,af n,d,e,m]
 cases b
 ·simp only[go_sem,dv,dq,dh,dm,bF,du,dt,dr,gY,g,i,h,f,cz,bc,t214,af n,d,e,m]
 cases o<;>simp only[go_sem,dv,dq,dh,dm,bF,du,dt,dr,gY,g,i,h,f,cz,bc,t214,af n,d,e,m]
 generalize n.given=v;generalize n.ft=t;generalize n.cZ=s;generalize n.fixed=r;cases v<;>cases t<;>cases s<;>cases r<;>rfl
end
section
theorem Ml(o:u Nat)(i:Nat):Z' (ko o=(i:Int))=Z' (o=Z i):=by
 cases o with
 |none=>simp[ko]
 |some j=>exact decide_eq_decide.2 ⟨λh=>congrArg Z (Int.ofNat.inj h),λh=>congrArg Int.ofNat (iF h)⟩
theorem afC{d:M ah}{j:Nat}{e:ah}(h:nth d j=Z e):aU (.UY 19 1 1 I) [aF d,E (j:Int)]=Z (.list 0 J [ay e]):=by
 simp only[aU,cd,aR,h,aQ];rw[af];exact if_pos ⟨trivial,by decide,by simp only[aG];omega,rfl⟩
section
variable {ip:z->Bool} {mt:z->z->Bool} (hP:∀s:z,s.size<=mg->G 227 [.str s]=Z (0,[.bool (ip s)])) (hM:∀p s:z,p.size<=mg->s.size<=mg->G 236 [.str p,.str s]=Z (0,[.bool (mt p s)]))
include hP hM
theorem akU{n:ah}{free:Bool}(H:fm (ay n)<=mg):G 239 (ay n++[.bool free])=Z (0,[.bool (vC ip mt n free)]):=by
 have P:=H;rw[eR]at P;have f:=aaJ (s:=n.ak) (by omega);have d:G 210 [ek n.when,E 1]=_:=ahH (m:=1) (by omega);have c:G 210 [ek n.jG,E 3]=_:=ahH (m:=3) (by omega);have D:=ahI n.type;have L:=akL H;have i:=ahO hP (t:=n.type) (by omega);have C:=ahK n;have Q:=ahR hP hM (t:=n.type) (s:=n.default) (by omega) (by omega);clear H P hP hM;simp only[ez,af n,au,av]at D L i C Q;refine cN t239 (by rw[af];rfl) ?_;unfold vC Hh;generalize isName n.ak=W at *;generalize F5 n.when 1=V at *;generalize F5 n.jG 3=U at *;generalize N:zT n.type=a at *;generalize S:isType ip n.type=it at *;generalize X:mW n=os at *;cases W
 ·simp +contextual -implicitDefEqProofs only [go_sem,dv,dq,dh,dm,bF,du,dt,dr,ax,iQ,iR,iT,iU,aL,ef,ee,f,d,c,fq,cz,bc,t239,af n]
 cases V
 ·simp +contextual -implicitDefEqProofs only [go_sem,dv,dq,dh,dm,bF,du,dt,dr,ax,iQ,iR,iT,iU,aL,ef,ee,f,d,c,fq,cz,bc,t239,af n]
 cases U
 ·simp +contextual -implicitDefEqProofs only [go_sem,dv,dq,dh,dm,bF,du,dt,dr,ax,iQ,iR,iT,iU,aL,ef,ee,f,d,c,fq,cz,bc,t239,af n]
 have r:(n.bk.isEmpty && n.unique.isEmpty && Z' (n.default.size=0) && !n.given && !n.fixed && Z' (n.min=0) && Z' (n.max=0))=q9 n:=by simp only[q9,iE]
 by_cases x:n.aq=1
 ·have k:j7 ip mt n free=(q9 n && (!n.ft && a)):=by simp only[j7,x,N];rfl
  rw[k];simp +contextual -implicitDefEqProofs only [go_sem,dv,dq,dh,dm,bF,du,dt,dr,ax,iQ,iR,iT,iU,aL,ef,ee,f,d,c,fq,cz,bc,t239,af n,x]
  rw[r];generalize q9 n=v at *;clear r;obtain⟨w,l⟩:∃w,n.ft=w:=⟨_,rfl⟩
  cases v<;>cases w<;>simp only[go_sem,f,d,c,fq,cz,bc,t239,af n,D,l]
 by_cases k:n.aq=2
 ·have e:j7 ip mt n free=BN n:=by simp only[j7,x,k,if_true,if_false];rfl
  rw[e];rw[k]at L;simp +contextual -implicitDefEqProofs only [go_sem,dv,dq,dh,dm,bF,du,dt,dr,ax,iQ,iR,iT,iU,aL,ef,ee,f,d,c,fq,cz,bc,t239,af n,k,L]
 by_cases h:n.aq=3
 ·obtain⟨g,q⟩:∃g,(n.bk.isEmpty && n.unique.isEmpty && Z' (n.min=0) && Z' (n.max=0) && !n.cZ && n.ae.isEmpty)=g:=⟨_,rfl⟩
  have e:Ey ip n=(g && it):=by simp only[Ey,<- q,iE,S]
  have R:j7 ip mt n free=if n.given=I then (g && it) && (free && (!n.ft && (n.when.isEmpty && isVal ip mt n.type n.default))) else (g && it) && Z' (n.default.size=0):=by
   simp only[j7,h,e];rfl
  rw[R];generalize isVal ip mt n.type n.default=Y at *;obtain⟨K,o⟩:∃w,n.given=w:=⟨_,rfl⟩
  obtain⟨ne,B⟩:∃w,n.ft=w:=⟨_,rfl⟩
  obtain⟨T,l⟩:∃w,n.when.isEmpty=w:=⟨_,rfl⟩
  rw[o];simp +contextual -implicitDefEqProofs only [go_sem,dv,dq,dh,dm,bF,du,dt,dr,ax,iQ,iR,iT,iU,aL,ef,ee,f,d,c,fq,cz,bc,t239,af n,h,i]
  rw[q];clear q e R;cases g
  ·cases K<;>simp +contextual -implicitDefEqProofs only [go_sem,dv,dq,dh,dm,bF,du,dt,dr,ax,iQ,iR,iT,iU,aL,ef,ee,f,d,c,fq,cz,bc,t239,af n,h,i,o]
  cases it
  ·cases K<;>simp +contextual -implicitDefEqProofs only [go_sem,dv,dq,dh,dm,bF,du,dt,dr,ax,iQ,iR,iT,iU,aL,ef,ee,f,d,c,fq,cz,bc,t239,af n,h,i,o]
  cases K
  ·simp +contextual -implicitDefEqProofs only [go_sem,dv,dq,dh,dm,bF,du,dt,dr,ax,iQ,iR,iT,iU,aL,ef,ee,f,d,c,fq,cz,bc,t239,af n,h,i,o]
  cases free
  ·simp +contextual -implicitDefEqProofs only [go_sem,dv,dq,dh,dm,bF,du,dt,dr,ax,iQ,iR,iT,iU,aL,ef,ee,f,d,c,fq,cz,bc,t239,af n,h,i,o]
  cases ne
  rotate_left
  ·simp +contextual -implicitDefEqProofs only [go_sem,dv,dq,dh,dm,bF,du,dt,dr,ax,iQ,iR,iT,iU,aL,ef,ee,f,d,c,fq,cz,bc,t239,af n,h,i,o,B]
  cases T<;>simp +contextual -implicitDefEqProofs only [go_sem,dv,dq,dh,dm,bF,du,dt,dr,ax,iQ,iR,iT,iU,aL,ef,ee,f,d,c,fq,cz,bc,t239,af n,h,i,o,B,l,Q]
 by_cases j:n.aq=4
 ·obtain⟨g,q⟩:∃g,(n.bk.isEmpty && n.unique.isEmpty && Z' (n.default.size=0) && !n.given && !n.fixed && !n.ft && !n.cZ && n.ae.isEmpty)=g:=⟨_,rfl⟩
  have e:j7 ip mt n free=(g && (os && it)):=by simp only[j7,j,<- q,L5,iE,S,X];rfl
  rw[e];rw[j]at C;simp +contextual -implicitDefEqProofs only [go_sem,dv,dq,dh,dm,bF,du,dt,dr,ax,iQ,iR,iT,iU,aL,ef,ee,f,d,c,fq,cz,bc,t239,af n,j,C,i]
  rw[q];clear q e;cases g
  ·simp +contextual -implicitDefEqProofs only [go_sem,dv,dq,dh,dm,bF,du,dt,dr,ax,iQ,iR,iT,iU,aL,ef,ee,f,d,c,fq,cz,bc,t239,af n,j]
  cases os<;>simp +contextual -implicitDefEqProofs only [go_sem,dv,dq,dh,dm,bF,du,dt,dr,ax,iQ,iR,iT,iU,aL,ef,ee,f,d,c,fq,cz,bc,t239,af n,j,C,i]
 by_cases A:n.aq=5
 ·have e:j7 ip mt n free=(q9 n && (!n.cZ && (n.jG.isEmpty && a))):=by simp only[j7,A,N];rfl
  rw[e];simp +contextual -implicitDefEqProofs only [go_sem,dv,dq,dh,dm,bF,du,dt,dr,ax,iQ,iR,iT,iU,aL,ef,ee,f,d,c,fq,cz,bc,t239,af n,A]
  rw[r];generalize q9 n=v at *;clear r;obtain⟨w,l⟩:∃w,n.cZ=w:=⟨_,rfl⟩
  obtain⟨b,F⟩:∃w,n.jG.isEmpty=w:=⟨_,rfl⟩
  cases v<;>cases w<;>cases b<;>simp only[go_sem,f,d,c,fq,cz,bc,t239,af n,D,l,F]
 by_cases y:n.aq=6
 ·have e:j7 ip mt n free=(q9 n && (!n.cZ && (!n.ft && (n.jG.isEmpty && a)))):=by simp only[j7,y,N];rfl
  rw[e];simp +contextual -implicitDefEqProofs only [go_sem,dv,dq,dh,dm,bF,du,dt,dr,ax,iQ,iR,iT,iU,aL,ef,ee,f,d,c,fq,cz,bc,t239,af n,y]
  rw[r];generalize q9 n=v at *;clear r;obtain⟨w,l⟩:∃w,n.cZ=w:=⟨_,rfl⟩
  obtain⟨b,F⟩:∃w,n.jG.isEmpty=w:=⟨_,rfl⟩
  obtain⟨ne,B⟩:∃w,n.ft=w:=⟨_,rfl⟩
  cases v<;>cases w<;>cases b<;>cases ne<;>simp only[go_sem,f,d,c,fq,cz,bc,t239,af n,D,l,F,B]
 have e:j7 ip mt n free=J:=by simp only[j7,x,k,h,j,A,y,if_false]
 rw[e];simp +contextual -implicitDefEqProofs only [go_sem,dv,dq,dh,dm,bF,du,dt,dr,ax,iQ,iR,iT,iU,aL,ef,ee,f,d,c,fq,cz,bc,t239,af n,x,k,h,j,A,y]
theorem adY(m:Nat):∀(l:M ah) (k:Int) (free:Bool) (deep:Nat),aw l < m->bW ay l<=mg->deep+tf l<=2 * mg->
  G 240 [aF l,E k,.bool free,E (deep:Int)]=Z (0,[.bool (rN ip mt m l k free deep)]):=by
 induction m with
 |zero=>intro l k free deep h;omega
 |succ m w=>
  intro l k free deep F j hd;have H:l.length<=mg:=by simp only[bW]at j;omega
  have t:=q81 j;have D:(dk l).length<=mg:=by have:=nV (es:=l);simp only[bW]at this j;omega
  have d:=pD (b:=lB G xN) l (λi=>(0,[aF l,E k,.bool free,E (deep:Int),E (i:Int),aF (dk l)])) (λi n=>Z' (dO l n.ak=Z i) && (Z' (Z' (k=5)=Z' (n.aq=6)) && (vC ip mt n free && rN ip mt m n.ae n.aq (sW n free) (deep+1))))
   (1,[aF l,E k,.bool free,E (deep:Int),E l.length,.bool J,aF (dk l)]) (0,[.bool J]) (by
   intro i n a;have c:=bw a;have e:=wj c H;have B:=bp a;have y:fm (ay n)<=mg:=by have:=dV ay B;omega
   have f:=q82 (l:=l) (nm:=n.ak) H;have r:=akU hP hM (n:=n) (free:=free) y;have q:=w n.ae n.aq (sW n free) (deep+1) (by have:=ba B;have:=ah.er n;omega) (aH (ew n) y) (by have:=(Cw l _).1 (az _) n B;omega);have g:=Ml (dO l n.ak) i;have x:IntKind.i64.wrap ((deep:Int)+1)=((deep+1:Nat):Int):=by rw[wrap_i64 (by simp only[mg]at hd;omega)];omega
   have hB:(free && n.when.isEmpty && !Z' (n.aq=6))=sW n free:=by simp only[sW,iE]
   simp only[af n,au,av]at r;clear w hP hM j F hd y t;rw[<- hB]at q ⊢;clear hB;generalize vC ip mt n free=K at *;generalize rN ip mt m n.ae n.aq (free && n.when.isEmpty && !Z' (n.aq=6)) (deep+1)=L at *;generalize Z' (dO l n.ak=Z i)=A at *;obtain⟨di,v⟩:∃b,Z' (Z' (k=5)=Z' (n.aq=6))=b:=⟨_,rfl⟩
   rw[v];cases A
   ·simp +contextual -implicitDefEqProofs only [go_sem,dv,dq,dh,dm,bF,du,dt,dr,ax,iQ,iR,iT,iU,aL,ef,ee,bK,xN,c,e,aR,a,af n,bO,fq,v,f,g,x,r,q]
   cases di
   ·simp +contextual -implicitDefEqProofs only [go_sem,dv,dq,dh,dm,bF,du,dt,dr,ax,iQ,iR,iT,iU,aL,ef,ee,bK,xN,c,e,aR,a,af n,bO,fq,v,f,g,x,r,q]
   cases K
   ·simp +contextual -implicitDefEqProofs only [go_sem,dv,dq,dh,dm,bF,du,dt,dr,ax,iQ,iR,iT,iU,aL,ef,ee,bK,xN,c,e,aR,a,af n,bO,fq,v,f,g,x,r,q]
   cases L<;>simp +contextual -implicitDefEqProofs only [go_sem,dv,dq,dh,dm,bF,du,dt,dr,ax,iQ,iR,iT,iU,aL,ef,ee,bK,xN,c,e,aR,a,af n,bO,fq,v,f,g,x,r,q]
   ) (by simp only[go_sem,bK,xN,aB]) l.length 0 (by omega)
  have o:=pD (b:=lB G I_) (dk l) (λi=>(0,[aF l,E (deep:Int),E (i:Int),aF (dk l)])) (λi n=>Z' (dO (dk l) n.ak=Z i))
   (1,[aF l,E (deep:Int),E (dk l).length,.bool J,aF (dk l)]) (0,[.bool J]) (by
   intro i n a;have c:=bw a;have e:=wj c D;have f:=q82 (l:=dk l) (nm:=n.ak) D;have g:=Ml (dO (dk l) n.ak) i;have P:=lZ 19 J ((dk l).map ay) i (by rw[aA];exact c);have N:=afC a;clear w hP hM j F hd t;generalize Z' (dO (dk l) n.ak=Z i)=A at *;cases A<;>simp +contextual -implicitDefEqProofs only [go_sem,dv,dq,dh,dm,bF,du,dt,dr,ax,iQ,iR,iT,iU,aL,ef,ee,bK,I_,c,e,aR,a,af n,bO,f,g,P,N]
   ) (by simp only[go_sem,bK,I_,aB]) (dk l).length 0 (by omega)
  rw[n0,br]at d o;have C:Z' ((deep:Int)<=8)=Z' (deep<=8):=decide_eq_decide.2 (by omega);refine cN t240 rfl ?_;rw[rN];generalize allI _ 0 l=a1 at *;generalize allI _ 0 (dk l)=a2 at *;clear w hP hM;cases a1
  ·simp only[go_sem]at d;simp +contextual -implicitDefEqProofs only [go_sem,dv,dq,dh,dm,bF,du,dt,dr,ax,iQ,iR,iT,iU,aL,ef,ee,t240,t,d]
  cases a2
  ·simp only[go_sem]at d;simp only[go_sem]at o;simp +contextual -implicitDefEqProofs only [go_sem,dv,dq,dh,dm,bF,du,dt,dr,ax,iQ,iR,iT,iU,aL,ef,ee,t240,t,d,o]
  simp only[go_sem]at d;simp only[go_sem]at o;simp +contextual -implicitDefEqProofs only [go_sem,dv,dq,dh,dm,bF,du,dt,dr,ax,iQ,iR,iT,iU,aL,ef,ee,t240,t,d,o,C,fq]
theorem akV{l:M ah}(a:bW ay l<=mg):G 241 [aF l]=Z (0,[.bool (DQ ip mt l)]):=by
 obtain⟨r,f,d⟩:=akE a (x:=60) (by omega) (by omega);have b:=adY hP hM (aw l+1) l 0 I 1 (aS _) a (by have:=UU (l:=l);simp only[mg]at *;omega);rw[n1]at b;have e:Z' (0<=r)=Z' (eK l<=60):=by
  apply decide_eq_decide.2
  unfold vW at d;omega
 clear hP hM d;refine cN t241 rfl ?_;unfold DQ;generalize rN ip mt (aw l+1) l 0 I 1=k at *;generalize Z' (eK l<=60)=c at *;cases c<;>simp +contextual -implicitDefEqProofs only [go_sem,dv,dq,dh,dm,bF,du,dt,dr,ax,iQ,iR,iT,iU,aL,ef,ee,t241,f,e,b]
end
end
section
theorem acq{c β:Type}(a:M c)(b:M β)(e:a.length<=mg)(d:b.length<=mg):Z' ((0:Int) < IntKind.i64.wrap ((a.length:Int)+(b.length:Int)))=!(a.isEmpty && b.isEmpty):=by
 rw[wrap_i64 (by simp only[mg]at e d;omega)];cases a<;>cases b<;>simp<;>omega
theorem u0{b:Type}(a:M b):Z' ((1:Int)<=(a.length:Int))=!a.isEmpty:=by cases a<;>simp;omega
section
variable {ip:z->Bool} {mt:z->z->Bool} (hP:∀s:z,s.size<=mg->G 285 [.str s]=Z (0,[.bool (ip s)])) (hM:∀p s:z,p.size<=mg->s.size<=mg->G 310 [.str p,.str s]=Z (0,[.bool (mt p s)]))
include hP hM
theorem alj{n:ah}(hs:fm (ay n)<=mg):G 313 (ay n)=Z (0,[.bool (zu ip mt n)]):=by
 have T:=hs;rw[eR]at T;have e:=aaN (s:=n.ak) (by omega);have d:G 269 [ek n.when,E 1]=_:=ahV (m:=1) (by omega);have c:G 269 [ek n.jG,E 3]=_:=ahV (m:=3) (by omega);have f:=ak_ n.type;have S:=ala n;have v:=ah0 hP (t:=n.type) (by omega);have f7:=ah3 hP hM (t:=n.type) (s:=n.default) (by omega) (by omega);have i:=zC n.aq;have W:n.bk.length<=mg:=by simp only[bW]at T;omega
 have C:n.unique.length<=mg:=by simp only[bW]at T;omega
 have h:=acq n.bk n.unique W C;have N:=Tf (l:=n.bk) W;have Y:=Tf (l:=n.unique) C;have R:=ad7 (l:=n.bk) (by omega);have g5:=ad7 (l:=n.unique) (by omega);have D:Z' ((n.bk.length:Int)<=3)=Z' (n.bk.length<=3):=decide_eq_decide.2 (by omega);have V:Z' ((n.unique.length:Int)<=3)=Z' (n.unique.length<=3):=decide_eq_decide.2 (by omega);clear hs T hP hM W C;simp only[ez,af n,au,av]at f S v f7;refine cN k9 (by rw[af];rfl) ?_;unfold zu Hh;generalize isName n.ak=h1 at *;generalize F5 n.when 1=h2 at *;generalize F5 n.jG 3=h3 at *;generalize L:zT n.type=a at *;generalize K:isType ip n.type=it at *;generalize H:mW n=os at *;cases h1
 ·simp +contextual -implicitDefEqProofs only [go_sem,dv,dq,dh,dm,bF,du,dt,dr,ax,iQ,iR,iT,iU,aL,ef,ee,e,d,c,fq,cz,bc,gY,k9,af n]
 cases h2
 ·simp +contextual -implicitDefEqProofs only [go_sem,dv,dq,dh,dm,bF,du,dt,dr,ax,iQ,iR,iT,iU,aL,ef,ee,e,d,c,fq,cz,bc,gY,k9,af n]
 cases h3
 ·simp +contextual -implicitDefEqProofs only [go_sem,dv,dq,dh,dm,bF,du,dt,dr,ax,iQ,iR,iT,iU,aL,ef,ee,e,d,c,fq,cz,bc,gY,k9,af n]
 by_cases B:n.aq=1
 ·have i:G 92 [E 1]=Z (0,[.bool I]):=zC 1;have k:p9 n=(!a ||!(n.bk.isEmpty && n.unique.isEmpty) ||(!Z' (n.default.size=0) ||n.given ||n.fixed) ||n.ft ||(!Z' (n.min=0) ||!Z' (n.max=0))):=by simp[p9,B,L,kM,fS,iu]
  have j:lO ip mt n=I:=by simp[lO,B,K,H]
  rw[k,j];simp +contextual -implicitDefEqProofs only [go_sem,dv,dq,dh,dm,bF,du,dt,dr,ax,iQ,iR,iT,iU,aL,ef,ee,e,d,c,fq,cz,bc,gY,k9,af n,f,h,B]
  generalize (!a ||!(n.bk.isEmpty && n.unique.isEmpty) ||(!Z' (n.default.size=0) ||n.given ||n.fixed) ||n.ft ||(!Z' (n.min=0) ||!Z' (n.max=0)))=F at *;clear k j;cases F<;>simp +contextual -implicitDefEqProofs only [go_sem,dv,dq,dh,dm,bF,du,dt,dr,ax,iQ,iR,iT,iU,aL,ef,ee,e,d,c,fq,cz,bc,gY,k9,af n,f,h,B,i]
 by_cases o:n.aq=2
 ·have i:G 92 [E 2]=Z (0,[.bool I]):=zC 2;rw[o]at S;have k:p9 n=(!a ||(!Z' (n.default.size=0) ||n.given ||n.fixed) ||n.ft ||n.cZ):=by simp[p9,o,L,kM,fS,iu]
  have j:lO ip mt n=(!n.bk.isEmpty && (nK n.bk && (nK n.unique && os))):=by simp[lO,o,K,H]
  rw[k,j];simp +contextual -implicitDefEqProofs only [go_sem,dv,dq,dh,dm,bF,du,dt,dr,ax,iQ,iR,iT,iU,aL,ef,ee,e,d,c,fq,cz,bc,gY,k9,af n,f,h,o]
  generalize (!a ||(!Z' (n.default.size=0) ||n.given ||n.fixed) ||n.ft ||n.cZ)=F at *;clear k j;unfold nK;generalize Z' (n.bk.length<=3)=c1 at *;generalize Z' (n.unique.length<=3)=c2 at *;generalize tc n.bk=c3 at *;generalize tc n.unique=c4 at *;generalize n.bk.all isName=c5 at *;generalize n.unique.all isName=c6 at *;obtain⟨P,g⟩:∃b,n.bk.isEmpty=b:=⟨_,rfl⟩
  rw[g];cases F
  rotate_left
  ·simp +contextual -implicitDefEqProofs only [go_sem,dv,dq,dh,dm,bF,du,dt,dr,ax,iQ,iR,iT,iU,aL,ef,ee,e,d,c,fq,cz,bc,gY,k9,af n,f,h,o,i]
  cases P
  rotate_left
  ·simp +contextual -implicitDefEqProofs only [go_sem,dv,dq,dh,dm,bF,du,dt,dr,ax,iQ,iR,iT,iU,aL,ef,ee,e,d,c,fq,cz,bc,gY,k9,af n,f,h,o,i,u0,g]
  cases c1
  ·simp +contextual -implicitDefEqProofs only [go_sem,dv,dq,dh,dm,bF,du,dt,dr,ax,iQ,iR,iT,iU,aL,ef,ee,e,d,c,fq,cz,bc,gY,k9,af n,f,h,o,i,u0,g,D]
  cases c3
  ·simp +contextual -implicitDefEqProofs only [go_sem,dv,dq,dh,dm,bF,du,dt,dr,ax,iQ,iR,iT,iU,aL,ef,ee,e,d,c,fq,cz,bc,gY,k9,af n,f,h,o,i,u0,g,D,N]
  cases c5
  ·simp +contextual -implicitDefEqProofs only [go_sem,dv,dq,dh,dm,bF,du,dt,dr,ax,iQ,iR,iT,iU,aL,ef,ee,e,d,c,fq,cz,bc,gY,k9,af n,f,h,o,i,u0,g,D,N,R]
  cases c2
  ·simp +contextual -implicitDefEqProofs only [go_sem,dv,dq,dh,dm,bF,du,dt,dr,ax,iQ,iR,iT,iU,aL,ef,ee,e,d,c,fq,cz,bc,gY,k9,af n,f,h,o,i,u0,g,D,N,R,V]
  cases c4
  ·simp +contextual -implicitDefEqProofs only [go_sem,dv,dq,dh,dm,bF,du,dt,dr,ax,iQ,iR,iT,iU,aL,ef,ee,e,d,c,fq,cz,bc,gY,k9,af n,f,h,o,i,u0,g,D,N,R,V,Y]
  cases c6
  ·simp +contextual -implicitDefEqProofs only [go_sem,dv,dq,dh,dm,bF,du,dt,dr,ax,iQ,iR,iT,iU,aL,ef,ee,e,d,c,fq,cz,bc,gY,k9,af n,f,h,o,i,u0,g,D,N,R,V,Y,g5]
  cases os<;>simp +contextual -implicitDefEqProofs only [go_sem,dv,dq,dh,dm,bF,du,dt,dr,ax,iQ,iR,iT,iU,aL,ef,ee,e,d,c,fq,cz,bc,gY,k9,af n,f,h,o,i,u0,g,D,N,R,V,Y,g5,S]
 by_cases q:n.aq=3
 ·have i:G 92 [E 3]=Z (0,[.bool I]):=zC 3;have k:p9 n=(!(n.bk.isEmpty && n.unique.isEmpty) ||n.cZ ||(!Z' (n.min=0) ||!Z' (n.max=0)) ||!n.ae.isEmpty):=by simp[p9,q,L,kM,fS,iu]
  have j:lO ip mt n=(it && (!(n.given && (n.ft ||!n.when.isEmpty)) && (if n.given=I then isVal ip mt n.type n.default else Z' (n.default.size=0)))):=by simp[lO,q,K,H]
  rw[k,j];simp +contextual -implicitDefEqProofs only [go_sem,dv,dq,dh,dm,bF,du,dt,dr,ax,iQ,iR,iT,iU,aL,ef,ee,e,d,c,fq,cz,bc,gY,k9,af n,f,h,q]
  generalize (!(n.bk.isEmpty && n.unique.isEmpty) ||n.cZ ||(!Z' (n.min=0) ||!Z' (n.max=0)))=F at *;clear k j;generalize isVal ip mt n.type n.default=iv at *;obtain⟨P,g⟩:∃b,n.ae.isEmpty=b:=⟨_,rfl⟩
  obtain⟨gi,Q⟩:∃b,n.given=b:=⟨_,rfl⟩
  obtain⟨ne,U⟩:∃b,n.ft=b:=⟨_,rfl⟩
  obtain⟨we,X⟩:∃b,n.when.isEmpty=b:=⟨_,rfl⟩
  rw[g,Q,U,X];cases F
  rotate_left
  ·simp +contextual -implicitDefEqProofs only [go_sem,dv,dq,dh,dm,bF,du,dt,dr,ax,iQ,iR,iT,iU,aL,ef,ee,e,d,c,fq,cz,bc,gY,k9,af n,f,h,q,i]
  cases P
  ·simp +contextual -implicitDefEqProofs only [go_sem,dv,dq,dh,dm,bF,du,dt,dr,ax,iQ,iR,iT,iU,aL,ef,ee,e,d,c,fq,cz,bc,gY,k9,af n,f,h,q,i,g]
  cases it
  ·simp +contextual -implicitDefEqProofs only [go_sem,dv,dq,dh,dm,bF,du,dt,dr,ax,iQ,iR,iT,iU,aL,ef,ee,e,d,c,fq,cz,bc,gY,k9,af n,f,h,q,i,g,v]
  cases gi
  ·simp +contextual -implicitDefEqProofs only [go_sem,dv,dq,dh,dm,bF,du,dt,dr,ax,iQ,iR,iT,iU,aL,ef,ee,e,d,c,fq,cz,bc,gY,k9,af n,f,h,q,i,g,v,Q]
  cases ne
  rotate_left
  ·simp +contextual -implicitDefEqProofs only [go_sem,dv,dq,dh,dm,bF,du,dt,dr,ax,iQ,iR,iT,iU,aL,ef,ee,e,d,c,fq,cz,bc,gY,k9,af n,f,h,q,i,g,v,Q,U]
  cases we
  ·simp +contextual -implicitDefEqProofs only [go_sem,dv,dq,dh,dm,bF,du,dt,dr,ax,iQ,iR,iT,iU,aL,ef,ee,e,d,c,fq,cz,bc,gY,k9,af n,f,h,q,i,g,v,Q,U,X]
  cases iv<;>simp +contextual -implicitDefEqProofs only [go_sem,dv,dq,dh,dm,bF,du,dt,dr,ax,iQ,iR,iT,iU,aL,ef,ee,e,d,c,fq,cz,bc,gY,k9,af n,f,h,q,i,g,v,Q,U,X,f7]
 by_cases r:n.aq=4
 ·have i:G 92 [E 4]=Z (0,[.bool I]):=zC 4;rw[r]at S;have k:p9 n=(!(n.bk.isEmpty && n.unique.isEmpty) ||(!Z' (n.default.size=0) ||n.given ||n.fixed) ||n.ft ||n.cZ ||!n.ae.isEmpty):=by simp[p9,r,L,kM,fS,iu]
  have j:lO ip mt n=(it && os):=by simp[lO,r,K,H]
  rw[k,j];simp +contextual -implicitDefEqProofs only [go_sem,dv,dq,dh,dm,bF,du,dt,dr,ax,iQ,iR,iT,iU,aL,ef,ee,e,d,c,fq,cz,bc,gY,k9,af n,f,h,r]
  generalize (!(n.bk.isEmpty && n.unique.isEmpty) ||(!Z' (n.default.size=0) ||n.given ||n.fixed) ||n.ft ||n.cZ)=F at *;clear k j;obtain⟨P,g⟩:∃b,n.ae.isEmpty=b:=⟨_,rfl⟩
  rw[g];cases F
  rotate_left
  ·simp +contextual -implicitDefEqProofs only [go_sem,dv,dq,dh,dm,bF,du,dt,dr,ax,iQ,iR,iT,iU,aL,ef,ee,e,d,c,fq,cz,bc,gY,k9,af n,f,h,r,i]
  cases P
  ·simp +contextual -implicitDefEqProofs only [go_sem,dv,dq,dh,dm,bF,du,dt,dr,ax,iQ,iR,iT,iU,aL,ef,ee,e,d,c,fq,cz,bc,gY,k9,af n,f,h,r,i,g]
  cases it
  ·simp +contextual -implicitDefEqProofs only [go_sem,dv,dq,dh,dm,bF,du,dt,dr,ax,iQ,iR,iT,iU,aL,ef,ee,e,d,c,fq,cz,bc,gY,k9,af n,f,h,r,i,g,v]
  cases os<;>simp +contextual -implicitDefEqProofs only [go_sem,dv,dq,dh,dm,bF,du,dt,dr,ax,iQ,iR,iT,iU,aL,ef,ee,e,d,c,fq,cz,bc,gY,k9,af n,f,h,r,i,g,v,S]
 by_cases A:n.aq=5
 ·have i:G 92 [E 5]=Z (0,[.bool J]):=zC 5;have k:p9 n=(!a ||!(n.bk.isEmpty && n.unique.isEmpty) ||(!Z' (n.default.size=0) ||n.given ||n.fixed) ||n.cZ ||(!Z' (n.min=0) ||!Z' (n.max=0)) ||!n.jG.isEmpty):=by simp[p9,A,L,kM,fS,iu]
  have j:lO ip mt n=I:=by simp[lO,A,K,H]
  rw[k,j];simp +contextual -implicitDefEqProofs only [go_sem,dv,dq,dh,dm,bF,du,dt,dr,ax,iQ,iR,iT,iU,aL,ef,ee,e,d,c,fq,cz,bc,gY,k9,af n,f,h,A]
  generalize (!a ||!(n.bk.isEmpty && n.unique.isEmpty) ||(!Z' (n.default.size=0) ||n.given ||n.fixed) ||n.cZ ||(!Z' (n.min=0) ||!Z' (n.max=0)))=F at *;clear k j;obtain⟨w,g⟩:∃b,n.jG.isEmpty=b:=⟨_,rfl⟩
  rw[g];cases F<;>cases w<;>simp +contextual -implicitDefEqProofs only [go_sem,dv,dq,dh,dm,bF,du,dt,dr,ax,iQ,iR,iT,iU,aL,ef,ee,e,d,c,fq,cz,bc,gY,k9,af n,f,h,A,i,g]
 by_cases y:n.aq=6
 ·have i:G 92 [E 6]=Z (0,[.bool J]):=zC 6;have k:p9 n=(!a ||!(n.bk.isEmpty && n.unique.isEmpty) ||(!Z' (n.default.size=0) ||n.given ||n.fixed) ||n.ft ||n.cZ ||(!Z' (n.min=0) ||!Z' (n.max=0)) ||!n.jG.isEmpty):=by simp[p9,y,L,kM,fS,iu]
  have j:lO ip mt n=I:=by simp[lO,y,K,H]
  rw[k,j];simp +contextual -implicitDefEqProofs only [go_sem,dv,dq,dh,dm,bF,du,dt,dr,ax,iQ,iR,iT,iU,aL,ef,ee,e,d,c,fq,cz,bc,gY,k9,af n,f,h,y]
  generalize (!a ||!(n.bk.isEmpty && n.unique.isEmpty) ||(!Z' (n.default.size=0) ||n.given ||n.fixed) ||n.ft ||n.cZ ||(!Z' (n.min=0) ||!Z' (n.max=0)))=F at *;clear k j;obtain⟨w,g⟩:∃b,n.jG.isEmpty=b:=⟨_,rfl⟩
  rw[g];cases F<;>cases w<;>simp +contextual -implicitDefEqProofs only [go_sem,dv,dq,dh,dm,bF,du,dt,dr,ax,iQ,iR,iT,iU,aL,ef,ee,e,d,c,fq,cz,bc,gY,k9,af n,f,h,y,i,g]
 by_cases x:n.aq=7
 ·have i:G 92 [E 7]=Z (0,[.bool J]):=zC 7;have k:p9 n=(!a ||!(n.bk.isEmpty && n.unique.isEmpty) ||(!Z' (n.default.size=0) ||n.given ||n.fixed) ||n.ft ||n.cZ ||(!Z' (n.min=0) ||!Z' (n.max=0)) ||!n.jG.isEmpty):=by simp[p9,x,L,kM,fS,iu]
  have j:lO ip mt n=(n.when.isEmpty && n.ae.isEmpty):=by simp[lO,x,K,H]
  rw[k,j];simp +contextual -implicitDefEqProofs only [go_sem,dv,dq,dh,dm,bF,du,dt,dr,ax,iQ,iR,iT,iU,aL,ef,ee,e,d,c,fq,cz,bc,gY,k9,af n,f,h,x]
  generalize (!a ||!(n.bk.isEmpty && n.unique.isEmpty) ||(!Z' (n.default.size=0) ||n.given ||n.fixed) ||n.ft ||n.cZ ||(!Z' (n.min=0) ||!Z' (n.max=0)))=F at *;clear k j;obtain⟨w,g⟩:∃b,n.jG.isEmpty=b:=⟨_,rfl⟩
  rw[g];cases F<;>cases w<;>simp +contextual -implicitDefEqProofs only [go_sem,dv,dq,dh,dm,bF,du,dt,dr,ax,iQ,iR,iT,iU,aL,ef,ee,e,d,c,fq,cz,bc,gY,k9,af n,f,h,x,i,g]
 ·have f9:G 92 [E n.aq]=Z (0,[.bool J]):=by rw[i,kM,show fS 1 4 n.aq=J from by rw[eg,Ne,gZ];omega]
  have j:lO ip mt n=J:=by simp[lO,B,o,q,r,A,y,x]
  rw[j];simp +contextual -implicitDefEqProofs only [go_sem,dv,dq,dh,dm,bF,du,dt,dr,ax,iQ,iR,iT,iU,aL,ef,ee,e,d,c,fq,cz,bc,gY,k9,af n,f,h,B,o,q,r,A,y,x]
  generalize (!a ||!(n.bk.isEmpty && n.unique.isEmpty) ||(!Z' (n.default.size=0) ||n.given ||n.fixed) ||n.ft ||n.cZ ||(!Z' (n.min=0) ||!Z' (n.max=0)))=F at *;obtain⟨w,g⟩:∃b,n.jG.isEmpty=b:=⟨_,rfl⟩
  cases F<;>cases w<;>simp +contextual -implicitDefEqProofs only [go_sem,dv,dq,dh,dm,bF,du,dt,dr,ax,iQ,iR,iT,iU,aL,ef,ee,e,d,c,fq,cz,bc,gY,k9,af n,f,h,B,o,q,r,A,y,x,f9,g]
end
end
section
theorem SL{n:ah}{l:M ah}{k:Int}{b:Bool}{cnt i:Nat}(A:fm (ay n)<=mg) :
  cl (lB G AX) (0,[E k,.bool b,aF l,E cnt,E (i:Int),bn n.bk,E n.bk.length,E 0]++ay n) =
   Z (if n.bk.all (wW n.ae)=I then (1,[E k,.bool b,aF l,E cnt,E (i:Int),bn n.bk,E n.bk.length,E n.bk.length,.bool J]++ay n) else (0,[.bool J])):=by
 have f:=A;rw[eR]at f;have v:n.bk.length<=mg:=by simp only[bW]at f;omega
 have w:n.ae.length<=mg:=by simp only[bW]at f;omega
 have h:=mU (b:=lB G AX) n.bk (λj=>(0,[E k,.bool b,aF l,E cnt,E (i:Int),bn n.bk,E n.bk.length,E (j:Int)]++ay n)) (wW n.ae)
  (1,[E k,.bool b,aF l,E cnt,E (i:Int),bn n.bk,E n.bk.length,E n.bk.length,.bool J]++ay n) (0,[.bool J]) (by
  intro j e m;have o:=bw m;have y:=wj o v;have a:=aaP (l:=n.ae) (nm:=e) w;cases d:lV n.ae e with
  |none=>
   rw[d]at a;simp only[Cd,af,au,av]at a;have g:wW n.ae e=J:=by simp only[wW,d,vi]
   simp +contextual -implicitDefEqProofs only [go_sem,dv,dq,dh,dm,bF,du,dt,dr,ax,iQ,iR,iT,iU,aL,ef,ee,bK,AX,af n,o,aR,m,fo,a,g]
  |some B=>
   obtain⟨x,c,_⟩:=dU d;rw[d]at a;simp only[c,af,au,av]at a;obtain⟨p,s⟩:∃b,x.when.isEmpty=b:=⟨_,rfl⟩
   obtain⟨t,r⟩:∃b,x.given=b:=⟨_,rfl⟩
   obtain⟨kd,q⟩:∃b,Z' (x.type.aq=6)=b:=⟨_,rfl⟩
   have g:wW n.ae e=(p && (!t && !kd)):=by simp only[wW,d,vi,c,Si,s,r,q]
   rw[g];cases p<;>cases t<;>cases kd<;>simp +contextual -implicitDefEqProofs only [go_sem,dv,dq,dh,dm,bF,du,dt,dr,ax,iQ,iR,iT,iU,aL,ef,ee,bK,AX,af n,o,aR,m,fo,a,gY,s,r,q,y]
   ) (by simp +contextual -implicitDefEqProofs only [go_sem,dv,dq,dh,dm,bF,du,dt,dr,ax,iQ,iR,iT,iU,aL,ef,ee,bK,AX,af n,aB])
 exact h
theorem SM{n:ah}{l:M ah}{k:Int}{b:Bool}{cnt i:Nat}(s:fm (ay n)<=mg) :
  cl (lB G AY) (0,[E k,.bool b,aF l,E cnt,E (i:Int),bn n.unique,E n.unique.length,E 0]++ay n) =
   Z (if n.unique.all (λa=>(lV n.ae a).isSome)=I then (1,[E k,.bool b,aF l,E cnt,E (i:Int),bn n.unique,E n.unique.length,E n.unique.length,.bool J]++ay n) else (0,[.bool J])):=by
 have d:=s;rw[eR]at d;have p:n.unique.length<=mg:=by simp only[bW]at d;omega
 have q:n.ae.length<=mg:=by simp only[bW]at d;omega
 have h:=mU (b:=lB G AY) n.unique (λj=>(0,[E k,.bool b,aF l,E cnt,E (i:Int),bn n.unique,E n.unique.length,E (j:Int)]++ay n)) (λa=>(lV n.ae a).isSome)
  (1,[E k,.bool b,aF l,E cnt,E (i:Int),bn n.unique,E n.unique.length,E n.unique.length,.bool J]++ay n) (0,[.bool J]) (by
  intro j e g;have m:=bw g;have r:=wj m p;have c:=aaP (l:=n.ae) (nm:=e) q;cases o:lV n.ae e with
  |none=>
   rw[o]at c;simp only[Cd,af,au,av]at c;simp +contextual -implicitDefEqProofs only [go_sem,dv,dq,dh,dm,bF,du,dt,dr,ax,iQ,iR,iT,iU,aL,ef,ee,bK,AY,af n,m,aR,g,fo,c,Option.isSome]
  |some t=>
   obtain⟨x,f,_⟩:=dU o;rw[o]at c;simp only[f,af,au,av]at c;simp +contextual -implicitDefEqProofs only [go_sem,dv,dq,dh,dm,bF,du,dt,dr,ax,iQ,iR,iT,iU,aL,ef,ee,bK,AY,af n,m,aR,g,fo,c,r,Option.isSome]
   ) (by simp +contextual -implicitDefEqProofs only [go_sem,dv,dq,dh,dm,bF,du,dt,dr,ax,iQ,iR,iT,iU,aL,ef,ee,bK,AY,af n,aB])
 exact h
section
variable {ip:z->Bool} {mt:z->z->Bool} (hP:∀s:z,s.size<=mg->G 285 [.str s]=Z (0,[.bool (ip s)])) (hM:∀p s:z,p.size<=mg->s.size<=mg->G 310 [.str p,.str s]=Z (0,[.bool (mt p s)]))
include hP hM
theorem aee(m:Nat):∀(l:M ah) (k:Int) (b:Bool),aw l < m->bW ay l<=mg->
  G 315 [aF l,E k,.bool b]=Z (0,[.bool (wX ip mt m l k b)]):=by
 induction m with
 |zero=>intro l k b h;omega
 |succ m K=>
  intro l k b Y D;have L:l.length<=mg:=by simp only[bW]at D;omega
  have v:=mU (b:=lB G nI) l (λi=>(0,[E k,.bool b,aF l,E l.length,E (i:Int)])) (λn=>zu ip mt n && (!Z' (n.aq=7) && (Z' (Z' (n.aq=6)=Z' (k=5)) && (!(n.given && b) && (n.bk.all (wW n.ae) && (n.unique.all (λa=>(lV n.ae a).isSome) && wX ip mt m n.ae n.aq (b ||(!n.when.isEmpty ||decide (n.aq=6)))))))))
   (1,[E k,.bool b,aF l,E l.length,E l.length,.bool J]) (0,[.bool J]) (by
   intro i n c;have d:=bw c;have o:=wj d L;have Q:=bp c;have A:fm (ay n)<=mg:=by have:=dV ay Q;omega
   have g:=alj hP hM A;have w:=SL (n:=n) (l:=l) (k:=k) (b:=b) (cnt:=l.length) (i:=i) A;have C:=SM (n:=n) (l:=l) (k:=k) (b:=b) (cnt:=l.length) (i:=i) A;have f2:=K n.ae n.aq (b ||!n.when.isEmpty ||decide (n.aq=6)) (by have:=ba Q;have:=ah.er n;omega) (aH (ew n) A);rw[<- iu b];simp only[af n,au,av]at g w C;clear K hP hM D Y A;generalize zu ip mt n=U at *;generalize wX ip mt m n.ae n.aq (b ||!n.when.isEmpty ||decide (n.aq=6))=V at *;generalize n.bk.all (wW n.ae)=W at *;generalize n.unique.all (λa=>(lV n.ae a).isSome)=T at *;obtain⟨X,f⟩:∃b,Z' (n.aq=7)=b:=⟨_,rfl⟩
   obtain⟨di,j⟩:∃x,Z' (Z' (n.aq=6)=Z' (k=5))=x:=⟨_,rfl⟩
   obtain⟨gb,y⟩:∃x,(n.given && b)=x:=⟨_,rfl⟩
   rw[f,j,y];cases U
   ·simp +contextual -implicitDefEqProofs only [go_sem,dv,dq,dh,dm,bF,du,dt,dr,ax,iQ,iR,iT,iU,aL,ef,ee,bK,nI,d,o,aR,c,af n,bO,fq,gY,g,f,j]
   cases X
   rotate_left
   ·simp +contextual -implicitDefEqProofs only [go_sem,dv,dq,dh,dm,bF,du,dt,dr,ax,iQ,iR,iT,iU,aL,ef,ee,bK,nI,d,o,aR,c,af n,bO,fq,gY,g,f,j]
   cases di
   ·simp +contextual -implicitDefEqProofs only [go_sem,dv,dq,dh,dm,bF,du,dt,dr,ax,iQ,iR,iT,iU,aL,ef,ee,bK,nI,d,o,aR,c,af n,bO,fq,gY,g,f,j]
   cases gb
   rotate_left
   ·simp +contextual -implicitDefEqProofs only [go_sem,dv,dq,dh,dm,bF,du,dt,dr,ax,iQ,iR,iT,iU,aL,ef,ee,bK,nI,d,o,aR,c,af n,bO,fq,gY,g,f,j,y]
   cases W
   ·simp only[go_sem,bK,nI,d,o,aR,c,af n,bO,fq,gY,g,f,j]at w;simp +contextual -implicitDefEqProofs only [go_sem,dv,dq,dh,dm,bF,du,dt,dr,ax,iQ,iR,iT,iU,aL,ef,ee,bK,nI,d,o,aR,c,af n,bO,fq,gY,g,f,j,y,w]
   simp only[go_sem,bK,nI,d,o,aR,c,af n,bO,fq,gY,g,f,j]at w;cases T
   ·simp only[go_sem,bK,nI,d,o,aR,c,af n,bO,fq,gY,g,f,j]at C;simp +contextual -implicitDefEqProofs only [go_sem,dv,dq,dh,dm,bF,du,dt,dr,ax,iQ,iR,iT,iU,aL,ef,ee,bK,nI,d,o,aR,c,af n,bO,fq,gY,g,f,j,y,w,C]
   simp only[go_sem,bK,nI,d,o,aR,c,af n,bO,fq,gY,g,f,j]at C;cases V<;>simp +contextual -implicitDefEqProofs only [go_sem,dv,dq,dh,dm,bF,du,dt,dr,ax,iQ,iR,iT,iU,aL,ef,ee,bK,nI,d,o,aR,c,af n,bO,fq,gY,g,f,j,y,w,C,f2]
   ) (by simp +contextual -implicitDefEqProofs only [go_sem,dv,dq,dh,dm,bF,du,dt,dr,ax,iQ,iR,iT,iU,aL,ef,ee,bK,nI,aB])
  rw[n0]at v;have c1:=q95 L;have t:=Tf (l:=l.map ah.ak) (by rw[aA];exact L);have N:(dk l).length<=mg:=by have:=nV (es:=l);simp only[bW]at this D;omega
  have F:=q94 D;have S:=q95 N;have R:=Tf (l:=(dk l).map ah.ak) (by rw[aA];exact N);refine cN J3 rfl ?_;rw[wX];clear K hP hM;generalize l.all _=a1 at *;generalize tc (l.map ah.ak)=d1 at *;generalize tc ((dk l).map ah.ak)=d2 at *;unfold o6;obtain⟨P,r⟩:∃x,Z' (k=5)=x:=⟨_,rfl⟩
  obtain⟨H,q⟩:∃x,Z' (k=6)=x:=⟨_,rfl⟩
  rw[r,q];have B:kE (dk l)=0\/kE (dk l)=1:=by cases dk l<;>simp[kE]
  cases d1
  ·cases P<;>cases H<;>simp +contextual -implicitDefEqProofs only [go_sem,dv,dq,dh,dm,bF,du,dt,dr,ax,iQ,iR,iT,iU,aL,ef,ee,J3,c1,t,r,q]
  cases P
  rotate_left
  ·cases a1<;>simp only[go_sem,J3,c1,t,r,q]at v<;>cases H<;>simp +contextual -implicitDefEqProofs only [go_sem,dv,dq,dh,dm,bF,du,dt,dr,ax,iQ,iR,iT,iU,aL,ef,ee,J3,c1,t,r,q,v]
  cases H
  rotate_left
  ·cases a1<;>simp only[go_sem,J3,c1,t,r,q]at v<;>simp +contextual -implicitDefEqProofs only [go_sem,dv,dq,dh,dm,bF,du,dt,dr,ax,iQ,iR,iT,iU,aL,ef,ee,J3,c1,t,r,q,v]
  cases d2
  ·rcases B with e|e<;>rw[e]at F<;>simp +contextual -implicitDefEqProofs only [go_sem,dv,dq,dh,dm,bF,du,dt,dr,ax,iQ,iR,iT,iU,aL,ef,ee,J3,c1,t,r,q,F,S,R]
  cases a1<;>simp only[go_sem,J3,c1,t,r,q]at v<;>rcases B with e|e<;>rw[e]at F<;>simp +contextual -implicitDefEqProofs only [go_sem,dv,dq,dh,dm,bF,du,dt,dr,ax,iQ,iR,iT,iU,aL,ef,ee,J3,c1,t,r,q,F,S,R,v]
theorem alk{l:M ah}(a:bW ay l<=mg):G 316 [aF l]=Z (0,[.bool (DQ ip mt l)]):=by
 have b:=ak2 a;have g:=ak3 a;have f:=aee hP hM (aw l+1) l 0 J (aS _) a;have e:Z' ((eK l:Int)<=60)=Z' (eK l<=60):=decide_eq_decide.2 (by omega);have h:Z' ((tf l:Int)<=8)=Z' (tf l<=8):=decide_eq_decide.2 (by omega);clear hP hM;refine cN aeA rfl ?_;rw[ZQ];generalize wX ip mt (aw l+1) l 0 J=k at *;generalize Z' (eK l<=60)=c at *;generalize Z' (tf l<=8)=d at *;cases c
 ·simp +contextual -implicitDefEqProofs only [go_sem,dv,dq,dh,dm,bF,du,dt,dr,ax,iQ,iR,iT,iU,aL,ef,ee,aeA,b,e]
 cases d<;>simp +contextual -implicitDefEqProofs only [go_sem,dv,dq,dh,dm,bF,du,dt,dr,ax,iQ,iR,iT,iU,aL,ef,ee,aeA,b,e,g,h,f]
end
end
section
noncomputable def zg(s:M ah)(l:M aE):Bool:=vd nZ Mc (DQ nZ Mc s) s l
theorem ZR{s:M ah}{l:M aE}(h:zg s l=I):Rt nZ Mc (dk s) l:=Se h
section
variable {s:M ah} (hs:bW ay s<=mg)
include hs
theorem W7{l:M aE}(a:bW bl l<=mg):G 250 [aF s,aO l]=Z (0,[.bool (zg s l)]):=
 ak0 (λt _=>adT t) (λ_ _ _ h=>adX h) hs a (akV (λt _=>adT t) (λ_ _ _ h=>adX h) hs)
theorem W_{l:M aE}(a:bW bl l<=mg):G 327 [aF s,aO l]=Z (0,[.bool (zg s l)]):=
 alr (λt _=>aeb t) (λ_ _ _ h=>aed h) hs a (alk (λt _=>aeb t) (λ_ _ _ h=>aed h) hs)
end
end
section
theorem ae9{l:M aE}(h:l.length<=mg)(a v:z)(b:M aE):aU (.app 3 56) [aO l,.list 3 J [[.str a,.str v,aO b]]]=Z (aO (l++[⟨a,v,b⟩])):=by
 have c:=gy 3 56 J (l.map bl) [[.str a,.str v,aO b]] (by decide) (by simp only[mg,aA,aG,aP]at *;omega);rw[c];simp[aO,aV]
theorem WK(a v:z)(b:M aE):aU (.wB 3 J) [.str a,.str v,aO b]=Z (.list 3 J [[.str a,.str v,aO b]]):=l6 3 _ rfl (by decide)
theorem aaz(a b:z):aU .pl [.str a,.str b]=Z (.bool J):=(rfl)
theorem om:aU (.wB 3 J) []=Z (aO []):=(rfl)
theorem dz0:Z' ((0:Int) < ((0:Nat):Int))=J:=(rfl)
theorem dzs(n:Nat):Z' ((0:Int) < ((n+1:Nat):Int))=I:=by simp only[decide_eq_true_eq];omega
theorem de0:Z' (((0:Nat):Int)=0)=I:=(rfl)
theorem M6(n:Nat):Z' (((n+1:Nat):Int)=0)=J:=by simp only[decide_eq_false_iff_not];omega
end
section
theorem ak1{n:ah}{l:M aE}{v:z}{key:M z}(D:fm (ay n)<=mg)(w:bW bl l<=mg)(A:key.length<=mg) :
  G 251 (ay n++[aO l,.str v,bn key])=Z (0,[E (ko (zd n l v key))]):=by
 have C:l.length<=mg:=by simp only[bW]at w;omega
 have q:=pG D;have h:=qh (b:=lB G vm) l (λi=>(0,[aO l,.str v,bn key,E (i:Int)]++ay n)) (λy=>Z' (y.ak=n.ak) && (!(Z' (n.aq=4) && !Z' (y.bg=v)) && (!Z' (n.aq=2) ||(!gr (keyOf n y).1 key && !gr key (keyOf n y).1))))
  (1,[aO l,.str v,bn key,E l.length,.bool J]++ay n) (λi y=>(0,[E (i:Int)])) (by
  intro i y r;have d:=bw r;have f:=wj d C;have m:=n8 r;have c:=aaL (n:=n) (x:=y) q (tt w (bp r)).1;have k:=ad1 (a:=(keyOf n y).1) (b:=key) (od q) A;have g:=ad1 (a:=key) (b:=(keyOf n y).1) A (od q);simp only[af,aV,au,av]at c;generalize (keyOf n y).1=t at *;generalize gr t key=a1 at *;generalize gr key t=a2 at *;by_cases c1:y.ak=n.ak
  ·rw[c1]at c;by_cases p:n.aq=4
   ·have e:¬(4:Int)=2:=by decide
    rw[p]at c;by_cases B:y.bg=v
    ·simp only[go_sem,bK,vm,af n,d,m,gI,aV y,c,k,g,OB,f,c1,p,B,e]
    ·simp only[go_sem,bK,vm,af n,d,m,gI,aV y,c,k,g,OB,f,c1,p,B,e]
   ·by_cases e:n.aq=2
    ·have s:¬(2:Int)=4:=by decide
     rw[e]at c;cases a1<;>cases a2<;>simp only[go_sem,bK,vm,af n,d,m,gI,aV y,c,k,g,OB,f,c1,e,s,c]
    ·simp only[go_sem,bK,vm,af n,d,m,gI,aV y,c,k,g,OB,f,c1,e,p]
  ·simp only[go_sem,bK,vm,af n,d,m,gI,aV y,c,k,g,OB,f,c1]
  ) (by simp only[go_sem,bK,vm,af n,aB])
 rw[n0]at h;simp only[af n,au,av]at h;refine cN t251 (by rw[af];rfl) ?_;simp only[go_sem,t251,af n,h];unfold zd;generalize F:mB _ l 0=o;cases o with
 |none=>simp only[go_sem,ko]
 |some j=>
  obtain⟨y,H,_⟩:=dU F;simp only[go_sem,H,ko]
theorem als{n:ah}{a b:aE}(i:fm (ay n)<=mg)(k:a.ae.length<=mg)(j:b.ae.length<=mg):G 328 (ay n++bl a++bl b)=Z (0,[.bool (zJ n a b)]):=by
 have d:=pG i;have f:=W9 (n:=n) (x:=a) d k;have e:=W9 (n:=n) (x:=b) d j;have l:=akB (a:=(keyOf n a).1) (b:=(keyOf n b).1) (od d);simp only[af,aV,au,av]at f e;refine cN aiP (by rw[af,aV,aV];rfl) ?_;unfold zJ jD;obtain⟨v2,h⟩:∃v,Z' (n.aq=2)=v:=⟨_,rfl⟩
 obtain⟨v4,g⟩:∃v,Z' (n.aq=4)=v:=⟨_,rfl⟩
 generalize (keyOf n a).1=x at *;generalize (keyOf n b).1=y at *;generalize (keyOf n a).2=c at *;generalize (keyOf n b).2=w at *;cases v2<;>cases v4<;>simp only[go_sem,aiP,af n,aV,h,g,f,e]
 all_goals cases c<;>cases w<;>simp only[go_sem,l,OB,h,g]
theorem alu{n:ah}{l:M aE}{x:aE}(q:fm (ay n)<=mg)(r:bW bl l<=mg)(p:x.ae.length<=mg) :
  G 329 (ay n++[aO l]++bl x)=Z (0,[E (ko (u_ n l x))]):=by
 have t:l.length<=mg:=by simp only[bW]at r;omega
 have v:=pG q;have h:=qh (b:=lB G AZ) l (λi=>(0,[aO l,E l.length,E (i:Int)]++ay n++bl x)) (λy=>Z' (y.ak=n.ak) && (Z' (pv n x y=0) && zJ n x y))
  (1,[aO l,E l.length,E l.length,.bool J]++ay n++bl x) (λi y=>(0,[E (i:Int)])) (by
  intro i y g;have f:=bw g;have k:=wj f t;have m:=n8 g;have c:=(tt r (bp g)).1;have e:=aej (n:=n) (a:=x) (b:=y) v p c;have d:=als (n:=n) (a:=x) (b:=y) q p c;simp only[af,aV,au,av]at e d;generalize pv n x y=o at *;generalize zJ n x y=w at *;by_cases c1:y.ak=n.ak
  ·rw[c1]at e d;by_cases s:o=0
   ·subst s;cases w<;>simp only[go_sem,bK,AZ,af n,f,m,gI,aV,e,d,OB,k,c1]
   ·simp only[go_sem,bK,AZ,af n,f,m,gI,aV,e,d,OB,k,c1,s]
  ·simp only[go_sem,bK,AZ,af n,f,m,gI,aV,e,d,OB,k,c1]
  ) (by simp only[go_sem,bK,AZ,af n,aV x,aB])
 rw[n0]at h;simp only[af n,aV x,au,av]at h;refine cN aiQ (by rw[af,aV];rfl) ?_;simp only[go_sem,aiQ,af n,aV x,h];unfold u_;generalize A:mB _ l 0=o;cases o with
 |none=>simp only[go_sem,ko]
 |some j=>
  obtain⟨y,B,_⟩:=dU A;simp only[go_sem,B,ko]
end
section
theorem KK:∀{a b c:M UInt8},Op.bytesLess a b=I->Op.bytesLess b c=I->Op.bytesLess a c=I
 |_,[],_,h,_=>by rename_i a c;cases a<;>simp[Op.bytesLess]at h
 |_,_::_,[],_,h=>by simp[Op.bytesLess]at h
 |[],_::_,_::_,_,_=>by simp[Op.bytesLess]
 |x::a,y::b,d::c,f,e=>by
  simp only[Op.bytesLess,df,decide_eq_true_eq,ai,beq_iff_eq]at f e ⊢;rcases f with f|⟨rfl,f⟩
  ·rcases e with e|⟨rfl,e⟩
   ·have a1:x.toNat < y.toNat:=f;have a2:y.toNat < d.toNat:=e;exact .inl (show x.toNat < d.toNat by omega)
   ·exact .inl f
  ·rcases e with e|⟨rfl,e⟩
   ·exact .inl e
   ·exact .inr ⟨rfl,KK f e⟩
theorem Xr{a b c:z}(e:kq a b=I)(d:kq b c=I):kq a c=I:=KK e d
theorem EA(a:M z):gr a []=J:=by cases a<;>simp[gr,zk]
theorem WM(y:z)(b:M z):gr [] (y::b)=I:=by simp[gr,zk]
theorem Hy(x y:z)(a b:M z):gr (x::a) (y::b)=if x=y then gr a b else kq x y:=by
 unfold gr;rw[zk];by_cases h:x=y
 ·subst h;simp[YC]
 ·simp[YC,h]
theorem vq:∀a:M z,gr a a=J
 |[]=>EA []
 |x::a=>by rw[Hy,if_pos rfl,vq a]
theorem xQ:∀{a b c:M z},gr a b=I->gr b c=I->gr a c=I
 |a,[],c,h,_=>by rw[EA]at h;cases h
 |a,y::b,[],_,h=>by rw[EA]at h;cases h
 |[],y::b,d::c,_,_=>WM d c
 |x::a,y::b,d::c,g,f=>by
  rw[Hy]at g f ⊢;by_cases k:x=y
  ·subst k;rw[if_pos rfl]at g;by_cases i:x=d
   ·rw[if_pos i]at f ⊢;exact xQ g f
   ·rw[if_neg i]at f ⊢;exact f
  ·rw[if_neg k]at g;by_cases i:y=d
   ·subst i;rw[if_neg k];exact g
   ·rw[if_neg i]at f;have j:=Xr g f;have l:¬x=d:=λe=>by rw[e,OI]at j;cases j
    rw[if_neg l];exact j
theorem LY{a b:M z}(d:gr a b=J)(c:gr b a=J):a=b:=by
 have h:=Jv a b;rw[d,c]at h;exact of_decide_eq_true h.symm
theorem Y0(a b:M z):Z' (0 < cmpL a b)=gr b a:=by
 rw[dC,decide_eq_true_eq]
 constructor
 ·intro h;cases d:gr b a with
  |true=>rfl
  |false=>
   have c:gr a b=J:=by rw[sE];exact decide_eq_false (by omega)
   rw[LY c d,Ai.2 rfl]at h;omega
 ·intro h;have f:¬cmpL a b=0:=λe=>by rw[Ai.1 e,vq]at h;cases h
  have d:¬cmpL a b < 0:=λe=>by
   have c:gr a b=I:=by rw[sE];exact decide_eq_true e
   have:=xQ h c;rw[vq]at this;cases this
  omega
def E9(d:M ah)(i:Nat):Bool:=match nth d i with
 |some n=>jD n.aq
 |none=>J
def DU(d:M ah)(i:Nat)(x:aE):M z:=match nth d i with
 |some n=>(keyOf n x).1
 |none=>[]
def kC(d:M ah)(x y:aE):Bool:=match dO d x.ak,dO d y.ak with
 |some i,Z k=>if (Z' (i=k) && E9 d i)=I then gr (DU d i x) (DU d i y) else Z' (i < k)
 |_,_=>J
theorem YS(d:M ah)(x:aE):kC d x x=J:=by
 unfold kC;cases dO d x.ak with
 |none=>rfl
 |some i=>simp[vq]
theorem Ac{d:M ah}{x y a:aE}(c:kC d x y=I)(b:kC d y a=I):kC d x a=I:=by
 unfold kC at *;cases l:dO d x.ak with
 |none=>simp[l]at c
 |some i=>
  cases f:dO d y.ak with
  |none=>simp[f]at b
  |some j=>
   cases h:dO d a.ak with
   |none=>simp[f,h]at b
   |some k=>
    simp only[l,f]at c;simp only[f,h]at b;simp only
    by_cases g:i=j
    ·subst g;by_cases e:i=k
     ·subst e;cases m:E9 d i<;>simp[m]at c b ⊢
      exact xQ c b
     ·simp only[e,decide_false,cM,aD,if_false]at b ⊢;exact b
    ·simp only[g,decide_false,cM,aD,if_false,decide_eq_true_eq]at c;by_cases e:j=k
     ·subst e;simp only[g,decide_false,cM,aD,if_false,decide_eq_true_eq];exact c
     ·simp only[e,decide_false,cM,aD,if_false,decide_eq_true_eq]at b;have n:¬i=k:=by omega
      simp only[n,decide_false,cM,aD,if_false,decide_eq_true_eq];omega
def eqv(d:M ah)(x y:aE):Prop:=kC d x y=J/\kC d y x=J
theorem Pu{d:M ah}{x y:aE}(h:¬eqv d x y):kC d x y=!kC d y x:=by
 cases b:kC d x y<;>cases a:kC d y x
 ·exact absurd ⟨b,a⟩ h
 ·rfl
 ·rfl
 ·have:=Ac b a;rw[YS]at this;cases this
theorem Y_{d:M ah}{x y:aE}{i k:Nat}(b:dO d x.ak=Z i)(a:dO d y.ak=Z k):eqv d x y↔i=k/\(E9 d i=I->DU d i x=DU d i y):=by
 unfold eqv kC;simp only[b,a];by_cases e:i=k
 ·subst e;cases j:E9 d i<;>simp[]
  constructor
  ·rintro⟨f,c⟩;exact LY f c
  ·intro h;rw[h,vq];simp
 ·have g:¬k=i:=λh=>e h.symm;simp only[e,g,decide_false,cM,aD,if_false,decide_eq_false_iff_not,false_and,iff_false];omega
def Ys(d:M ah)(l:M aE):Prop:=l.Pairwise λx y=>kC d x y=I
def Okn(nr:ah->aE->Bool)(d:M ah)(x:aE):Prop:=∃k n,dO d x.ak=Z k/\nth d k=Z n/\nr n x=I
theorem YR{d:M ah}{p e:aE}{a k:Nat}{s:ah}(c:dO d p.ak=Z a)(f:dO d e.ak=Z k)(b:nth d k=Z s):uj (Z (p,a)) s k e=kC d p e:=by
 unfold uj kC;simp only[c,f];by_cases h:a=k
 ·subst h;simp only[E9,DU,b]
 ·simp only[h,decide_false,cM,aD,if_false]
theorem Lp{nr:ah->aE->Bool}{d:M ah}:∀{l:M aE} {i:Nat} {t:u (aE×Nat)},(∀p k,t=Z (p,k)->dO d p.ak=Z k)->
  (IW (jP (nT () nr d) i t l)=I↔(∀x∈l,Okn nr d x)/\Ys d l/\∀p k,t=Z (p,k)->∀x∈l,kC d p x=I)
 |[],i,t,m=>by simp[jP,IW,Ys]
 |e::l,i,t,m=>by
  cases c:dO d e.ak with
  |none=>
   simp only[jP,nT,c,IW,aD,false_iff]
   rintro⟨h,_⟩
   obtain⟨k,n,b,_⟩:=h e bQ;rw[c]at b;cases b
  |some k=>
   cases b:nth d k with
   |none=>
    simp only[jP,nT,c,b,IW,aD,false_iff]
    rintro⟨h,_⟩
    obtain⟨a,n,v,r,_⟩:=h e bQ;rw[c]at v;cases v;rw[b]at r;cases r
   |some s=>
    have o:∀p a,t=Z (p,a)->uj t s k e=kC d p e:=λp a h=>by rw[h];exact YR (m p a h) c b
    have y:=Lp (nr:=nr) (l:=l) (i:=i+1) (t:=Z (e,k)) (d:=d) (λp a h=>by cases h;exact c);simp only[jP,nT,c,b];by_cases f:(nr s e && uj t s k e)=I
    ·rw[if_pos f];simp only
     rw[y];simp only[ai]at f
     constructor
     ·rintro⟨a1,a2,a3⟩
      refine⟨cm.2 ⟨⟨k,s,c,b,f.1⟩,a1⟩,fj.2 ⟨a3 e k rfl,a2⟩,λp a h=>?_⟩;have g:kC d p e=I:=by rw[<- o p a h];exact f.2
      exact cm.2 ⟨g,λx j=>Ac g (a3 e k rfl x j)⟩
     ·rintro⟨a1,a2,a3⟩
      have a4:=fj.1 a2;exact⟨λx j=>a1 x (bT _ j),a4.2,λp a h=>by cases h;exact a4.1⟩
    ·rw[if_neg f];simp only[IW,aD,false_iff]
     rintro⟨a1,a2,a3⟩
     apply f
     obtain⟨a,n,g,w,A⟩:=a1 e bQ;rw[c]at g;cases g;rw[b]at w;cases w;rw[A,cU];cases t with
     |none=>rfl
     |some q=>
      obtain⟨p,a⟩:=q;rw[o p a rfl];exact a3 p a rfl e bQ
theorem Tg{nr:ah->aE->Bool}{d:M ah}{l:M aE}:m_ nr d l=I↔(∀x∈l,Okn nr d x)/\Ys d l:=by
 unfold m_;rw[Lp (λp k h=>by cases h)];simp
def kU(d:M ah)(l:M aE)(x:aE):M aE:=match l.dropWhile (kC d · x) with
 |y::b=>if kC d x y=I then l.takeWhile (kC d · x)++x::y::b else l
 |[]=>l.takeWhile (kC d · x)++[x]
def ot(d:M ah)(l:M aE)(x:aE):M aE:=l.takeWhile (λy=>!kC d x y)++x::l.dropWhile (λy=>!kC d x y)
theorem MQ{a:Type}{p q:a->Bool}:∀{l:M a},(∀x∈l,p x=q x)->l.takeWhile p=l.takeWhile q/\l.dropWhile p=l.dropWhile q
 |[],_=>⟨rfl,rfl⟩
 |y::l,h=>by
  have d:=h y bQ;have b:=MQ (l:=l) λx c=>h x (bT _ c);simp only[kt,List.dropWhile_cons,d];cases q y
  ·simp
  ·simp[b.1,b.2]
theorem put_eq{d:M ah}{l:M aE}{x:aE}(h:∀y∈l,¬eqv d y x):kU d l x=ot d l x:=by
 have e:∀y∈l,kC d y x=!kC d x y:=λy c=>Pu (h y c);obtain⟨g,f⟩:=MQ e;unfold kU ot;rw[g,f];cases hd:l.dropWhile λy=>!kC d x y with
 |nil=>rfl
 |cons y b=>
  have a:(!kC d x y)=J:=by
   have:=List.head?_dropWhile_not (λy=>!kC d x y) l;rw[hd]at this
   simpa using this
  simp only[Bool.not_eq_false']at a;simp only[a,if_true]
theorem X3{a:Type}{p:a->Bool}:∀{l:M a},∀x∈l.takeWhile p,p x=I
 |[],x,h=>by cases h
 |y::l,x,h=>by
  rw[kt]at h
  split at h
  ·rename_i b;rcases aI.1 h with rfl|h
   ·exact b
   ·exact X3 x h
  ·cases h
theorem aaI{d:M ah}{l:M aE}{x:aE}(j:Ys d l)(h:∀y∈l,¬eqv d y x):Ys d (ot d l x):=by
 have e:l.takeWhile (λy=>!kC d x y)++l.dropWhile (λy=>!kC d x y)=l:=kh;have f:=j;unfold Ys at f ⊢;rw[<- e,List.pairwise_append]at f;unfold ot;rw[List.pairwise_append];refine⟨f.1,fj.2 ⟨?_,f.2.1⟩,?_⟩
 ·intro y c;cases hd:l.dropWhile λy=>!kC d x y with
  |nil=>rw[hd]at c;cases c
  |cons a b=>
   have i:(!kC d x a)=J:=by
    have:=List.head?_dropWhile_not (λy=>!kC d x y) l;rw[hd]at this
    simpa using this
   simp only[Bool.not_eq_false']at i;rw[hd]at c f;rcases aI.1 c with rfl|c
   ·exact i
   ·exact Ac i ((fj.1 f.2.1).1 y c)
 ·intro y c a g;have k:kC d y x=I:=by
   have:=X3 y c;rw[<- Pu (h y ((w_ _).subset c))]at this;exact this
  rcases aI.1 g with rfl|g
  ·exact k
  ·exact f.2.2 y c a g
theorem aaH{d:M ah}{l:M aE}{x y:aE}:y∈ot d l x↔y=x\/y∈l:=by
 have e:l.takeWhile (λy=>!kC d x y)++l.dropWhile (λy=>!kC d x y)=l:=kh;unfold ot;rw[<- e,aT,aI,aT,e]
 constructor
 ·rintro (h|h|h)
  ·exact .inr (.inl h)
  ·exact .inl h
  ·exact .inr (.inr h)
 ·rintro (h|h|h)
  ·exact .inr (.inl h)
  ·exact .inl h
  ·exact .inr (.inr h)
end
section
structure cA where
 op:Int
 ak:ByteArray
 bg:ByteArray
 ae:List cA
def sJ:z:=⟨#[]⟩
def fJ(s:M ah)(a:z):u ah:=match dO (dk s) a with
 |some k=>nth (dk s) k
 |none=>O
def oh(s:M ah)(a:z):hY:=match dO s a with
 |some k=>(match nth s k with
  |some n=>n.type
  |none=>Cd.type)
 |none=>Cd.type
def s6(l:M aE):u Nat->M aE
 |some k=>l.eraseIdx k
 |none=>l
def Aa(names:M z)(l:M aE):M aE:=l.filter λx=>!nE names x.ak
section
variable (can:hY->z->u z) (oN:M ah->z->M z)
def Hn(s:M ah)(es:M cA)(a:z):u z:=match es.filter λc=>Z' (c.ak=a) with
 |[c]=>if (Z' (c.op=4) ||decide (c.op=5))=I then O else can (oh s a) c.bg
 |_=>O
def mI(s:M ah)(es:M cA):M z->u (M z)
 |[]=>Z []
 |k::a=>match Hn can s es k with
  |none=>O
  |some v=>(mI s es a).map (v::·)
def uk(n:ah)(e:cA):Int ⊕ (z×M z):=
 let row:=Z' (n.aq=3) ||decide (n.aq=4)
 if ((!row && !Z' (e.bg=sJ)) ||(row && !e.ae.isEmpty))=I then .inl 2
 else if (!fS 1 5 e.op)=I then .inl 3
 else match (if (Z' (n.aq=4) ||(Z' (n.aq=3) && Z' (e.op < 4)))=I then can n.type e.bg else Z sJ) with
  |none=>.inl 7
  |some v=>if n.aq=2 then (match mI can n.ae e.ae n.bk with
   |none=>.inl 4
   |some a=>.inr (sJ,a)) else .inr (v,[])
section
variable (mk:M ah->M aE->M cA->Int ⊕ M aE) (pt:M ah->M aE->aE->M aE)
def rz(s:M ah)(n:ah)(l:M aE)(e:cA)(v:z):Int ⊕ M aE:=
 if n.aq=1\/n.aq=2 then (match mk n.ae [] e.ae with
  | .inl c=>.inl c
  | .inr a=>if n.aq=1/\n.cZ=J/\a=[] then .inr l else .inr (pt (dk s) (Aa (oN s n.ak) l) ⟨n.ak,v,a⟩))
 else .inr (pt (dk s) (Aa (oN s n.ak) l) ⟨n.ak,v,[]⟩)
def A5(n:ah)(l:M aE)(e:cA)(v:z)(j:Nat)(y:aE)(new:aE):Int ⊕ M aE:=
 if n.aq=1\/n.aq=2 then (match mk n.ae y.ae e.ae with
  | .inl c=>.inl c
  | .inr a=>if n.aq=1/\n.cZ=J/\a=[] then .inr (l.eraseIdx j) else .inr (l.set j ⟨new.ak,new.bg,a⟩))
 else .inr (l.set j new)
def ur(ix:ah->M aE->z->M z->u Nat)(a:ah->aE->z->aE)(s:M ah)(l:M aE)(e:cA):Int ⊕ M aE:=match fJ s e.ak with
 |none=>.inl 2
 |some n=>match uk can n e with
  | .inl c=>.inl c
  | .inr (v,key)=>
   let k:=ix n l v key
   if e.op=3/\k.isSome=I then .inl 5
   else if e.op=4/\k=O then .inl 6
   else if e.op=4\/e.op=5 then .inr (s6 l k)
   else if e.op=2 then rz oN mk pt s n (s6 l k) e v
   else match k with
    |none=>rz oN mk pt s n l e v
    |some j=>match nth l j with
     |none=>.inr l
     |some y=>A5 mk n l e v j y (a n y v)
end
def zi(n:ah)(v:z)(a:M z):aE:=⟨n.ak,v,(n.bk.zip a).map λp=>⟨p.1,p.2,[]⟩⟩
def wQ(one:M ah->M aE->cA->Int ⊕ M aE)(s:M ah):M aE->M cA->Int ⊕ M aE
 |l,[]=>.inr l
 |l,e::es=>match one s l e with
  | .inl c=>.inl c
  | .inr a=>wQ one s a es
def km:Nat->M ah->M aE->M cA->Int ⊕ M aE
 |0,_,_,_=>.inl 0
 |m+1,s,l,es=>wQ (ur can oN (km m) kU zd λn y v=>⟨n.ak,v,y.ae⟩) s l es
def xn:Nat->M ah->M aE->M cA->Int ⊕ M aE
 |0,_,_,_=>.inl 0
 |m+1,s,l,es=>wQ (ur can oN (xn m) ot (λn l v a=>u_ n l (zi n v a)) λn y v=>if n.aq=3 then ⟨y.ak,v,y.ae⟩ else y) s l es
end
def Wl:Nat->M ah->M aE->Prop
 |0,_,_=>True
 |m+1,s,l=>(∀x∈l,∃k n,dO (dk s) x.ak=Z k/\nth (dk s) k=Z n/\((n.aq=1\/n.aq=2)->x.bg=sJ/\Wl m n.ae x.ae)/\(n.aq=2->(keyOf n x).2=I))/\Ys (dk s) l
def xd(c:M ah->z->M z)(s:M ah)(a:z):Prop:=∃n,fJ s a=Z n/\n.aq=3/\oh s a=n.type/\∀b,b≠a->a∉c s b
def Hs(a:M ah->z->M z):Nat->M ah->Prop
 |0,_=>True
 |m+1,s=>∀n∈dk s,(n.aq=2->n.bk.Nodup/\∀k∈n.bk,xd a n.ae k)/\((n.aq=1\/n.aq=2)->Hs a m n.ae)
theorem jm(x:aE)(l:M aE)(a:z):hH (x::l) a=if x.ak=a then Z x.bg else hH l a:=by
 unfold hH sI;by_cases h:x.ak=a
 ·simp[mB,h,nth]
 ·have d:mB (λe=>Z' (e.ak=a)) (x::l) 0=mB (λe=>Z' (e.ak=a)) l 1:=by simp[mB,h]
  rw[d,if_neg h];have c:∀(l:M aE) (k:Nat),mB (λe=>Z' (e.ak=a)) l (k+1)=(mB (λe=>Z' (e.ak=a)) l k).map (·+1):=by
   intro l
   induction l with
   |nil=>intro k;rfl
   |cons y l b=>
    intro k;simp only[mB];split
    ·rfl
    ·exact b (k+1)
  rw[c l 0];cases mB (λe=>Z' (e.ak=a)) l 0 with
  |none=>rfl
  |some j=>rfl
theorem JG{c:z}:∀(a b:M aE),hH (a++b) c=(hH a c).or (hH b c)
 |[],b=>by simp[hH,sI,mB]
 |x::a,b=>by
  rw[au,jm,jm,JG a b]
  split<;>rfl
theorem QS{a:z}:∀{l:M aE},hH l a=O↔∀x∈l,x.ak≠a
 |[]=>by simp[hH,sI,mB]
 |x::l=>by
  rw[jm,cm];by_cases h:x.ak=a
  ·simp[h]
  ·simp[h,QS (l:=l)]
theorem HG{b:z}{p:aE->Bool}:∀{l:M aE},(∀x∈l,x.ak=b->p x=I)->hH (l.filter p) b=hH l b
 |[],_=>rfl
 |x::l,h=>by
  have c:=HG (l:=l) λy d=>h y (bT _ d);rw[jm,iq];by_cases a:x.ak=b
  ·rw[if_pos (h x bQ a),jm,if_pos a,if_pos a]
  ·rw[if_neg a];split
   ·rw[jm,if_neg a,c]
   ·exact c
theorem EL{a:z}:∀{l:M aE} {j:Nat} {y:aE},nth l j=Z y->y.ak≠a->hH (l.eraseIdx j) a=hH l a
 |x::l,0,y,h,b=>by
  cases h;rw[List.eraseIdx_cons_zero,jm,if_neg b]
 |x::l,j+1,y,h,b=>by
  rw[List.eraseIdx_cons_succ,jm,jm,EL (l:=l) h b]
theorem WQ{b:z}{a:aE}:∀{l:M aE} {j:Nat} {y:aE},nth l j=Z y->y.ak≠b->a.ak≠b->hH (l.set j a) b=hH l b
 |x::l,0,y,h,d,c=>by
  cases h;rw[rZ,jm,jm,if_neg d,if_neg c]
 |x::l,j+1,y,h,d,c=>by
  rw[lh,jm,jm,WQ (l:=l) h d c]
theorem adg{a:z}{d:M ah}{l:M aE}{x:aE}(h:x.ak≠a):hH (ot d l x) a=hH l a:=by
 have e:l.takeWhile (λy=>!kC d x y)++l.dropWhile (λy=>!kC d x y)=l:=kh;unfold ot;rw[JG,jm,if_neg h,<- JG,e]
theorem aap{d:M ah}{l:M aE}{x:aE}(h:∀y∈l,y.ak≠x.ak):hH (ot d l x) x.ak=Z x.bg:=by
 unfold ot;rw[JG,jm,if_pos rfl,QS.2 λy a=>h y ((w_ _).subset a)];rfl
theorem IY{l:M aE}:∀{ks vs t:M z},ks.length=vs.length->(∀p∈ks.zip vs,hH l p.1=Z p.2)->vg l t ks=(t++vs,I)
 |[],[],t,_,_=>by simp[vg]
 |k::ks,v::vs,t,h,a=>by
  rw[List.zip_cons_cons,cm]at a;simp only[vg,a.1];rw[IY (ks:=ks) (vs:=vs) (by simpa using h) a.2,bB];rfl
end
section
theorem fe{s:M ah}{a:z}{n:ah}(h:fJ s a=Z n):∃k,dO (dk s) a=Z k/\nth (dk s) k=Z n/\n.ak=a/\n∈dk s:=by
 unfold fJ at h
 split at h
 ·rename_i k b;obtain⟨e,c,d⟩:=dU b;rw[h]at c;cases c;exact⟨k,b,h,by simpa using d,bp h⟩
 ·cases h
theorem VC{a:Type}{p:a->Bool}{l:M a}{k:Nat}(h:mB p l k=O){x:a}(d:x∈l):p x=J:=by
 have c:=uZ (p:=p) (l:=l) (k:=k);rw[h]at c;have b:l.any p=J:=c.symm;rw[List.any_eq_false]at b
 simpa using b x d
section
variable {can:hY->z->u z} {oN:M ah->z->M z}
theorem vh{s:M ah}{es:M cA}:∀{b a:M z},mI can s es b=Z a->b.length=a.length/\∀p∈b.zip a,Hn can s es p.1=Z p.2
 |[],a,h=>by cases h;simp
 |k::b,a,h=>by
  unfold mI at h
  split at h
  ·cases h
  ·rename_i v c;rw[aj]at h;obtain⟨e,d,rfl⟩:=h;obtain⟨a1,a2⟩:=vh d;refine⟨by simp[a1],?_⟩;rw[List.zip_cons_cons,cm];exact⟨c,a2⟩
theorem yD{n:ah}{e:cA}{v:z}{a:M z}(h:uk can n e=.inr (v,a)) :
  fS 1 5 e.op=I/\(n.aq=2->v=sJ/\mI can n.ae e.ae n.bk=Z a)/\(n.aq=1->v=sJ)/\(n.aq=3->e.op < 4->can n.type e.bg=Z v):=by
 unfold uk at h;simp only at h
 split at h
 ·cases h
 ·split at h
  ·cases h
  ·rename_i d
   split at h
   ·cases h
   ·rename_i w c;refine⟨by simpa using d,?_,?_,?_⟩
    ·intro b;rw[if_pos b]at h
     split at h
     ·cases h
     ·rename_i k f;cases h;exact⟨rfl,f⟩
    ·intro j;have b:¬n.aq=2:=by omega
     rw[if_neg b]at h;cases h;simp[j]at c;exact c.symm
    ·intro i g;have b:¬n.aq=2:=by omega
     rw[if_neg b]at h;cases h
     simpa [i,g] using c
end
def rJ(n:ah)(v:z)(a:M z)(y:aE):Bool:=Z' (y.ak=n.ak) && (!(Z' (n.aq=4) && !Z' (y.bg=v)) && (!Z' (n.aq=2) ||(!gr (keyOf n y).1 a && !gr a (keyOf n y).1)))
theorem yX{n:ah}{v:z}{a:M z}{y:aE}:rJ n v a y=I↔y.ak=n.ak/\(n.aq=4->y.bg=v)/\(n.aq=2->(keyOf n y).1=a):=by
 unfold rJ;rw[Jv];by_cases b:n.aq=4
 ·simp[b]
 ·by_cases c:n.aq=2<;>simp[b,c]
section
variable {d:M ah} {n:ah} {k:Nat} (hk:dO d n.ak=Z k) (hn:nth d k=Z n)
include hk hn
theorem wq(x:aE):DU d k x=(keyOf n x).1/\E9 d k=jD n.aq:=by simp[DU,E9,hn]
theorem P_{v:z}{a:M z}{x y:aE}(l:x.ak=n.ak)(g:n.aq=4->x.bg=v)(j:n.aq=2->(keyOf n x).1=a){i:Nat}(b:dO d y.ak=Z i):eqv d y x↔rJ n v a y=I:=by
 rw[Y_ b (by rw[l];exact hk),yX]
 constructor
 ·rintro⟨rfl,h⟩
  obtain⟨e,a1,a2⟩:=dU b;rw[hn]at a1;cases a1;have f:y.ak=n.ak:=by simpa using (of_decide_eq_true a2).symm
  rw[(wq hk hn y).1,(wq hk hn x).1,(wq hk hn x).2]at h;refine⟨f,λe=>?_,λe=>?_⟩
  ·have:=h (by simp[jD,e]);have c:¬n.aq=2:=by omega
   simp only[keyOf,if_neg c,bY,and_true]at this;rw[this,g e]
  ·rw[h (by simp[jD,e]),j e]
 ·rintro⟨f,a4,a2⟩
  rw[f,hk]at b;cases b;refine⟨rfl,λh=>?_⟩;rw[(wq hk hn y).2]at h;rw[(wq hk hn y).1,(wq hk hn x).1];simp only[jD,df,decide_eq_true_eq]at h;rcases h with h|h
  ·rw[a2 h,j h]
  ·have c:¬n.aq=2:=by omega
   simp only[keyOf,if_neg c,a4 h,g h]
end
theorem ME{d:M ah}:∀{l:M aE} {j:Nat} {b y:aE},Ys d l->nth l j=Z b->y∈l.eraseIdx j->¬eqv d y b
 |a::l,0,b,y,f,e,c=>by
  cases e;rw[List.eraseIdx_cons_zero]at c;intro g;have:=(fj.1 f).1 y c;rw[g.2]at this;cases this
 |a::l,j+1,b,y,f,e,c=>by
  rw[List.eraseIdx_cons_succ]at c;rcases aI.1 c with rfl|c
  ·intro g;have:=(fj.1 f).1 b (bp (l:=l) e);rw[g.1]at this;cases this
  ·exact ME (l:=l) (fj.1 f).2 e c
theorem Rv{d:M ah}{x a:aE}(f:x.ak=a.ak)(g:∀i,dO d x.ak=Z i->E9 d i=I->DU d i x=DU d i a)(y:aE):kC d x y=kC d a y/\kC d y x=kC d y a:=by
 unfold kC;rw[<- f];cases b:dO d x.ak with
 |none=>exact⟨rfl,by cases dO d y.ak<;>rfl⟩
 |some i=>
  cases l:dO d y.ak with
  |none=>exact⟨rfl,rfl⟩
  |some j=>
   simp only
   by_cases e:i=j
   ·subst e;cases c:E9 d i
    ·simp
    ·simp[g i b c]
   ·have k:¬j=i:=λh=>e h.symm;simp[e,k]
theorem Rb{d:M ah}{x:aE}:∀{l:M aE} {j:Nat} {y:aE},Ys d l->nth l j=Z y->(∀w,kC d x w=kC d y w/\kC d w x=kC d w y)->Ys d (l.set j x)
 |a::l,0,y,f,c,e=>by
  cases c;have h:=fj.1 f;exact fj.2 ⟨λw b=>by rw[(e w).1];exact h.1 w b,h.2⟩
 |a::l,j+1,y,f,c,e=>by
  have h:=fj.1 f;refine fj.2 ⟨λw b=>?_,Rb (l:=l) h.2 c e⟩;rcases gW b with b|rfl
  ·exact h.1 w b
  ·rw[(e a).2];exact h.1 y (bp (l:=l) c)
theorem Nl:∀(m:Nat) (s:M ah),Wl m s []
 |0,_=>trivial
 |m+1,s=>⟨λx h=>(fR h).elim,List.Pairwise.nil⟩
theorem Nn{m:Nat}{s:M ah}{l a:M aE}(h:Wl (m+1) s l)(b:a.Sublist l):Wl (m+1) s a:=⟨λx c=>h.1 x (b.subset c),h.2.sublist b⟩
theorem Wk{n:ah}(v:z){a:M z}(j:n.aq=2)(hd:n.bk.Nodup)(f:n.bk.length=a.length):keyOf n (zi n v a)=(a,I):=by
 have h:∀(d c:M z),d.Nodup->d.length=c.length->∀p∈d.zip c,hH ((d.zip c).map λp=>(⟨p.1,p.2,[]⟩:aE)) p.1=Z p.2:=by
  intro d
  induction d with
  |nil=>intro c _ _ p b;simp at b
  |cons k d i=>
   intro c g f p b;cases c with
   |nil=>simp at f
   |cons v c=>
    rw[List.zip_cons_cons]at b ⊢;rw[aZ,jm];rw[cx]at g;rcases aI.1 b with rfl|b
    ·simp
    ·have:¬k=p.1:=λe=>g.1 (by rw[e];exact (List.of_mem_zip b).1);simp only[this,if_false];exact i c g.2 (by simpa using f) p b
 have m:=IY (l:=(zi n v a).ae) (t:=[]) f (λp b=>h n.bk a hd f p b);simp only[keyOf,if_pos j,m,av,if_true]
theorem Oa{n:ah}{c v:z}{b:M aE}{a:M z}(e:n.aq=2)(d:n.bk.length=a.length)(h:∀p∈n.bk.zip a,hH b p.1=Z p.2):keyOf n ⟨c,v,b⟩=(a,I):=by
 have f:=IY (l:=b) (t:=[]) d h;simp only[keyOf,if_pos e,f,av,if_true]
end
section
theorem QT{x:aE}:∀{l:M aE} {j:Nat} {y:aE},nth l j=Z y->(∀i b,i < j->nth l i=Z b->b.ak≠x.ak)->hH (l.set j x) x.ak=Z x.bg
 |a::l,0,y,h,_=>by rw[rZ,jm,if_pos rfl]
 |a::l,j+1,y,h,c=>by
  rw[lh,jm,if_neg (c 0 a (Nat.succ_pos j) rfl)];exact QT (l:=l) h λi b e d=>c (i+1) b (Nat.succ_lt_succ e) d
section
variable {can:hY->z->u z} {oN:M ah->z->M z} {m:Nat}
def Hm(can:hY->z->u z)(oN:M ah->z->M z)(m:Nat):Prop:=∀s l es,Hs oN m s->Wl m s l->xn can oN m s l es=km can oN m s l es/\
 ∀b,km can oN m s l es=.inr b->Wl m s b/\∀a v,xd oN s a->Hn can s es a=Z v->hH b a=Z v
variable (hm:Hm can oN m) {s:M ah} (hs:Hs oN (m+1) s) {e:cA} {n:ah} (mE:fJ s e.ak=Z n) {v:z} {key:M z} (hc:uk can n e=.inr (v,key))
include hm hs mE hc
theorem L4{b c:M aE}(a:n.aq=2)(g:Wl m n.ae b)(i:km can oN m n.ae b e.ae=.inr c)(f:z):keyOf n ⟨f,v,c⟩=(key,I):=by
 obtain⟨k,a1,a2,a3,a4⟩:=fe mE;obtain⟨y,r,x,w⟩:=yD hc;obtain⟨c1,q⟩:=vh (r a).2;obtain⟨o,l⟩:=hs n a4;obtain⟨t,j⟩:=o a;have h:=(hm n.ae b e.ae (l (.inr a)) g).2 c i;exact Oa a c1 λp d=>h.2 p.1 p.2 (j p.1 (List.of_mem_zip d).1) (q p d)
theorem aam{l:M aE}(c:Wl (m+1) s l)(d:∀y∈l,rJ n v key y=J){ks:M aE}(f:n.aq=2->(keyOf n ⟨n.ak,v,ks⟩).1=key):∀y∈l,¬eqv (dk s) y ⟨n.ak,v,ks⟩:=by
 obtain⟨k,a1,a2,a3,a4⟩:=fe mE;rw[<- a3]at a1;intro y a b;obtain⟨i,g,c1,_⟩:=c.1 y a;rw[P_ a1 a2 rfl (λ_=>rfl) f c1,d y a]at b;cases b
theorem W5{l:M aE}(c:Wl (m+1) s l)(f:∀y∈l,rJ n v key y=J){ks:M aE}(i:n.aq=1\/n.aq=2->Wl m n.ae ks)(g:n.aq=2->keyOf n ⟨n.ak,v,ks⟩=(key,I)) :
  kU (dk s) l ⟨n.ak,v,ks⟩=ot (dk s) l ⟨n.ak,v,ks⟩/\Wl (m+1) s (ot (dk s) l ⟨n.ak,v,ks⟩)/\(∀a,e.ak≠a->hH (ot (dk s) l ⟨n.ak,v,ks⟩) a=hH l a)/\(n.aq=3->hH (ot (dk s) l ⟨n.ak,v,ks⟩) n.ak=Z v):=by
 obtain⟨k,a1,a2,a3,a4⟩:=fe mE;obtain⟨A,r,q,w⟩:=yD hc;have d:=aam hm hs mE hc c f (ks:=ks) (λh=>by rw[g h]);refine⟨put_eq d,⟨λx b=>?_,aaI c.2 d⟩,λa h=>adg (by simpa [a3] using h),λt=>?_⟩
 ·rw[aaH]at b;rcases b with rfl|b
  ·refine⟨k,n,by rw[a3];exact a1,a2,λh=>⟨?_,i h⟩,λh=>by rw[g h]⟩;rcases h with h|h
   ·exact q h
   ·exact (r h).1
  ·exact c.1 x b
 ·refine aap (x:=⟨n.ak,v,ks⟩) λy j o=>?_;have:=f y j;have p:rJ n v key y=I:=yX.2 ⟨o,λh=>by omega,λh=>by omega⟩;rw[p]at this;cases this
theorem Uf{l:M aE}(B:Wl (m+1) s l)(H:∀y∈l,rJ n v key y=J) :
  rz oN (xn can oN m) ot s n l e v=rz oN (km can oN m) kU s n l e v/\∀b,rz oN (km can oN m) kU s n l e v=.inr b->Wl (m+1) s b/\(∀a,xd oN s a->e.ak≠a->hH b a=hH l a)/\(n.aq=3->hH b n.ak=Z v):=by
 obtain⟨k,a1,a2,a3,a4⟩:=fe mE;have A:Wl (m+1) s (Aa (oN s n.ak) l):=Nn B qH;have g:∀y∈Aa (oN s n.ak) l,rJ n v key y=J:=λy F=>H y (nn.1 F).1;have D:∀a,xd oN s a->e.ak≠a->hH (Aa (oN s n.ak) l) a=hH l a:=by
  rintro a ⟨P,_,_,_,h⟩ f
  refine HG λx _ G=>?_;rw[G,ck,P4];exact h n.ak (by rw[a3];exact f)
 unfold rz;by_cases d:n.aq=1\/n.aq=2
 ·rw[if_pos d,if_pos d];have r:=(hs n a4).2 d;obtain⟨N,L⟩:=hm n.ae [] e.ae r (Nl m n.ae);rw[N];cases C:km can oN m n.ae [] e.ae with
  |inl c=>exact⟨rfl,λb h=>by cases h⟩
  |inr ks=>
   have K:=L ks C;by_cases i:n.aq=1/\n.cZ=J/\ks=[]
   ·simp only
    rw[if_pos i,if_pos i];refine⟨rfl,λb h=>?_⟩;cases h;exact⟨B,λ_ _ _=>rfl,λh=>by omega⟩
   ·simp only
    rw[if_neg i,if_neg i];obtain⟨q,p,o,j⟩:=W5 hm hs mE hc A g (ks:=ks) (λ_=>K.1) (λw=>L4 hm hs mE hc w (Nl m n.ae) C n.ak);rw[q];refine⟨rfl,λb h=>?_⟩;cases h;exact⟨p,λa t f=>by rw[o a f,D a t f],j⟩
 ·rw[if_neg d,if_neg d];obtain⟨q,p,o,j⟩:=W5 hm hs mE hc A g (ks:=[]) (λh=>absurd h d) (λw=>absurd (Or.inr w) d);rw[q];refine⟨rfl,λb h=>?_⟩;cases h;exact⟨p,λa t f=>by rw[o a f,D a t f],j⟩
theorem V9{l:M aE}(g:Wl (m+1) s l):u_ n l (zi n v key)=mB (rJ n v key) l 0:=by
 obtain⟨k,a1,a2,a3,a4⟩:=fe mE;obtain⟨r,j,q,p⟩:=yD hc;have c:n.aq=2->keyOf n (zi n v key)=(key,I):=λa=>Wk v a ((hs n a4).1 a).1 (vh (j a).2).1;have b:∀y∈l,y.ak=n.ak->n.aq=2->(keyOf n y).2=I:=by
  intro y b f a;obtain⟨i,o,c1,d,_,h⟩:=g.1 y b;rw[f,a3,a1]at c1;cases c1;rw[a2]at d;cases d;exact h a
 rw[<- idx_eq (λa=>by rw[c a]) b];refine Au λy _=>?_;by_cases a:n.aq=2
 ·rw[c a];rfl
 ·unfold rJ;simp only[a,decide_false,gp,lg];rfl
theorem Y2{l:M aE}(f:Wl (m+1) s l):Wl (m+1) s (s6 l (mB (rJ n v key) l 0))/\(∀y∈s6 l (mB (rJ n v key) l 0),rJ n v key y=J)/\(∀b,e.ak≠b->hH (s6 l (mB (rJ n v key) l 0)) b=hH l b):=by
 obtain⟨k,a1,a2,a3,a4⟩:=fe mE;rw[<- a3]at a1;cases h:mB (rJ n v key) l 0 with
 |none=>exact⟨f,λy d=>VC h d,λ_ _=>rfl⟩
 |some j=>
  obtain⟨a,o,q⟩:=dU h;have c:=yX.1 q;refine⟨Nn f (fG _ _),λy d=>?_,λb p=>EL o (by rw[c.1,a3];exact p)⟩;have g:=ME f.2 o d;obtain⟨i,r,c1,_⟩:=f.1 y ((fG _ _).subset d);rw[P_ a1 a2 c.1 c.2.1 c.2.2 c1]at g
  simpa using g
theorem ac9{l:M aE}(C:Wl (m+1) s l){j:Nat}{a:aE}(Q:mB (rJ n v key) l 0=Z j)(t:nth l j=Z a) :
  A5 (xn can oN m) n l e v j a (if n.aq=3 then ⟨a.ak,v,a.ae⟩ else a)=A5 (km can oN m) n l e v j a ⟨n.ak,v,a.ae⟩/\
  ∀o,A5 (km can oN m) n l e v j a ⟨n.ak,v,a.ae⟩=.inr o->Wl (m+1) s o/\(∀g,e.ak≠g->hH o g=hH l g)/\(n.aq=3->hH o n.ak=Z v):=by
 obtain⟨k,a1,a2,a3,a4⟩:=fe mE;obtain⟨b1,b2,b3,b4⟩:=yD hc;obtain⟨z',U,r⟩:=dU Q;rw[t]at U;cases U;have f:=yX.1 r;obtain⟨i,n',c1,T,c3,c4⟩:=C.1 a (bp t);rw[f.1,a3,a1]at c1;cases c1;rw[a2]at T;cases T;have L:n.aq=1\/n.aq=2->v=sJ:=λh=>by rcases h with h|h;exact b3 h;exact (b2 h).1
 have K:∀b,(n.aq=1\/n.aq=2->Wl m n.ae b)->(n.aq=2->keyOf n ⟨n.ak,v,b⟩=(key,I))->Wl (m+1) s (l.set j ⟨n.ak,v,b⟩):=by
  intro b W r;refine⟨λx F=>?_,?_⟩
  ·rcases gW F with F|rfl
   ·exact C.1 x F
   ·exact⟨k,n,by rw[a3];exact a1,a2,λh=>⟨L h,W h⟩,λh=>by rw[r h]⟩
  ·refine Rb C.2 t λw=>Rv f.1.symm (λi P p=>?_) w;have H:dO (dk s) e.ak=Z i:=by rw[<- a3];exact P
   rw[a1]at H;cases H;simp only[DU,E9,a2]at p ⊢;simp only[jD,df,decide_eq_true_eq]at p;rcases p with p|p
   ·rw[r p,f.2.2 p]
   ·have e2:¬n.aq=2:=by omega
    simp only[keyOf,if_neg e2,f.2.1 p]
 have V:∀b g,e.ak≠g->hH (l.set j ⟨n.ak,v,b⟩) g=hH l g:=λb g B=>WQ t (by rw[f.1,a3];exact B) (by rw[a3];exact B);unfold A5;by_cases d:n.aq=1\/n.aq=2
 ·have q:¬n.aq=3:=by omega
  rw[if_pos d,if_pos d,if_neg q];have G:=(hs n a4).2 d;obtain⟨c5,S⟩:=c3 d;obtain⟨g1,g2⟩:=hm n.ae a.ae e.ae G S;rw[g1];cases N:km can oN m n.ae a.ae e.ae with
  |inl c=>exact⟨rfl,λo h=>by cases h⟩
  |inr b=>
   have g3:=g2 b N;by_cases D:n.aq=1/\n.cZ=J/\b=[]
   ·simp only
    rw[if_pos D,if_pos D];refine⟨rfl,λo h=>?_⟩;cases h;exact⟨Nn C (fG _ _),λg B=>EL t (by rw[f.1,a3];exact B),λh=>absurd h q⟩
   ·simp only
    rw[if_neg D,if_neg D,f.1,c5,<- L d];refine⟨rfl,λo h=>?_⟩;cases h;exact⟨K b (λ_=>g3.1) λr=>L4 hm hs mE hc r S N n.ak,V b,λh=>absurd h q⟩
 ·rw[if_neg d,if_neg d];have e1:(if n.aq=3 then (⟨a.ak,v,a.ae⟩:aE) else a)=⟨n.ak,v,a.ae⟩:=by
   by_cases q:n.aq=3
   ·rw[if_pos q,f.1]
   ·rw[if_neg q];have h4:n.aq=4:=by
     rcases Di (Ct _ s (aS _) n a4) with h|h|h|h
     ·exact absurd (.inl h) d
     ·exact absurd (.inr h) d
     ·exact absurd h q
     ·exact h
    have A:=f.2.1 h4;have R:=f.1;cases a;simp only at A R
    rw[<- R,<- A]
  rw[e1];refine⟨rfl,λo h=>?_⟩;cases h;refine⟨K a.ae (λh=>absurd h d) (λh=>absurd (Or.inr h) d),V a.ae,λq=>?_⟩;refine QT (x:=⟨n.ak,v,a.ae⟩) t λi y P X Y=>?_;have A:=xF Q i y (by omega) X;rw[yX.2 ⟨Y,λh=>by omega,λh=>by omega⟩]at A;cases A
end
end
section
section
variable {can:hY->z->u z} {oN:M ah->z->M z} {m:Nat}
abbrev xW(can:hY->z->u z)(oN:M ah->z->M z)(m:Nat):=ur can oN (km can oN m) kU zd λn y v=>(⟨n.ak,v,y.ae⟩:aE)
abbrev Ov(can:hY->z->u z)(oN:M ah->z->M z)(m:Nat):=ur can oN (xn can oN m) ot (λn l v a=>u_ n l (zi n v a)) λn y v=>if n.aq=3 then (⟨y.ak,v,y.ae⟩:aE) else y
def O1(can:hY->z->u z)(oN:M ah->z->M z)(m:Nat)(s:M ah)(l:M aE)(e:cA)(b:M aE):Prop:=
 Wl (m+1) s b/\(∀a,xd oN s a->e.ak≠a->hH b a=hH l a)/\∀a v,xd oN s a->e.ak=a->e.op≠4->e.op≠5->can (oh s a) e.bg=Z v->hH b a=Z v
variable (hm:Hm can oN m) {s:M ah} (hs:Hs oN (m+1) s)
include hm hs
theorem Ow{l:M aE}(F:Wl (m+1) s l)(e:cA):Ov can oN m s l e=xW can oN m s l e/\∀b,xW can oN m s l e=.inr b->O1 can oN m s l e b:=by
 unfold Ov xW ur;cases i:fJ s e.ak with
 |none=>exact⟨rfl,λb h=>by cases h⟩
 |some n=>
  dsimp only;cases o:uk can n e with
  |inl c=>exact⟨rfl,λb h=>by cases h⟩
  |inr p=>
   obtain⟨v,d⟩:=p;obtain⟨k,a1,a2,a3,a4⟩:=fe i;obtain⟨b1,b2,b3,Y⟩:=yD o;have U:u_ n l (zi n v d)=mB (rJ n v d) l 0:=V9 hm hs i o F;have TO:zd n l v d=mB (rJ n v d) l 0:=rfl;dsimp only;rw[U,TO];obtain⟨c1,X,P⟩:=Y2 hm hs i o F;have hB:∀b,(n.aq=3->hH b n.ak=Z v)->∀f w,xd oN s f->e.ak=f->e.op≠4->e.op≠5->can (oh s f) e.bg=Z w->hH b f=Z w:=by
    rintro b h f w ⟨n',K,H,Q,_⟩ rfl W V L
    rw[i]at K;cases K;simp only[fS,ai,decide_eq_true_eq]at b1;have S:=Y H (by omega);rw[Q,S]at L;cases L;rw[<- a3];exact h H
   by_cases C:e.op=3/\(mB (rJ n v d) l 0).isSome=I
   ·rw[if_pos C,if_pos C];exact⟨rfl,λb h=>by cases h⟩
   rw[if_neg C,if_neg C];by_cases B:e.op=4/\mB (rJ n v d) l 0=O
   ·rw[if_pos B,if_pos B];exact⟨rfl,λb h=>by cases h⟩
   rw[if_neg B,if_neg B];by_cases g:e.op=4\/e.op=5
   ·rw[if_pos g,if_pos g];refine⟨rfl,λb h=>?_⟩;cases h;exact⟨c1,λf _ h=>P f h,λf w _ _ W V=>by omega⟩
   rw[if_neg g,if_neg g];by_cases D:e.op=2
   ·rw[if_pos D,if_pos D];obtain⟨A,x⟩:=Uf hm hs i o c1 X;refine⟨A,λb h=>?_⟩;obtain⟨t,r,q⟩:=x b h;exact⟨t,λf T h=>by rw[r f T h,P f h],hB b q⟩
   rw[if_neg D,if_neg D];cases G:mB (rJ n v d) l 0 with
   |none=>
    obtain⟨A,x⟩:=Uf hm hs i o F λy R=>VC G R;refine⟨A,λb h=>?_⟩;obtain⟨t,r,q⟩:=x b h;exact⟨t,r,hB b q⟩
   |some j=>
    obtain⟨a,N,_⟩:=dU G;simp only[N];obtain⟨A,x⟩:=ac9 hm hs i o F G N;refine⟨A,λb h=>?_⟩;obtain⟨t,r,q⟩:=x b h;exact⟨t,λf _ h=>r f h,hB b q⟩
theorem Uh:∀(es:M cA) {l:M aE},Wl (m+1) s l->wQ (Ov can oN m) s l es=wQ (xW can oN m) s l es/\∀d,wQ (xW can oN m) s l es=.inr d->Wl (m+1) s d/\
  (∀a,xd oN s a->es.filter (λc=>Z' (c.ak=a))=[]->hH d a=hH l a)/\
  ∀a v c,xd oN s a->es.filter (λc=>Z' (c.ak=a))=[c]->c.op≠4->c.op≠5->can (oh s a) c.bg=Z v->hH d a=Z v
 |[],l,i=>⟨rfl,λd h=>by cases h;exact⟨i,λ_ _ _=>rfl,λa v c _ h=>by simp at h⟩⟩
 |e::es,l,i=>by
  obtain⟨C,B⟩:=Ow hm hs i e;simp only[wQ,C];cases A:xW can oN m s l e with
  |inl c=>exact⟨rfl,λd h=>by cases h⟩
  |inr t=>
   obtain⟨r,q,p⟩:=B t A;obtain⟨y,i2⟩:=Uh es r;refine⟨y,λd h=>?_⟩;obtain⟨x,j,w⟩:=i2 d h;refine⟨x,λa f b=>?_,λa v c f b o n k=>?_⟩
   ·rw[iq]at b
    split at b
    ·cases b
    ·rename_i g;rw[j a f b,q a f (by simpa using g)]
   ·rw[iq]at b
    split at b
    ·rename_i g;obtain⟨F,D⟩:=List.cons.inj b;subst F;rw[j a f D,p a v f (by simpa using g) o n k]
    ·exact w a v c f b o n k
end
theorem sF{can:hY->z->u z}{g:M ah->z->M z}:∀m,Hm can g m
 |0=>λs l es _ _=>⟨rfl,λd h=>by cases h⟩
 |m+1=>λs l es j k=>by
  obtain⟨q,p⟩:=Uh (sF m) j es k;refine⟨q,λd h=>?_⟩;obtain⟨f,r,e⟩:=p d h;refine⟨f,λi v n a=>?_⟩;unfold Hn at a
  split at a
  ·rename_i c o
   split at a
   ·cases a
   ·rename_i b;simp only[df,decide_eq_true_eq,not_or]at b;exact e i v c n o b.1 b.2 a
  ·cases a
end
section
theorem abU{s:z}(h:s.size=0):s=sJ:=by
 obtain⟨d⟩:=s;have a:d.size=0:=h;rw[Array.eq_empty_of_size_eq_zero a];rfl
theorem Ue{d:z->Bool}{mt:z->z->Bool}:∀(m N:Nat) (s:M ah) (l:M aE),m_ (qq d mt N) (dk s) l=I->Wl m s l
 |0,_,_,_,_=>trivial
 |m+1,N,s,l,h=>by
  rw[Tg]at h;refine⟨λx e=>?_,h.2⟩;obtain⟨k,n,f,b,a⟩:=h.1 x e;refine⟨k,n,f,b,?_⟩;cases N with
  |zero=>cases a
  |succ N=>
   unfold qq HE at a;by_cases c:n.aq=3\/n.aq=4
   ·refine⟨λh=>by omega,λh=>by omega⟩
   ·have g:(Z' (n.aq=3) ||decide (n.aq=4))=J:=by
     simp only[not_or]at c;simp[c]
    rw[g]at a;simp only[aD,if_false]at a;by_cases b:n.aq=2
    ·simp only[b,decide_true,if_true,ai,decide_eq_true_eq]at a;exact⟨λ_=>⟨abU a.2.1,Ue m N n.ae x.ae a.2.2⟩,λ_=>a.1⟩
    ·simp only[b,decide_false,aD,if_false,ai,decide_eq_true_eq]at a;exact⟨λ_=>⟨abU a.1,Ue m N n.ae x.ae a.2.2⟩,λh=>absurd h b⟩
def rest(k:Nat):Nat->M ah->M z
 |_,[]=>[]
 |j,e::es=>(if j=k then [] else (dk e.ae).map ah.ak)++rest k (j+1) es
mutual
def wG(es:List ah)(a:ByteArray):Option (List ByteArray):=match es with
 |[]=>O
 |e::es=>if kM e.aq=I/\e.ak=a then Z [] else if e.aq=5 then (match wZ e.ae a 0 with
  |some (k,out)=>Z (out++rest k 0 e.ae)
  |none=>wG es a) else wG es a
termination_by aw es
decreasing_by
 ·exact ah.iz e es
 ·simp only[bG];omega
 ·simp only[bG];omega
def wZ(b:List ah)(a:ByteArray)(i:Nat):Option (Nat×List ByteArray):=match b with
 |[]=>O
 |e::es=>match wG e.ae a with
  |some out=>Z (i,out)
  |none=>wZ es a (i+1)
termination_by aw b
decreasing_by
 ·exact ah.iz e es
 ·simp only[bG];omega
end
def fO(s:M ah)(a:z):M z:=(wG s a).getD []
theorem HM{b:z}:∀{a:M ah} {i k:Nat} {out:M z},wZ a b i=Z (k,out)->∃c∈a,wG c.ae b=Z out
 |[],i,k,out,h=>by rw[wZ]at h;cases h
 |c::a,i,k,out,h=>by
  rw[wZ]at h
  split at h
  ·rename_i o e;cases h;exact⟨c,bQ,e⟩
  ·obtain⟨d,g,f⟩:=HM h;exact⟨d,bT _ g,f⟩
theorem Mw{k:Nat}{x:z}:∀{a:M ah} {j:Nat},x∈rest k j a->∃c∈a,x∈(dk c.ae).map ah.ak
 |c::a,j,h=>by
  rw[rest,aT]at h;rcases h with h|h
  ·split at h
   ·cases h
   ·exact⟨c,bQ,h⟩
  ·obtain⟨d,e,b⟩:=Mw h;exact⟨d,bT _ e,b⟩
section
variable {ip:z->Bool} {mt:z->z->Bool}
theorem wv{N:Nat}{l:M ah}{k:Int}{f:Bool}{deep:Nat}(h:rN ip mt N l k f deep=I) :
  (∀x∈l,(Z' (k=5)=Z' (x.aq=6))/\vC ip mt x f=I/\∃a,rN ip mt a x.ae x.aq (sW x f) (deep+1)=I)/\((dk l).map ah.ak).Nodup:=by
 cases N with
 |zero=>cases h
 |succ a=>
  unfold rN at h;simp only[ai]at h;obtain⟨e,d,_⟩:=h;refine⟨λx b=>?_,(n_ _).1 d⟩;obtain⟨j,c⟩:=qp b;have:=nq.1 e j x c;simp only[ai,decide_eq_true_eq]at this;exact⟨this.2.1,this.2.2.1,a,this.2.2.2⟩
def Vk(ip:z->Bool)(mt:z->z->Bool)(l:M ah):Prop:=∀x∈l,∃N f deep,rN ip mt N x.ae x.aq f deep=I
theorem abo{N:Nat}{l:M ah}{k:Int}{f:Bool}{deep:Nat}(h:rN ip mt N l k f deep=I):Vk ip mt l:=λx b=>by
 obtain⟨_,_,a,c⟩:=(wv h).1 x b;exact⟨a,_,_,c⟩
theorem aau(m:Nat):∀(es:M ah),aw es < m->Vk ip mt es->∀{j:z} {out:M z},wG es j=Z out->∀x∈out,∃e∈es,e.aq=5/\x∈(dk e.ae).map ah.ak:=by
 induction m with
 |zero=>intro es h;omega
 |succ m q=>
  intro es t r j out h x d;cases es with
  |nil=>rw[wG]at h;cases h
  |cons e es=>
   have s:wG es j=Z out->∃i∈e::es,i.aq=5/\x∈(dk i.ae).map ah.ak:=λh=>by
    obtain⟨i,g,F⟩:=q es (by simp only[bG]at t;omega) (λy l=>r y (bT _ l)) h x d;exact⟨i,bT _ g,F⟩
   rw[wG]at h
   split at h
   ·cases h;cases d
   ·split at h
    ·rename_i w
     split at h
     ·rename_i k o B;cases h;refine⟨e,bQ,w,?_⟩;obtain⟨N,f,deep,C⟩:=r e bQ;have v:=(wv C).1;have D:∀c∈e.ae,c.aq=6:=λc b=>by
       have:=(v c b).1;rw[w]at this
       simpa using this.symm
      have p:∀c∈e.ae,∀y,y∈(dk c.ae).map ah.ak->y∈(dk e.ae).map ah.ak:=λc b y l=>
       ((NH b (by simp[o6,D c b])).map ah.ak).subset l
      rcases aT.1 d with d|d
      ·obtain⟨c,b,g⟩:=HM B;obtain⟨_,_,a,n⟩:=v c b;have A:aw c.ae < m:=by
        have a1:=ah.er c;have a2:=ba b;have a3:=ah.iz e es;simp only[bG]at t a3;omega
       obtain⟨i,K,H,G⟩:=q c.ae A (abo n) g x d;exact p c b x (((NH K (by simp[o6,H])).map ah.ak).subset G)
      ·obtain⟨c,b,g⟩:=Mw d;exact p c b x g
     ·exact s h
    ·exact s h
theorem Iy{l:M ah}{x:ah}(a:x∈l){y:ah}(c:y∈uR x):y∈dk l:=by
 induction l with
 |nil=>cases a
 |cons e l b=>
  rw[ny,aT];rcases aI.1 a with rfl|a
  ·exact .inl c
  ·exact .inr (b a)
theorem K3:∀{l:M ah} {x e a b:ah},((dk l).map ah.ak).Nodup->x∈l->e∈l->x≠e->a∈uR x->b∈uR e->a.ak≠b.ak
 |c::l,x,e,a,b,m,o,n,k,i,g=>by
  rw[ny,cp,bH]at m;obtain⟨_,n2,j⟩:=m;rcases aI.1 o with rfl|f
  ·rcases aI.1 n with rfl|d
   ·exact absurd rfl k
   ·exact j _ (cH i) _ (cH (Iy d g))
  ·rcases aI.1 n with rfl|d
   ·exact λh=>j _ (cH g) _ (cH (Iy f i)) h.symm
   ·exact K3 n2 f d k i g
theorem Xo{l:M ah}(a:(l.map ah.ak).Nodup){j:Nat}{x:ah}(h:nth l j=Z x):dO l x.ak=Z j:=by
 have:=nq.1 ((n_ l).2 a) j x h
 simpa using this
theorem acU{N:Nat}{s:M ah}{k:Int}{f:Bool}{deep:Nat}(h:rN ip mt N s k f deep=I){b:z}(a:AG s b=I):xd fO s b:=by
 unfold AG vi at a;cases m:dO s b with
 |none=>rw[m]at a;cases a
 |some j=>
  rw[m]at a;simp only at a
  cases d:nth s j with
  |none=>rw[d]at a;cases a
  |some x=>
   rw[d]at a;simp only[ai,decide_eq_true_eq]at a;have r:=a.1;obtain⟨L,A,H⟩:=dU m;rw[d]at A;cases A;have c:x.ak=b:=by simpa using H
   have B:=bp d;have t:=(wv h).2;have l:uR x=[x]:=by simp[uR,kM,fS,r]
   have n:x∈dk s:=Iy B (by rw[l];exact bQ);obtain⟨i,w⟩:=qp n;have v:=Xo t w;rw[c]at v;refine⟨x,by simp only[fJ,v,w],r,by simp only[oh,m,d],λC P g=>?_⟩;unfold fO at g;cases o:wG s C with
   |none=>rw[o]at g;cases g
   |some out=>
    rw[o]at g;obtain⟨e,F,G,p⟩:=aau _ s (aS _) (abo h) o b g;obtain⟨y,D,K⟩:=bZ.1 p;have q:uR e=dk e.ae:=by simp[uR,kM,fS,o6,G]
    exact K3 t B F (λe=>by rw[e]at r;omega) (by rw[l];exact bQ) (by rw[q];exact D) (by rw[c,K])
theorem K4(a:Nat):∀{N:Nat} {s:M ah} {k:Int} {f:Bool} {deep:Nat},aw s < a->rN ip mt N s k f deep=I->∀n∈dk s,∃t m r,vC ip mt n m=I/\rN ip mt t n.ae n.aq (sW n m) r=I:=by
 induction a with
 |zero=>intro N s k f deep h;omega
 |succ a o=>
  intro N s k f deep v h;have p:=(wv h).1;have d:∀l:M ah,(∀x∈l,x∈s)->∀n∈dk l,∃x∈s,n∈uR x:=by
   intro l
   induction l with
   |nil=>intro _ n b;rw[td]at b;cases b
   |cons e l g=>
    intro i n b;rw[ny,aT]at b;rcases b with b|b
    ·exact⟨e,i e bQ,b⟩
    ·exact g (λx c=>i x (bT _ c)) n b
  intro n b;obtain⟨x,c,b⟩:=d s (λx c=>c) n b;obtain⟨w,q,K,j⟩:=p x c;unfold uR at b
  split at b
  ·rw[db]at b;subst b;exact⟨K,f,_,q,j⟩
  ·split at b
   ·refine o ?_ j n b;have a1:=ah.er x;have a2:=ba c;omega
   ·cases b
theorem abn:∀(m:Nat) {N:Nat} {s:M ah} {k:Int} {f:Bool} {deep:Nat},rN ip mt N s k f deep=I->Hs fO m s
 |0,_,_,_,_,_,_=>trivial
 |m+1,N,s,k,f,deep,h=>λn e=>by
  obtain⟨l,i,j,c,d⟩:=K4 _ (aS _) h n e;refine⟨λa=>?_,λ_=>abn m d⟩;unfold vC j7 at c;simp only[a,ai]at c;have b:=c.2;have g:¬(2:Int)=1:=by decide
  simp only[g,if_false,if_true,BN,rP,ai]at b;exact⟨(qd _).1 b.2.2.2.2.1.1,λk a=>acU d (bz.1 b.1 k a)⟩
end
end
section
theorem cA.Kt{x y:cA}(h:y∈x.ae):aw y < aw x:=by
 have a:=ba h;cases x;simp only[cA.mk.sizeOf_spec];dsimp only at a;omega
theorem cA.er(x:cA):aw x.ae < aw x:=by
 cases x;simp only[cA.mk.sizeOf_spec];omega
def eb(x:cA):M D:=[.int .i64 x.op,.str x.ak,.str x.bg,.list 4 J (x.ae.map λy=>eb y)]
termination_by aw x
decreasing_by exact cA.Kt (by assumption)
abbrev gQ(l:M cA):D:=.list 4 J (l.map eb)
theorem aK(x:cA):eb x=[E x.op,.str x.ak,.str x.bg,gQ x.ae]:=by rw[eb]
theorem qw(x:cA):fm (eb x)=x.ak.size+x.bg.size+bW eb x.ae:=by simp only[aK,fm,D.sz,aA,bW];omega
theorem Dj{l:M cA}{i:Nat}{y:cA}(h:nth l i=Z y):aU (.el 4) [gQ l,E (i:Int)]=Z (.list 0 J [eb y]):=by
 rw[rR,aR,h];rfl
theorem RF(e:cA):(eb e).length=4:=by rw[aK];rfl
theorem pK(e:cA)(k:Nat)(a:Bool):aU (.has 4) [.list k a [eb e]]=Z (.bool J):=by
 simp only[aU,elC,RF,az,if_true]
def ni(op:Int)(x:aE):cA:=⟨op,x.ak,x.bg,x.ae.map λy=>ni op y⟩
termination_by aw x
decreasing_by exact aE.Kt (by assumption)
theorem IA(op:Int)(x:aE):ni op x=⟨op,x.ak,x.bg,x.ae.map (ni op)⟩:=by rw[ni]
theorem agT:aU (.wB 4 J) []=Z (gQ []):=(rfl)
theorem agU(o:Int)(a b:z)(c:M cA):aU (.wB 4 J) [E o,.str a,.str b,gQ c]=Z (.list 4 J [[E o,.str a,.str b,gQ c]]):=l6 4 _ rfl (by decide)
theorem abq{l:M cA}(h:l.length<=mg)(o:Int)(a b:z)(c:M cA):aU (.app 4 64) [gQ l,.list 4 J [[E o,.str a,.str b,gQ c]]]=Z (gQ (l++[⟨o,a,b,c⟩])):=by
 have d:=gy 4 64 J (l.map eb) [[E o,.str a,.str b,gQ c]] (by decide) (by simp only[mg,aA,aG,aP]at *;omega);rw[d];simp[gQ,aK]
theorem ahD(o:Int)(a b:z):aU .pl [E o,.str a,.str b]=Z (.bool J):=(rfl)
theorem aek(op:Int)(a:Nat):∀l:M aE,aw l < a->bW bl l<=mg->G 346 [E op,aO l]=Z (0,[gQ (l.map (ni op))]):=by
 induction a with
 |zero=>intro l h;omega
 |succ a m=>
  intro l w e;have d:l.length<=mg:=by simp only[bW]at e;omega
  have f:=ei (b:=lB G Jp) l (λi t=>(0,[E op,aO l,E (i:Int),gQ t])) (λi=>(l.take i).map (ni op)) (0,[E op,aO l,E l.length,.bool J,gQ (l.map (ni op))]) (by
   intro i x c;have g:=bw c;have n:=wj g d;have s:=n8 c;obtain⟨v,j⟩:=tt e (bp c);have r:=m x.ae (by have:=ba (bp c);have:=aE.er x;omega) j;have q:=agU op x.ak x.bg (x.ae.map (ni op));have p:=abq (l:=(l.take i).map (ni op)) (by simp only[aA,bj];omega) op x.ak x.bg (x.ae.map (ni op));have o:=ahD op x.ak x.bg;have k:(l.take (i+1)).map (ni op)=(l.take i).map (ni op)++[⟨op,x.ak,x.bg,x.ae.map (ni op)⟩]:=by rw[cB l i x c,cp,aZ,cj,IA op x]
   rw[k];generalize (l.take i).map (ni op)=t at *;simp only[go_sem,bK,Jp,g,n,s,aV x,r,q,p,o]) (by simp only[go_sem,bK,Jp,aB,bo]) l.length 0 (by omega)
  rw[n0,bE,cj]at f;refine cN aiR rfl ?_;simp only[go_sem,aiR,agT,f]
theorem alv{op:Int}{l:M aE}(a:bW bl l<=mg):G 346 [E op,aO l]=Z (0,[gQ (l.map (ni op))]):=aek op _ l (aS _) a
theorem aen(op:Int)(a:Nat):∀l:M aE,aw l < a->bW bl l<=mg->G 357 [E op,aO l]=Z (0,[gQ (l.map (ni op))]):=by
 induction a with
 |zero=>intro l h;omega
 |succ a m=>
  intro l w e;have d:l.length<=mg:=by simp only[bW]at e;omega
  have f:=ei (b:=lB G Jr) l (λi t=>(0,[E op,aO l,E l.length,E (i:Int),gQ t])) (λi=>(l.take i).map (ni op)) (0,[E op,aO l,E l.length,E l.length,.bool J,gQ (l.map (ni op))]) (by
   intro i x c;have g:=bw c;have n:=wj g d;have s:=n8 c;obtain⟨v,j⟩:=tt e (bp c);have r:=m x.ae (by have:=ba (bp c);have:=aE.er x;omega) j;have q:=agU op x.ak x.bg (x.ae.map (ni op));have p:=abq (l:=(l.take i).map (ni op)) (by simp only[aA,bj];omega) op x.ak x.bg (x.ae.map (ni op));have o:=ahD op x.ak x.bg;have k:(l.take (i+1)).map (ni op)=(l.take i).map (ni op)++[⟨op,x.ak,x.bg,x.ae.map (ni op)⟩]:=by rw[cB l i x c,cp,aZ,cj,IA op x]
   rw[k];generalize (l.take i).map (ni op)=t at *;simp only[go_sem,bK,Jr,g,n,s,gI,aV x,r,q,p,o]) (by simp only[go_sem,bK,Jr,aB,bo]) l.length 0 (by omega)
  rw[n0,bE,cj]at f;refine cN aiU rfl ?_;simp only[go_sem,aiU,agT,f]
theorem alC{op:Int}{l:M aE}(a:bW bl l<=mg):G 357 [E op,aO l]=Z (0,[gQ (l.map (ni op))]):=aen op _ l (aS _) a
end
section
theorem erase_eq{a:Type}:∀(l:M a) (k:Nat),l.eraseIdx k=l.take k++l.drop (k+1)
 |[],k=>by simp
 |x::l,0=>by simp
 |x::l,k+1=>by simp[erase_eq l k]
theorem Q1(k:Nat)(c:Bool)(es:M (M D))(a b:Nat)(h:a<=b)(d:b<=es.length):aU (.cut I) [.list k c es,E (a:Int),E (b:Int)]=Z (.list k c ((es.take b).drop a)):=by
 simp only[aU,dI,cd];rw[if_pos (by omega),if_pos (by omega)];dsimp only;rw[if_pos ⟨h,d⟩]
theorem W0(k:Nat)(b:Bool)(es:M (M D))(a:Nat)(h:a<=es.length):aU (.zZ k J) [.list k b es,E (a:Int)]=Z (.list k b (es.drop a)):=by
 simp only[aU,dI,cd];rw[if_pos (by omega)];dsimp only;rw[if_pos ⟨trivial,h⟩]
theorem B5{a b:M aE}(h:a.length+b.length<=2147483648):aU (.app 3 56) [aO a,aO b]=Z (aO (a++b)):=by
 rw[gy 3 56 J _ _ (by decide) (by simpa using h),aO,cp]
theorem ael{l:M aE}:G 349 [aO l,E (-1)]=Z (0,[aO l]):=by
 refine cN aa_ rfl ?_;simp only[go_sem,aa_]
theorem aem{l:M aE}{k:Nat}(f:k < l.length)(e:l.length<=mg):G 349 [aO l,E (k:Int)]=Z (0,[aO (l.eraseIdx k)]):=by
 have c:=Q1 3 J (l.map bl) 0 k (by omega) (by simp;omega);have i:=W0 3 J (l.map bl) (k+1) (by simp;omega);have d:=wj f e;have j:=ZT k;have h:aU (.app 3 56) [aO [],.list 3 J ((l.map bl).take k)]=Z (aO (l.take k)):=by
  rw[<- lM];have:=B5 (a:=[]) (b:=l.take k) (by simp only[mg,bj,aP]at *;omega);rw[av]at this;exact this
 have g:aU (.app 3 56) [aO (l.take k),.list 3 J ((l.map bl).drop (k+1))]=Z (aO (l.eraseIdx k)):=by
  rw[<- pw,erase_eq];exact B5 (by simp only[mg,bj,dK]at *;omega)
 rw[n0,br]at c;refine cN aa_ rfl ?_;simp only[go_sem,aa_,j,c,d,i,om,h,g]
theorem Z_{l:M aE}{a:M z}{x:aE}{i:Nat}{o:D}(g:nth l i=Z x)(j:a.length<=mg) :
  cl (lB G A3) (0,[aO l,bn a,E (i:Int),.bool J,E 0,o])=Z (0,[aO l,bn a,E (i:Int),.bool (nE a x.ak),E a.length,.bool J,o]):=by
 have m:=n8 g;have d:=ei (b:=lB G A3) a (λk (b:Bool)=>(0,[aO l,bn a,E (i:Int),.bool b,E (k:Int),o])) (λk=>(a.take k).any λy=>Z' (y=x.ak))
  (0,[aO l,bn a,E (i:Int),.bool (a.any λy=>Z' (y=x.ak)),E a.length,.bool J,o]) (by
  intro k e c;have f:=bw c;have h:=wj f j;rw[xg c];cases n:(a.take k).any λy=>Z' (y=x.ak)<;>simp only[go_sem,bK,A3,f,aR,c,fo,m,aV x,h]) (by simp only[go_sem,bK,A3,aB,bo]) a.length 0 (by omega)
 rw[n0,bE,List.any_nil,Lu]at d;exact d
theorem npN(a b:z)(c:M aE):aU .TU [.str a,.str b,aO c]=Z (.bool J):=(rfl)
theorem Re{l:M aE}{a:M z}{i:Nat}{x:aE}(b:nth l i=Z x):Aa a (l.take (i+1))=Aa a (l.take i)++(if nE a x.ak=I then [] else [x]):=by
 unfold Aa;rw[cB l i x b,List.filter_append];cases h:nE a x.ak<;>simp[h]
theorem X9{l:M aE}{a:M z}:(Aa a l).length<=l.length:=oW _ _
theorem YO{l:M aE}(h:l.length<=mg)(x:aE):aU (.app 3 56) [aO l,.list 3 J [[.str x.ak,.str x.bg,aO x.ae]]]=Z (aO (l++[x])):=by
 cases x;exact ae9 h _ _ _
theorem aly{l:M aE}{ns:M z}(c:l.length<=mg)(k:ns.length<=mg):G 350 [aO l,bn ns]=Z (0,[aO (Aa ns l)]):=by
 have h:=ei (b:=lB G Jq) l (λi t=>(0,[aO l,bn ns,E (i:Int),aO t])) (λi=>Aa ns (l.take i)) (0,[aO l,bn ns,E l.length,.bool J,aO (Aa ns l)]) (by
  intro i x a;have d:=bw a;have g:=wj d c;have r:=n8 a;have j:(Aa ns (l.take i)).length<=mg:=aH X9 (aH (List.length_take_le' _ _) c);rw[Re a];generalize Aa ns (l.take i)=t at *;have e:=Z_ (o:=aO t) a k;have q:=WK x.ak x.bg x.ae;have p:=YO j x;have n:=npN x.ak x.bg x.ae;cases m:nE ns x.ak<;>rw[m]at e<;>simp only[go_sem,bK,Jq,d,r,gI,aV x,e,q,p,n,g,aJ]) (by simp only[go_sem,bK,Jq,aB,bo]) l.length 0 (by omega)
 rw[n0,bE]at h;refine cN aiS rfl ?_;have f:Aa ns []=[]:=rfl;rw[f]at h;simp only[go_sem,aiS,om,h]
end
section
theorem Uq{d:M ah}{a b:aE}{i k:Nat}{e:ah}(f:dO d a.ak=Z i)(c:dO d b.ak=Z k)(g:nth d i=Z e) :
  kC d a b=(if (Z' (i=k) && jD e.aq)=I then gr (keyOf e a).1 (keyOf e b).1 else Z' (i < k)):=by
 unfold kC E9 DU;simp only[f,c,g]
def Kd(d:M ah)(x:aE):Prop:=∃k,dO d x.ak=Z k
theorem Kd.nth{d:M ah}{x:aE}(h:Kd d x):∃k e,dO d x.ak=Z k/\nth d k=Z e/\e.ak=x.ak:=by
 obtain⟨k,a⟩:=h;obtain⟨e,c,b⟩:=dU a;exact⟨k,e,a,c,by simpa using b⟩
theorem abR{d:M ah}{a b:aE}(h:bW ay d<=mg)(l:a.ae.length<=mg)(j:b.ae.length<=mg)(n:Kd d a)(m:Kd d b) :
  G 249 ([aF d]++bl a++bl b)=Z (0,[.bool (kC d a b)]):=by
 obtain⟨i,e,g,c,_⟩:=n.nth;obtain⟨k,f⟩:=m;rw[Uq g f c];exact ahT (by simp only[bW]at h;omega) (pG (by have:=dV ay (bp c);omega)) l j g f c
theorem aaa{d:M ah}{l:M aE}{x:aE}(o:bW ay d<=mg)(g:bW bl l<=mg)(k:x.ae.length<=mg)(s:∀y∈l,Kd d y)(r:Kd d x):∀m i,i+m=l.length->
  cl (lB G El) (0,[aF d,aO l,.int .i64 (i:Int)]++bl x)=Z (0,[aF d,aO l,E ((i+((l.drop i).takeWhile (kC d · x)).length:Nat):Int),.bool J]++bl x):=by
 have c:l.length<=mg:=by simp only[bW]at g;omega
 intro m
 induction m with
 |zero=>
  intro i p;obtain rfl:i=l.length:=by omega
  rw[bJ];refine aX ?_;simp only[go_sem,bK,El,aB,List.takeWhile_nil,aP,dx,aV x]
 |succ m j=>
  intro i p;have e:i < l.length:=by omega
  have a1:=dz (l:=l) (i:=i) e;have hd:=eM l i _ a1;generalize l[i]'e=y at a1 hd;have n:=wj e c;have h:=n8 a1;have f:=abR (a:=y) (b:=x) o (tt g (bp a1)).1 k (s y (bp a1)) r;simp only[aV,au,av]at f;rw[hd,kt];cases q:kC d y x<;>rw[q]at f
  ·refine aX ?_;simp only[go_sem,bK,El,e,h,gI,aV,f,aD,if_false,aP,dx,OB]
  ·rw[if_pos rfl,aG,show i+(((l.drop (i+1)).takeWhile (kC d · x)).length+1)=(i+1)+((l.drop (i+1)).takeWhile (kC d · x)).length by omega,<- j (i+1) (by omega)];refine bU ?_;simp only[go_sem,bK,El,e,h,gI,aV,f,n,OB]
theorem J5{a:Type}(p:a->Bool):∀l:M a,l.take (l.takeWhile p).length=l.takeWhile p
 |[]=>rfl
 |x::l=>by
  rw[kt];split
  ·simp[J5 p l]
  ·rfl
theorem Iz{a:Type}(p:a->Bool):∀l:M a,l.drop (l.takeWhile p).length=l.dropWhile p
 |[]=>rfl
 |x::l=>by
  rw[kt,List.dropWhile_cons];split
  ·simp[Iz p l]
  ·rfl
theorem abY{a:Type}(p:a->Bool)(l:M a):(l.takeWhile p).length<=l.length:=(w_ p).length_le
theorem ac7(x:aE):aU (.wB 3 J) [.str x.ak,.str x.bg,aO x.ae]=Z (aO [x]):=by
 rw[WK];simp[aO,aV]
theorem alz{d:M ah}{l:M aE}{x:aE}(p:bW ay d<=mg)(j:bW bl l<=mg)(o:x.ae.length<=mg)(s:∀y∈l,Kd d y)(r:Kd d x) :
  ∃b,G 351 ([aF d,aO l]++bl x)=Z (0,[aO (kU d l x),.bool b]):=by
 have q:l.length<=mg:=by simp only[bW]at j;omega
 have e:=aaa p j o s r l.length 0 (by omega);rw[n0,br,bu]at e;simp only[aV,au,av]at e;have H:=J5 (kC d · x) l;have F:=Iz (kC d · x) l;have g:=abY (kC d · x) l;have c:kU d l x=match l.dropWhile (kC d · x) with
  |y::b=>if kC d x y=I then l.takeWhile (kC d · x)++x::y::b else l
  |[]=>l.takeWhile (kC d · x)++[x]:=rfl
 rw[<- H,<- F]at c;generalize (l.takeWhile (kC d · x)).length=k at *;have c1:=Q1 3 J (l.map bl) 0 k (by omega) (by simpa using g);have n:=W0 3 J (l.map bl) k (by simpa using g);rw[n0,br,<- lM]at c1;rw[<- pw]at n;have C:aU (.app 3 56) [aO [],aO (l.take k)]=Z (aO (l.take k)):=B5 (a:=[]) (by simp only[mg,bj,aP]at *;omega);have B:aU (.app 3 56) [aO (l.take k),aO [x]]=Z (aO (l.take k++[x])):=B5 (by simp only[mg,bj,aG,aP]at *;omega);have A:aU (.app 3 56) [aO (l.take k++[x]),aO (l.drop k)]=Z (aO (l.take k++[x]++l.drop k)):=B5 (by simp only[mg,a_,bj,dK,aG,aP]at *;omega);have v:=ac7 x;have t:=npN x.ak x.bg x.ae;rcases dH k l.length with f|f
 ·have a1:=dz (l:=l) (i:=k) f;have hd:=eM l k _ a1;generalize l[k]'f=y at a1 hd;have w:=n8 a1;have h:=abR (a:=x) (b:=y) p o (tt j (bp a1)).1 r (s y (bp a1));simp only[aV,au,av]at h;rw[hd]at c;dsimp only at c;cases D:kC d x y<;>rw[D]at h c
  ·rw[if_neg (by simp)]at c;rw[c];refine⟨J,cN To (by rw[aV];rfl) ?_⟩;simp only[go_sem,To,aV,e,f,w,gI,h,OB]
  ·rw[if_pos rfl]at c;have:kU d l x=l.take k++[x]++l.drop k:=by rw[c,hd,bB];rfl
   rw[this];refine⟨I,cN To (by rw[aV];rfl) ?_⟩;simp only[go_sem,To,aV x,aV y,e,f,w,gI,h,OB,c1,n,om,C,B,A,v,t]
 ·have K:k=l.length:=by omega
  have hd:l.drop k=[]:=fP f;rw[hd]at c;dsimp only at c;have:kU d l x=l.take k++[x]++l.drop k:=by rw[c,hd,aJ]
  rw[this];have m:¬k < l.length:=by omega
  refine⟨I,cN To (by rw[aV];rfl) ?_⟩;simp only[go_sem,To,aV x,e,m,OB,c1,n,om,C,B,A,v,t]
end
section
theorem YT{d:M ah}{x y:aE}{k j:Nat}{e:ah}(a:dO d x.ak=Z k)(b:dO d y.ak=Z j)(f:nth d k=Z e) :
  kC d x y=(Z' ((k:Int) < (j:Int)) ||(Z' ((j:Int)=(k:Int)) && Z' (0 < pv e y x))):=by
 rw[Uq a b f];unfold pv;by_cases c:k=j
 ·subst c;have c1:Z' ((k:Int) < (k:Int))=J:=by simp
  cases h:jD e.aq
  ·simp[c1]
  ·simp[c1,Y0]
 ·have c1:Z' ((j:Int)=(k:Int))=J:=by simp only[decide_eq_false_iff_not];omega
  have g:Z' ((k:Int) < (j:Int))=Z' (k < j):=decide_eq_decide.2 (by omega);simp[c,c1,g]
theorem aac{d:M ah}{l:M aE}{x:aE}{k:Nat}{e:ah}(Q:bW ay d<=mg)(C:bW bl l<=mg)(P:x.ae.length<=mg)(V:∀y∈l,Kd d y)(S:dO d x.ak=Z k)(s:nth d k=Z e):∀m i,i+m=l.length->
  ∃o c,(o=0\/o=1)/\cl (lB G xP) (0,[aO l,aF d,E (k:Int),.int .i64 (i:Int),.str x.ak,.str x.bg,aO x.ae,aF d,bn (d.map ah.ak)]) =
   Z (o,[aO l,aF d,E (k:Int),E ((i+((l.drop i).takeWhile (λy=>!kC d x y)).length:Nat):Int),.bool c,.str x.ak,.str x.bg,aO x.ae,aF d,bn (d.map ah.ak)]):=by
 have q:l.length<=mg:=by simp only[bW]at C;omega
 have K:(d.map ah.ak).length<=mg:=by rw[aA];simp only[bW]at Q;omega
 have W:e.bk.length<=mg:=pG (by have:=dV ay (bp s);omega);intro m
 induction m with
 |zero=>
  intro i T;obtain rfl:i=l.length:=by omega
  rw[bJ];refine⟨1,J,.inr rfl,aX ?_⟩;simp only[go_sem,bK,xP,aB,List.takeWhile_nil,aP,dx]
 |succ m N=>
  intro i T;have r:i < l.length:=by omega
  have a1:=dz (l:=l) (i:=i) r;have hd:=eM l i _ a1;generalize l[i]'r=y at a1 hd;have A:=wj r q;have H:=n8 a1;have F:aU (.el 19) [aF d,E (k:Int)]=Z (.list 0 J [ay e]):=by rw[rR,aR,s];rfl
  obtain⟨j,D⟩:=V y (bp a1);have w:=q96 (l:=d.map ah.ak) (v:=y.ak) K;rw[vf,D]at w;have t:=aej (n:=e) (a:=y) (b:=x) W (tt C (bp a1)).1 P;simp only[af,aV,au,av]at t;have U:=YT S D s;rw[hd,kt,U];obtain⟨o,c,R,L⟩:=N (i+1) (by omega);generalize p:Z' ((k:Int) < (j:Int))=v1 at *;generalize g:Z' ((j:Int)=(k:Int))=v2 at *;generalize f:Z' (0 < pv e y x)=v3 at *;have go:(v1 ||(v2 && v3))=J->lB G xP (0,[aO l,aF d,E (k:Int),.int .i64 (i:Int),.str x.ak,.str x.bg,aO x.ae,aF d,bn (d.map ah.ak)])=Z (.go (0,[aO l,aF d,E (k:Int),E ((i+1:Nat):Int),.str x.ak,.str x.bg,aO x.ae,aF d,bn (d.map ah.ak)])):=by
   intro h;cases v1<;>cases v2<;>cases v3<;>first|(simp at h;done)|simp only[go_sem,bK,xP,r,H,aV y,w,ko,p,g,f,F,bO,gI,af e,t,qG,A]
  have out:(v1 ||(v2 && v3))=I->lB G xP (0,[aO l,aF d,E (k:Int),.int .i64 (i:Int),.str x.ak,.str x.bg,aO x.ae,aF d,bn (d.map ah.ak)])=Z (.out (0,[aO l,aF d,E (k:Int),.int .i64 (i:Int),.bool I,.str x.ak,.str x.bg,aO x.ae,aF d,bn (d.map ah.ak)])):=by
   intro h;cases v1<;>cases v2<;>cases v3<;>first|(simp at h;done)|simp only[go_sem,bK,xP,r,H,aV y,w,ko,p,g,f,F,bO,gI,af e,t,qG,A]
  cases B:(v1 ||(v2 && v3))
  ·refine⟨o,c,R,?_⟩;rw[bU (go B),L];simp only[gp,if_true,aG];rw[show i+(((l.drop (i+1)).takeWhile (λy=>!kC d x y)).length+1)=i+1+((l.drop (i+1)).takeWhile (λy=>!kC d x y)).length by omega]
  ·refine⟨0,I,.inl rfl,?_⟩;rw[aX (out B)];simp
theorem adq{l:M aE}{x:aE}{k:Nat}(b:k<=l.length)(a:l.length<=mg):aU (.xt I) [aO l,E (k:Int),aO [x]]=Z (aO (l.take k++x::l.drop k)):=by
 simp only[aU,cd,aA,aG,aP];rw[if_pos ⟨by omega,by omega,by simp,by simp only[mg,room]at *;omega⟩];simp[aO]
theorem alG{s:M ah}{l:M aE}{x:aE}(m:bW ay s<=mg)(n:bW bl l<=mg)(w:x.ae.length<=mg)(C:∀y∈l,Kd (dk s) y)(B:Kd (dk s) x) :
  G 362 ([aF s,aO l]++bl x)=Z (0,[aO (ot (dk s) l x)]):=by
 have d:l.length<=mg:=by simp only[bW]at n;omega
 have hd:bW ay (dk s)<=mg:=aH nV m;have j:(dk s).length<=mg:=by simp only[bW]at hd;omega
 obtain⟨k,e,p,g,_⟩:=B.nth;obtain⟨o,c,A,b⟩:=aac hd n w C p g l.length 0 (by omega);rw[n0,br,bu]at b;have P:=J5 (λy=>!kC (dk s) x y) l;have N:=Iz (λy=>!kC (dk s) x y) l;have f:=abY (λy=>!kC (dk s) x y) l;have i:ot (dk s) l x=l.takeWhile (λy=>!kC (dk s) x y)++x::l.dropWhile (λy=>!kC (dk s) x y):=rfl;rw[<- P,<- N]at i;rw[i];generalize (l.takeWhile λy=>!kC (dk s) x y).length=q at *;have t:=q94 m;rw[iJ (by intro h;rw[h]at g;cases g)]at t;have H:=q95 (l:=dk s) j;have r:=q96 (l:=(dk s).map ah.ak) (v:=x.ak) (by rw[aA];exact j);rw[vf,p]at r;have L:aU (.app 3 56) [aO [],aO l]=Z (aO l):=B5 (a:=[]) (by simp only[mg,aP]at *;omega);have K:=adq (x:=x) f d;have F:=ac7 x;have D:=npN x.ak x.bg x.ae;refine cN aiV (by rw[aV];rfl) ?_;rcases A with rfl|rfl<;>simp only[go_sem,aiV,aV x,t,H,r,ko,qG,b,om,L,K,F,D]
end
section
noncomputable def ey:hY->z->u z:=Ag nZ Mc
theorem aht{t:hY}{s:z}(b:fm (ez t)<=mg)(a:s.size<=mg):G 237 (ez t++[.str s])=Z (0,gx (ey t s)):=ahQ (λs _=>adT s) (λp s _ a=>adX a) b a
theorem Ta{t:hY}{s:z}(b:fm (ez t)<=mg)(a:s.size<=mg):G 311 (ez t++[.str s])=Z (0,gx (ey t s)):=ah2 (λs _=>aeb s) (λp s _ a=>aed a) b a
noncomputable def va(t:hY):M cA->u (M z)
 |[]=>Z []
 |c::l=>if (Z' (c.op=4) ||decide (c.op=5))=I then O else match ey t c.bg with
  |none=>O
  |some v=>(va t l).map (v::·)
theorem X7{t:hY}:∀{l:M cA} {a:M z},va t l=Z a->a.length=l.length
 |[],a,h=>by cases h;rfl
 |c::l,a,h=>by
  simp only[va]at h
  split at h
  ·cases h
  ·split at h
   ·cases h
   ·obtain⟨d,b,rfl⟩:=aj.1 h;simp[X7 b]
def Cb(a:z)(c:cA):Bool:=Z' (c.ak=a)
theorem LO(s:M ah)(es:M cA)(a:z):Hn ey s es a=match va (oh s a) (es.filter (Cb a)) with
  |some [v]=>Z v
  |_=>O:=by
 unfold Hn;have f:es.filter (λc=>Z' (c.ak=a))=es.filter (Cb a):=rfl;rw[f];generalize es.filter (Cb a)=l
 match l with
 |[]=>rfl
 |[c]=>
  simp only[va];split
  ·rfl
  ·cases ey (oh s a) c.bg<;>rfl
 |c::d::r=>
  cases e:va (oh s a) (c::d::r) with
  |none=>rfl
  |some b=>
   have:=X7 e
   match b,this with
   |[],h=>simp at h
   |[v],h=>simp at h
   |_::_::_,_=>rfl
theorem UX{l:M cA}{y:cA}{B:Nat}(a:bW eb l<=B)(h:y∈l):y.ak.size<=B/\y.bg.size<=B/\bW eb y.ae<=B/\y.ae.length<=B:=by
 have a1:=dV eb h;rw[qw]at a1;have:y.ae.length<=bW eb y.ae:=by simp only[bW];omega
 omega
theorem B2(n:ah):fm (ez n.type)<=fm (ay n):=by rw[eR];omega
theorem mk1(v:z):aU (.wB 1 I) [.str v]=Z (bn [v]):=by simp[aU,chunk,dW,D.plain,bn,fo]
theorem ab4{a b:M z}(h:a.length+b.length<=2147483648):aU (.app 1 16) [bn a,bn b]=Z (bn (a++b)):=by
 rw[gy 1 16 I _ _ (by decide) (by simpa using h),bn,cp]
theorem Z9{n d:ah}{e:cA}{i:Nat}{q:z}(C:nth n.bk i=Z q)(W:fm (ay d)<=mg)(Q:bW eb e.ae<=mg):∀(m k:Nat) (c:Nat) (o:M z),k+m=e.ae.length->c<=k->o.length+m<=134217728->
  match va d.type ((e.ae.drop k).filter (Cb q)) with
  |none=>∃x,cl (lB G pa) (0,[E (i:Int),E (c:Int),E (k:Int)]++ay n++eb e++ay d++[bn o])=Z (0,[.bool J,bn x])
  |some g=>cl (lB G pa) (0,[E (i:Int),E (c:Int),E (k:Int)]++ay n++eb e++ay d++[bn o])=Z (1,[E (i:Int),E ((c+g.length:Nat):Int),E (e.ae.length:Int),.bool J]++ay n++eb e++ay d++[bn (o++g)]):=by
 have h:e.ae.length<=mg:=by simp only[bW]at Q;omega
 intro m
 induction m with
 |zero=>
  intro k c o R _ _;obtain rfl:k=e.ae.length:=by omega
  rw[bJ];simp only[wN,va];refine aX ?_;simp only[go_sem,bK,pa,aB,af,aK,aP,dx,aJ]
 |succ m N=>
  intro k c o R Y X;have j:k < e.ae.length:=by omega
  have a1:=dz (l:=e.ae) (i:=k) j;have hd:=eM e.ae k _ a1;generalize e.ae[k]'j=y at a1 hd;have P:=wj j h;have V:=wj (show c < e.ae.length by omega) h;have F:=Dj a1;obtain⟨y1,y2,y3,y4⟩:=UX Q (bp a1);have f:=aht (t:=d.type) (s:=y.bg) (aH (B2 d) W) y2;simp only[ez,au,av]at f;rw[hd,iq];have i0:=N (k+1) c o (by omega) (by omega) (by omega);by_cases p:y.ak=q
  ·have K:Cb q y=I:=by simp[Cb,p]
   rw[if_pos K];simp only[va];by_cases D:y.op=4
   ·rw[if_pos (by simp[D])];refine⟨o,aX ?_⟩;cases r:ey d.type y.bg<;>rw[r]at f<;>simp only[go_sem,bK,pa,af,aK,j,F,aR,C,fo,p,f,gx,D]
   ·by_cases H:y.op=5
    ·rw[if_pos (by simp[H])];refine⟨o,aX ?_⟩;cases r:ey d.type y.bg<;>rw[r]at f<;>simp only[go_sem,bK,pa,af,aK,j,F,aR,C,fo,p,f,gx,D,H]
    ·rw[if_neg (by simp[D,H])];cases r:ey d.type y.bg with
     |none=>
      rw[r]at f;refine⟨o,aX ?_⟩;simp only[go_sem,bK,pa,af,aK,j,F,aR,C,fo,p,f,gx]
     |some v=>
      rw[r]at f;have B:=N (k+1) (c+1) (o++[v]) (by omega) (by omega) (by simp;omega);have U:=mk1 v;have T:=ab4 (a:=o) (b:=[v]) (by simp;omega);have A:lB G pa (0,[E (i:Int),E (c:Int),E (k:Int)]++ay n++eb e++ay d++[bn o])=Z (.go (0,[E (i:Int),E ((c+1:Nat):Int),E ((k+1:Nat):Int)]++ay n++eb e++ay d++[bn (o++[v])])):=by
       simp only[go_sem,bK,pa,af,aK,j,F,aR,C,fo,p,f,gx,D,H,U,T,P,V]
      cases w:va d.type ((e.ae.drop (k+1)).filter (Cb q)) with
      |none=>
       rw[w]at B;obtain⟨x,L⟩:=B;exact⟨x,by rw[bU A,L]⟩
      |some g=>
       rw[w]at B;dsimp only at B;dsimp only[aQ];have S:o++[v]++g=o++v::g:=by simp
       rw[bU A,B,S,aG,show c+1+g.length=c+(g.length+1) by omega]
  ·have K:Cb q y=J:=by simp[Cb,p]
   rw[if_neg (by simp[K])];have A:lB G pa (0,[E (i:Int),E (c:Int),E (k:Int)]++ay n++eb e++ay d++[bn o])=Z (.go (0,[E (i:Int),E (c:Int),E ((k+1:Nat):Int)]++ay n++eb e++ay d++[bn o])):=by
    simp only[go_sem,bK,pa,af,aK,j,F,aR,C,fo,p,P]
   cases w:va d.type ((e.ae.drop (k+1)).filter (Cb q)) with
   |none=>
    rw[w]at i0;obtain⟨x,L⟩:=i0;exact⟨x,by rw[bU A,L]⟩
   |some g=>
    rw[w]at i0;dsimp only at i0 ⊢;rw[bU A,i0]
def Bx(n:ah):Prop:=∀k∈n.bk,∃j a,dO n.ae k=Z j/\nth n.ae j=Z a/\a.aq=3
theorem Wo{n:ah}{e:cA}(Q:fm (ay n)<=mg)(F:bW eb e.ae<=mg)(R:Bx n):∀(m i:Nat) (o:M z),i+m=n.bk.length->o.length=i->
  match mI ey n.ae e.ae (n.bk.drop i) with
  |none=>∃f,cl (lB G tw) (0,[E (i:Int)]++ay n++eb e++[bn o])=Z (0,[.bool J,bn f])
  |some s=>cl (lB G tw) (0,[E (i:Int)]++ay n++eb e++[bn o])=Z (1,[E (n.bk.length:Int),.bool J]++ay n++eb e++[bn (o++s)]):=by
 have K:=pG Q;have U:n.ae.length<=mg:=by have:=ew n;simp only[bW]at this;omega
 have W:e.ae.length<=mg:=by simp only[bW]at F;omega
 intro m
 induction m with
 |zero=>
  intro i o S _;obtain rfl:i=n.bk.length:=by omega
  rw[bJ];simp only[mI];refine aX ?_;simp only[go_sem,bK,tw,aB,af,aK,aJ]
 |succ m N=>
  intro i o S V;have d:i < n.bk.length:=by omega
  have a1:=dz (l:=n.bk) (i:=i) d;have hd:=eM n.bk i _ a1;generalize n.bk[i]'d=nm at a1 hd;have P:=wj d K;obtain⟨j,k,D,x,_⟩:=R nm (bp a1);have h:=q82 (l:=n.ae) (nm:=nm) U;rw[D]at h;have p:aU (.el 19) [aF n.ae,E (j:Int)]=Z (.list 0 J [ay k]):=by rw[rR,aR,x];rfl
  have t:fm (ay k)<=mg:=by have:=dV ay (bp x);have:=ew n;omega
  have c:=Z9 a1 t F e.ae.length 0 0 o (by omega) (by omega) (by simp only[mg]at *;omega);have L:oh n.ae nm=k.type:=by simp only[oh,D,x]
  have H:=LO n.ae e.ae nm;rw[L]at H;rw[hd];simp only[mI,H];rw[n0,br]at c;cases y:va k.type (e.ae.filter (Cb nm)) with
  |none=>
   rw[y]at c;obtain⟨f,q⟩:=c;simp only[af,aK,au,av]at q;refine⟨f,aX ?_⟩;simp only[go_sem,bK,tw,d,aR,a1,fo,h,ko,p,bO,af,aK,q]
  |some s=>
   rw[y]at c;dsimp only at c;simp only[af,aK,au,av,bu]at c
   match s,c with
   |[],c=>
    dsimp only;refine⟨o,aX ?_⟩;simp only[go_sem,bK,tw,d,aR,a1,fo,h,ko,p,bO,af,aK,c,aP,n0,aJ]
   |a::b::r,c=>
    dsimp only;have w:¬((r.length+1+1:Nat):Int)=1:=by omega
    refine⟨o++a::b::r,aX ?_⟩;simp only[go_sem,bK,tw,d,aR,a1,fo,h,ko,p,bO,af,aK,c,aG,w]
   |[v],c=>
    dsimp only;have w:((0+1:Nat):Int)=1:=rfl;have C:lB G tw (0,[E (i:Int)]++ay n++eb e++[bn o])=Z (.go (0,[E ((i+1:Nat):Int)]++ay n++eb e++[bn (o++[v])])):=by
     simp only[go_sem,bK,tw,d,aR,a1,fo,h,ko,p,bO,af,aK,c,aG,aP,w,P]
    have g:=N (i+1) (o++[v]) (by omega) (by simp;omega);cases B:mI ey n.ae e.ae (n.bk.drop (i+1)) with
    |none=>
     rw[B]at g;obtain⟨f,q⟩:=g;exact⟨f,by rw[bU C,q]⟩
    |some A=>
     rw[B]at g;dsimp only at g;dsimp only[aQ];have T:o++[v]++A=o++v::A:=by simp
     rw[bU C,g,T]
theorem alw{n:ah}{e:cA}(f:fm (ay n)<=mg)(i:bW eb e.ae<=mg)(g:Bx n) :
  G 347 (ay n++eb e)=Z (0,match mI ey n.ae e.ae n.bk with
   |some a=>[bn a,.bool I]
   |none=>[bn [],.bool J]):=by
 have h:=Wo f i g n.bk.length 0 [] (by omega) rfl;rw[n0,br]at h;have c:aU (.wB 1 I) []=Z (bn []):=rfl;cases b:mI ey n.ae e.ae n.bk with
 |none=>
  rw[b]at h;obtain⟨j,d⟩:=h;simp only[af,aK,au,av]at d;refine cN aa9 (by rw[af,aK];rfl) ?_;simp only[go_sem,aa9,af,aK,c,d];rfl
 |some a=>
  rw[b]at h;dsimp only at h;simp only[af,aK,au,av]at h;refine cN aa9 (by rw[af,aK];rfl) ?_;simp only[go_sem,aa9,af,aK,c,h]
end
section
theorem NB:∀(k a:Nat),a < 10 ^ (k+1)->(Lib.decDigits a).length<=k+1
 |k,a,h=>by
  rw[Lib.decDigits];split
  ·simp
  ·cases k with
   |zero=>simp at h;omega
   |succ k=>
    have:=NB k (a / 10) (by rw[wP]at h;omega);simp only[a_,aG,aP];omega
theorem Zj{n:Int}(h:-1000000000<=n/\n<=1000000000):(xE n).size<=20:=by
 have a:∀l,(bA l).size=l.length:=λl=>by simp[bA,nQ]
 unfold xE;rw[a];unfold Lib.itoa;split
 ·have:=NB 9 n.natAbs (by omega);simp only[aG];omega
 ·have:=NB 9 n.toNat (by omega);omega
theorem YX{t:hY}{s v:z}(h:ey t s=Z v):v.size<=s.size+20:=by
 unfold ey Ag mY at h
 split at h
 ·split at h
  ·split at h
   ·rename_i n a
    split at h
    ·cases h;have:=Zj (HQ a);omega
    ·cases h
   ·cases h
  ·split at h
   ·split at h
    ·cases h;omega
    ·cases h
   ·split at h
    ·split at h
     ·cases h;unfold ml;split
      ·exact aH (show n6.size<=20 by decide) (Nat.le_add_left _ _)
      ·split
       ·exact aH (show kY.size<=20 by decide) (Nat.le_add_left _ _)
       ·omega
     ·cases h
    ·split at h
     ·split at h
      ·cases h;omega
      ·cases h
     ·split at h
      ·split at h
       ·cases h;omega
       ·cases h
      ·split at h
       ·split at h
        ·cases h;omega
        ·cases h
       ·cases h
 ·cases h
theorem ab8{n:ah}{e:cA}{v:z}{a:M z}(h:uk ey n e=.inr (v,a)):v.size<=e.bg.size+20:=by
 unfold uk at h;simp only at h
 split at h
 ·cases h
 ·split at h
  ·cases h
  ·split at h
   ·cases h
   ·rename_i w b;have d:sJ.size=0:=rfl;have c:w.size<=e.bg.size+20:=by
     split at b
     ·exact YX b
     ·cases b;omega
    split at h
    ·split at h
     ·cases h
     ·cases h;omega
    ·cases h;exact c
theorem tS{c:Type}{f:c->M D}{a b:M c}(h:a.Sublist b):bW f a<=bW f b:=by
 induction h with
 |slnil=>exact az _
 |cons x _ d=>rw[eS];omega
 |cons_cons x _ d=>rw[eS,eS];omega
theorem J2{b:Type}{f:b->M D}{x:b}:∀{l:M b} {j:Nat} {y:b},nth l j=Z y->bW f (l.set j x)+fm (f y)=bW f l+fm (f x)
 |a::l,0,y,h=>by cases h;rw[rZ,eS,eS];omega
 |a::l,j+1,y,h=>by
  have:=J2 (f:=f) (x:=x) (l:=l) h;rw[lh,eS,eS];omega
theorem aaG(d:M ah)(l:M aE)(x:aE):bW bl (kU d l x)<=bW bl l+fm (bl x)+1:=by
 have e:l.takeWhile (kC d · x)++l.dropWhile (kC d · x)=l:=kh;have h:=zO bl (l.takeWhile (kC d · x)) (l.dropWhile (kC d · x));rw[e]at h;unfold kU;split
 ·rename_i y b hd;rw[hd,eS]at h;split
  ·rw[zO,eS,eS];omega
  ·omega
 ·rename_i hd;rw[zO,eS];have:bW bl []=0:=rfl;omega
theorem Y3{l:M aE}{k:u Nat}:bW bl (s6 l k)<=bW bl l:=by
 cases k
 ·exact az _
 ·exact tS (fG _ _)
abbrev zE(es:M cA):Nat:=21 * bW eb es
section
variable {oN:M ah->z->M z} {mk:M ah->M aE->M cA->Int ⊕ M aE} (hm:∀s l es l',mk s l es=.inr l'->bW bl l'<=bW bl l+zE es)
include hm
theorem Ug{s:M ah}{n:ah}{l l':M aE}{e:cA}{v:z}(b:n.ak=e.ak)(g:v.size<=e.bg.size+20)(h:rz oN mk kU s n l e v=.inr l'):bW bl l'<=bW bl l+21 * (fm (eb e)+1):=by
 have f:bW bl (Aa (oN s n.ak) l)<=bW bl l:=tS qH;have i:bW bl ([]:M aE)=0:=rfl;have a:=aaG (dk s) (Aa (oN s n.ak) l);have j:n.ak.size=e.ak.size:=by rw[b]
 rw[qw];unfold rz at h
 split at h
 ·split at h
  ·cases h
  ·rename_i d c;have:=hm _ _ _ _ c
   split at h
   ·cases h;omega
   ·cases h;refine aH (a _) ?_;rw[ij];simp only[zE]at this ⊢;omega
 ·cases h;refine aH (a _) ?_;rw[ij];simp only
  omega
theorem ac_{s:M ah}{n:ah}{l l':M aE}{e:cA}{v:z}{j:Nat}{y:aE}(c:nth l j=Z y)(d:n.ak=e.ak)(i:v.size<=e.bg.size+20)(h:A5 mk n l e v j y ⟨n.ak,v,y.ae⟩=.inr l'):bW bl l'<=bW bl l+21 * (fm (eb e)+1):=by
 have k:n.ak.size=e.ak.size:=by rw[d]
 rw[qw];unfold A5 at h
 split at h
 ·split at h
  ·cases h
  ·rename_i b g;have:=hm _ _ _ _ g
   split at h
   ·cases h;have:=tS (f:=bl) (fG l j);omega
   ·cases h;have a:=J2 (f:=bl) (x:=(⟨n.ak,v,b⟩:aE)) c;rw[ij,ij]at a;simp only[zE]at this a;show bW bl (l.set j ⟨n.ak,v,b⟩)<=_;omega
 ·cases h;have a:=J2 (f:=bl) (x:=(⟨n.ak,v,y.ae⟩:aE)) c;rw[ij,ij]at a;simp only at a
  omega
theorem Ox{s:M ah}{l l':M aE}{e:cA}(h:ur ey oN mk kU zd (λn y v=>(⟨n.ak,v,y.ae⟩:aE)) s l e=.inr l'):bW bl l'<=bW bl l+21 * (fm (eb e)+1):=by
 unfold ur at h
 split at h
 ·cases h
 ·rename_i n d;obtain⟨_,_,_,c,_⟩:=fe d
  split at h
  ·cases h
  ·rename_i v a g;have b:=ab8 g;simp only at h
   have i:=Y3 (l:=l) (k:=zd n l v a)
   split at h
   ·cases h
   ·split at h
    ·cases h
    ·split at h
     ·cases h;omega
     ·split at h
      ·have:=Ug hm c b h;omega
      ·split at h
       ·exact Ug hm c b h
       ·split at h
        ·cases h;omega
        ·rename_i y f;exact ac_ (s:=s) hm f c b h
end
theorem qn{a:M ah->z->M z}:∀(m:Nat) {s:M ah} {l:M aE} {es:M cA} {l':M aE},km ey a m s l es=.inr l'->bW bl l'<=bW bl l+zE es
 |0,_,_,_,_,h=>by cases h
 |m+1,s,l,es,l',h=>by
  unfold km at h
  induction es generalizing l with
  |nil=>cases h;omega
  |cons e es b=>
   rw[wQ]at h
   split at h
   ·cases h
   ·rename_i d c;have a1:=Ox (λs l es l' h=>qn m h) c;have a2:=b _ h;simp only[zE,eS]at *;omega
end
section
theorem Mv(k:Nat):∀(a b:M ah) (i:Nat),rest k i (a++b)=rest k i a++rest k (i+a.length) b
 |[],b,i=>by simp[rest]
 |e::a,b,i=>by
  rw[au,rest,rest,Mv k a b (i+1),bB,aG,show i+1+a.length=i+(a.length+1) by omega]
theorem HT{k:Nat}{a:M ah}{j:Nat}{c:ah}(h:nth a j=Z c):rest k 0 (a.take (j+1))=rest k 0 (a.take j)++(if j=k then [] else (dk c.ae).map ah.ak):=by
 have b:(a.take j).length=j:=by rw[bj];have:=bw h;omega
 rw[cB a j c h,Mv,b,bu];simp[rest]
theorem Y7(c:ah):(dk c.ae).length<=fm (ay c):=by
 have b:=nV (es:=c.ae);have a:=ew c;simp only[bW]at b a;omega
theorem zG(k:Nat):∀(a:M ah) (j:Nat),(rest k j a).length<=bW ay a/\∀c,j<=k->nth a (k - j)=Z c->(rest k j a).length+fm (ay c)<=bW ay a
 |[],j=>⟨by simp[rest],λc _ h=>by cases h⟩
 |e::a,j=>by
  obtain⟨l,f⟩:=zG k a (j+1);have i:=Y7 e;rw[rest,eS];by_cases d:j=k
  ·subst d;simp only[if_pos,av];refine⟨by omega,λc _ b=>?_⟩;rw[oF]at b;cases b;omega
  ·simp only[if_neg d,a_,aA];refine⟨by omega,λc g b=>?_⟩;rw[show k - j=(k - (j+1))+1 by omega]at b;have:=f c (by omega) b;omega
theorem Mr{b:z}:∀{a:M ah} {i k:Nat} {out:M z},wZ a b i=Z (k,out)->∃c,i<=k/\nth a (k - i)=Z c/\wG c.ae b=Z out
 |[],i,k,out,h=>by rw[wZ]at h;cases h
 |c::a,i,k,out,h=>by
  rw[wZ]at h
  split at h
  ·rename_i o e;cases h;exact⟨c,az _,by rw[oF];rfl,e⟩
  ·obtain⟨d,j,g,f⟩:=Mr h;exact⟨d,by omega,by rw[show k - i=(k - (i+1))+1 by omega];exact g,f⟩
theorem aat(m:Nat):∀(es:M ah),aw es < m->∀{d:z} {out:M z},wG es d=Z out->out.length<=bW ay es:=by
 induction m with
 |zero=>intro es h;omega
 |succ m b=>
  intro es f d out h;cases es with
  |nil=>rw[wG]at h;cases h
  |cons e es=>
   have a:aw es < m:=by simp only[bG]at f;omega
   rw[eS];rw[wG]at h
   split at h
   ·cases h;simp
   ·split at h
    ·split at h
     ·rename_i k o i;cases h;obtain⟨c,_,g,l⟩:=Mr i;have j:aw c.ae < m:=by
       have a1:=ah.er c;have a2:=ba (bp g);have a3:=ah.iz e es;simp only[bG]at f a3;omega
      have r:=b c.ae j l;have q:=(zG k e.ae 0).2 c (nU _) g;have p:=ew c;have n:=ew e;rw[a_];omega
     ·have:=b es a h;omega
    ·have:=b es a h;omega
theorem Oz{es:M ah}{a:z}{out:M z}(h:wG es a=Z out):out.length<=bW ay es:=aat _ es (aS _) h
theorem QW(es:M ah)(a:z):(fO es a).length<=bW ay es:=by
 unfold fO;cases h:wG es a with
 |none=>simp
 |some out=>exact Oz h
def vF:u (M z)->M D
 |some out=>[bn out,.bool I]
 |none=>[bn [],.bool J]
theorem qS{d:M ah}{x:Nat}{c:ah}(h:nth d x=Z c):aU (.el 19) [aF d,E (x:Int)]=Z (.list 0 J [ay c]):=by rw[rR,aR,h];rfl
theorem Wu{s d:M ah}{i k j:Nat}{o:M z}(hd:d.length<=mg)(y:o.length<=134217728)(A:k<=mg)(B:j<=mg) :
  ∃x:Nat,cl (lB G xl) (0,[aF s,E (i:Int),E (k:Int),E (j:Int),E 0,bn o,aF d]) =
   Z (0,[aF s,E (i:Int),E (k:Int),E (j:Int),E (x:Int),.bool J,bn (o++if j=k then [] else d.map ah.ak),aF d]):=by
 by_cases e:j=k
 ·subst e;refine⟨0,aX ?_⟩;cases d with
  |nil=>simp only[go_sem,bK,xl,aJ,aP,dz0,n0]
  |cons a d=>
   have p:Z' ((0:Int) < ((d.length+1:Nat):Int))=I:=dzs d.length;simp only[go_sem,bK,xl,aJ,p,n0]
 ·refine⟨d.length,?_⟩;have m:Z' ((j:Int)=(k:Int))=J:=by simp only[decide_eq_false_iff_not];omega
  have h:=ei (b:=lB G xl) d (λx t=>(0,[aF s,E (i:Int),E (k:Int),E (j:Int),E (x:Int),bn t,aF d])) (λx=>o++(d.take x).map ah.ak)
   (0,[aF s,E (i:Int),E (k:Int),E (j:Int),E d.length,.bool J,bn (o++d.map ah.ak),aF d]) (by
   intro x c f;have g:=bw f;have n:=wj g hd;have w:=afC f;have v:=lZ 19 J (d.map ay) x (by rw[aA];exact g);have r:=mk1 c.ak;have q:=ab4 (a:=o++(d.take x).map ah.ak) (b:=[c.ak]) (by simp only[mg,a_,aA,bj,aG,aP]at *;omega);have l:o++(d.take (x+1)).map ah.ak=o++(d.take x).map ah.ak++[c.ak]:=by rw[cB d x c f,cp,aZ,cj,bB]
   rw[l];generalize o++(d.take x).map ah.ak=t at *;simp only[go_sem,bK,xl,g,n,m,w,v,af c,r,q]) (by simp only[go_sem,bK,xl,aB,bo]) d.length 0 (by omega)
  rw[n0,bE,cj,aJ]at h;rw[if_neg e,h]
theorem Wv{s:M ah}{i k:Nat}{e:ah}{o:M z}(C:nth s i=Z e)(y:bW ay e.ae<=mg)(K:o.length<=mg)(B:k<=mg) :
  cl (lB G Et) (0,[aF s,E (i:Int),E (k:Int),E 0,bn o])=Z (0,[aF s,E (i:Int),E (k:Int),E e.ae.length,.bool J,bn (o++rest k 0 e.ae)]):=by
 have a:e.ae.length<=mg:=by simp only[bW]at y;omega
 have l:=qS C;have h:=ei (b:=lB G Et) e.ae (λj t=>(0,[aF s,E (i:Int),E (k:Int),E (j:Int),bn t])) (λj=>o++rest k 0 (e.ae.take j))
  (0,[aF s,E (i:Int),E (k:Int),E e.ae.length,.bool J,bn (o++rest k 0 e.ae)]) (by
  intro j c f;have n:=bw f;have v:=wj n a;have H:=qS f;have m:bW ay c.ae<=mg:=by have:=dV ay (bp f);have:=ew c;omega
  have F:=q81 m;have p:(dk c.ae).length<=mg:=by have:=nV (es:=c.ae);simp only[bW]at this m;omega
  have A:=(zG k (e.ae.take j) 0).1;have w:=FB ay e.ae j;rw[HT f,<- bB];generalize D:o++rest k 0 (e.ae.take j)=t at *;have g:t.length<=134217728:=by rw[<- D,a_];simp only[mg]at *;omega
  obtain⟨x,r⟩:=Wu (s:=s) (d:=dk c.ae) (i:=i) (k:=k) (j:=j) (o:=t) p g B (by omega);simp only[go_sem,bK,Et,l,af e,n,H,af c,F,r,v]) (by simp only[go_sem,bK,Et,l,af e,aB,bo]) e.ae.length 0 (by omega)
 rw[n0,bE]at h;have q:rest k 0 []=[]:=rfl;rw[q,aJ]at h;exact h
theorem Ww{s:M ah}{nm:z}{i:Nat}{e:ah}(j:nth s i=Z e)(h:bW ay e.ae<=mg)(x:∀c∈e.ae,G 89 [aF c.ae,.str nm]=Z (0,vF (wG c.ae nm))):∀m k,k+m=e.ae.length->
  cl (lB G Eu) (0,[aF s,.str nm,E (i:Int),.int .i64 (k:Int)])=Z (match wZ (e.ae.drop k) nm k with
   |some (q,out)=>(0,[.bool I,bn (out++rest q 0 e.ae)])
   |none=>(1,[aF s,.str nm,E (i:Int),E e.ae.length,.bool J])):=by
 have b:e.ae.length<=mg:=by simp only[bW]at h;omega
 have f:=qS j;intro m
 induction m with
 |zero=>
  intro k w;obtain rfl:k=e.ae.length:=by omega
  rw[bJ,wZ];refine aX ?_;simp only[go_sem,bK,Eu,f,af e,aB]
 |succ m r=>
  intro k w;have d:k < e.ae.length:=by omega
  have a1:=dz (l:=e.ae) (i:=k) d;have hd:=eM e.ae k _ a1;generalize e.ae[k]'d=c at a1 hd;have t:=wj d b;have n:=qS a1;have a:=x c (bp a1);rw[hd,wZ];cases g:wG c.ae nm with
  |none=>
   rw[g]at a;simp only[vF]at a;have p:lB G Eu (0,[aF s,.str nm,E (i:Int),.int .i64 (k:Int)])=Z (.go (0,[aF s,.str nm,E (i:Int),E ((k+1:Nat):Int)])):=by
    simp only[go_sem,bK,Eu,f,af e,d,n,af c,a,t]
   rw[bU p,r (k+1) (by omega)]
  |some out=>
   rw[g]at a;simp only[vF]at a;have v:=Oz g;have A:bW ay c.ae<=mg:=by have:=dV ay (bp a1);have:=ew c;omega
   have y:=Wv (k:=k) (o:=out) j h (by omega) (by omega);refine aX ?_;simp only[go_sem,bK,Eu,f,af e,d,n,af c,a,y]
theorem aib(a:Nat):∀(s:M ah),aw s < a->bW ay s<=mg->∀nm:z,G 89 [aF s,.str nm]=Z (0,vF (wG s nm)):=by
 induction a with
 |zero=>intro s h;omega
 |succ a K=>
  intro s L N nm;have o:s.length<=mg:=by simp only[bW]at N;omega
  have P:∀m i,i+m=s.length->∃r,cl (lB G BL) (0,[aF s,.str nm,.int .i64 (i:Int)])=Z r/\match wG (s.drop i) nm with
    |some out=>r=(1,[.bool I,bn out])\/(out=[]/\r=(0,[.bool I]))
    |none=>r=(2,[aF s,.str nm,E s.length,.bool J]):=by
   intro m
   induction m with
   |zero=>
    intro i Q;obtain rfl:i=s.length:=by omega
    rw[bJ,wG];refine⟨_,aX ?_,rfl⟩;simp only[go_sem,bK,BL,aB]
   |succ m R=>
    intro i Q;have f:i < s.length:=by omega
    have a1:=dz (l:=s) (i:=i) f;have hd:=eM s i _ a1;generalize s[i]'f=e at a1 hd;have x:=wj f o;have v:=qS a1;have d:=q75 e.aq;have D:bW ay e.ae<=mg:=by have:=dV ay (bp a1);have:=ew e;omega
    have S:∀c∈e.ae,aw c.ae < a:=λc n=>by
     have W:=ba (bp a1);have V:=ah.er e;have U:=ba n;have T:=ah.er c;omega
    have F:∀c∈e.ae,bW ay c.ae<=mg:=λc n=>by have:=dV ay n;have:=ew c;omega
    have t:=Ww (nm:=nm) a1 D (λc n=>K c.ae (S c n) (F c n) nm) e.ae.length 0 (by omega);rw[n0,br]at t;obtain⟨r,g,b⟩:=R (i+1) (by omega);rw[hd,wG];by_cases w:kM e.aq=I/\e.ak=nm
    ·rw[if_pos w];refine⟨_,aX ?_,.inr ⟨rfl,rfl⟩⟩;simp only[go_sem,bK,BL,f,v,af e,d,w.1,w.2]
    ·rw[if_neg w];have C:(kM e.aq && Z' (e.ak=nm))=J:=by simpa [oV] using w
     by_cases j:e.aq=5
     ·have q:kM 5=J:=rfl;rw[j]at d;rw[if_pos j];cases B:wZ e.ae nm 0 with
      |some p=>
       obtain⟨k,out⟩:=p;rw[B]at t;refine⟨_,aX ?_,.inl rfl⟩;simp only[go_sem,bK,BL,f,v,af e,j,d,q,t]
      |none=>
       rw[B]at t;refine⟨r,(bU ?_).trans g,b⟩;simp only[go_sem,bK,BL,f,v,af e,j,d,q,t,x]
     ·rw[if_neg j];refine⟨r,(bU ?_).trans g,b⟩;cases y:kM e.aq
      ·rw[y]at d;simp only[go_sem,bK,BL,f,v,af e,j,d,x]
      ·rw[y]at d C;have H:Z' (e.ak=nm)=J:=by simpa using C
       simp only[go_sem,bK,BL,f,v,af e,j,d,H,x]
  obtain⟨r,g,b⟩:=P s.length 0 (by omega);rw[n0]at g;rw[br]at b;have L:aU (.wB 1 I) []=Z (bn []):=rfl;refine cN t89 rfl ?_;cases A:wG s nm with
  |none=>
   rw[A]at b;dsimp only at b;subst b;simp only[go_sem,t89,g,vF];rfl
  |some out=>
   rw[A]at b;rcases b with rfl|⟨rfl,rfl⟩
   ·simp only[go_sem,t89,g,vF]
   ·simp only[go_sem,t89,g,vF];rfl
theorem q89{s:M ah}{nm:z}(a:bW ay s<=mg):G 89 [aF s,.str nm]=Z (0,vF (wG s nm)):=aib _ s (aS _) a nm
end
section
theorem acT{a:Type}(l:M a):kE l=0\/kE l=1:=by cases l<;>simp[kE]
theorem Sj{d:M ah}{k:Nat}{o:M z}(y:bW ay d<=mg)(F:o.length<=mg)(H:k<=mg) :
  cl (lB G AH) (0,[E (k:Int),aF d,E d.length,E 0,bn o])=Z (0,[E (k:Int),aF d,E d.length,E d.length,.bool J,bn (o++rest k 0 d)]):=by
 have e:d.length<=mg:=by simp only[bW]at y;omega
 have h:=ei (b:=lB G AH) d (λj t=>(0,[E (k:Int),aF d,E d.length,E (j:Int),bn t])) (λj=>o++rest k 0 (d.take j))
  (0,[E (k:Int),aF d,E d.length,E d.length,.bool J,bn (o++rest k 0 d)]) (by
  intro j c g;have i:=bw g;have m:=wj i e;have q:=qS g;have l:bW ay c.ae<=mg:=by have:=dV ay (bp g);have:=ew c;omega
  have p:=q94 l;have r:(dk c.ae).length<=mg:=by have:=nV (es:=c.ae);simp only[bW]at this l;omega
  have D:=q95 r;have A:=(zG k (d.take j) 0).1;have x:=FB ay d j;rw[HT g,<- bB];generalize B:o++rest k 0 (d.take j)=t at *;have w:t.length<=134217728:=by rw[<- B,a_];simp only[mg]at *;omega
  have C:=ab4 (a:=t) (b:=(dk c.ae).map ah.ak) (by simp only[mg,aA]at *;omega);by_cases f:j=k
  ·subst f;rw[if_pos rfl,aJ];simp only[go_sem,bK,AH,i,q,bO,af c,m]
  ·have s:Z' ((j:Int)=(k:Int))=J:=by simp only[decide_eq_false_iff_not];omega
   rw[if_neg f];rcases acT (dk c.ae) with n|n<;>rw[n]at p<;>simp only[go_sem,bK,AH,i,q,bO,af c,s,p,D,C,m]) (by simp only[go_sem,bK,AH,aB,bo]) d.length 0 (by omega)
 rw[n0,bE]at h;have v:rest k 0 []=[]:=rfl;rw[v,aJ]at h;exact h
theorem Sk{s:M ah}{nm:z}{i:Nat}{e:ah}(g:bW ay e.ae<=mg)(v:∀c∈e.ae,G 105 [aF c.ae,.str nm]=Z (0,vF (wG c.ae nm))):∀m k,k+m=e.ae.length->
  cl (lB G AI) (0,[.str nm,aF s,E s.length,E (i:Int),aF e.ae,E e.ae.length,.int .i64 (k:Int)]++ay e)=Z (match wZ (e.ae.drop k) nm k with
   |some (n,out)=>(0,[.bool I,bn (out++rest n 0 e.ae)])
   |none=>(1,[.str nm,aF s,E s.length,E (i:Int),aF e.ae,E e.ae.length,E e.ae.length,.bool J]++ay e)):=by
 have b:e.ae.length<=mg:=by simp only[bW]at g;omega
 intro m
 induction m with
 |zero=>
  intro k t;obtain rfl:k=e.ae.length:=by omega
  rw[bJ,wZ];refine aX ?_;simp only[go_sem,bK,AI,af e,aB]
 |succ m p=>
  intro k t;have d:k < e.ae.length:=by omega
  have a1:=dz (l:=e.ae) (i:=k) d;have hd:=eM e.ae k _ a1;generalize e.ae[k]'d=c at a1 hd;have q:=wj d b;have h:=qS a1;have a:=v c (bp a1);rw[hd,wZ];cases f:wG c.ae nm with
  |none=>
   rw[f]at a;simp only[vF]at a;have j:lB G AI (0,[.str nm,aF s,E s.length,E (i:Int),aF e.ae,E e.ae.length,.int .i64 (k:Int)]++ay e)=Z (.go (0,[.str nm,aF s,E s.length,E (i:Int),aF e.ae,E e.ae.length,E ((k+1:Nat):Int)]++ay e)):=by
    simp only[go_sem,bK,AI,af e,d,h,bO,af c,a,q]
   rw[bU j,p (k+1) (by omega)]
  |some out=>
   rw[f]at a;simp only[vF]at a;have r:=Oz f;have x:bW ay c.ae<=mg:=by have:=dV ay (bp a1);have:=ew c;omega
   have w:=Sj (k:=k) (o:=out) g (by omega) (by omega);refine aX ?_;simp only[go_sem,bK,AI,af e,d,h,bO,af c,a,w]
theorem adL(a:Nat):∀(s:M ah),aw s < a->bW ay s<=mg->∀nm:z,G 105 [aF s,.str nm]=Z (0,vF (wG s nm)):=by
 induction a with
 |zero=>intro s h;omega
 |succ a K=>
  intro s S L nm;have q:s.length<=mg:=by simp only[bW]at L;omega
  have N:∀m i,i+m=s.length->∃r,cl (lB G vk) (0,[.str nm,aF s,E s.length,.int .i64 (i:Int)])=Z r/\match wG (s.drop i) nm with
    |some out=>r=(1,[.bool I,bn out])\/(out=[]/\r=(0,[.bool I]))
    |none=>r=(2,[.str nm,aF s,E s.length,E s.length,.bool J]):=by
   intro m
   induction m with
   |zero=>
    intro i P;obtain rfl:i=s.length:=by omega
    rw[bJ,wG];refine⟨_,aX ?_,rfl⟩;simp only[go_sem,bK,vk,aB]
   |succ m Q=>
    intro i P;have f:i < s.length:=by omega
    have a1:=dz (l:=s) (i:=i) f;have hd:=eM s i _ a1;generalize s[i]'f=e at a1 hd;have x:=wj f q;have v:=qS a1;have d:=zC e.aq;have D:bW ay e.ae<=mg:=by have:=dV ay (bp a1);have:=ew e;omega
    have R:∀c∈e.ae,aw c.ae < a:=λc o=>by
     have W:=ba (bp a1);have V:=ah.er e;have U:=ba o;have T:=ah.er c;omega
    have F:∀c∈e.ae,bW ay c.ae<=mg:=λc o=>by have:=dV ay o;have:=ew c;omega
    have n:=Sk (s:=s) (i:=i) (nm:=nm) D (λc o=>K c.ae (R c o) (F c o) nm) e.ae.length 0 (by omega);rw[n0,br]at n;simp only[af e,au,av]at n;obtain⟨r,g,b⟩:=Q (i+1) (by omega);rw[hd,wG];by_cases w:kM e.aq=I/\e.ak=nm
    ·rw[if_pos w];refine⟨_,aX ?_,.inr ⟨rfl,rfl⟩⟩;simp only[go_sem,bK,vk,f,v,bO,af e,d,w.1,w.2]
    ·rw[if_neg w];have C:(kM e.aq && Z' (e.ak=nm))=J:=by simpa [oV] using w
     by_cases j:e.aq=5
     ·have t:kM 5=J:=rfl;rw[j]at d n;rw[if_pos j];cases B:wZ e.ae nm 0 with
      |some p=>
       obtain⟨k,out⟩:=p;rw[B]at n;refine⟨_,aX ?_,.inl rfl⟩;simp only[go_sem,bK,vk,f,v,bO,af e,j,d,t,n]
      |none=>
       rw[B]at n;refine⟨r,(bU ?_).trans g,b⟩;simp only[go_sem,bK,vk,f,v,bO,af e,j,d,t,n,x]
     ·rw[if_neg j];refine⟨r,(bU ?_).trans g,b⟩;cases y:kM e.aq
      ·rw[y]at d;simp only[go_sem,bK,vk,f,v,bO,af e,j,d,x]
      ·rw[y]at d C;have H:Z' (e.ak=nm)=J:=by simpa using C
       simp only[go_sem,bK,vk,f,v,bO,af e,j,d,H,x]
  obtain⟨r,g,b⟩:=N s.length 0 (by omega);rw[n0]at g;rw[br]at b;refine cN t105 rfl ?_;cases A:wG s nm with
  |none=>
   rw[A]at b;dsimp only at b;subst b;simp only[go_sem,t105,g,vF];rfl
  |some out=>
   rw[A]at b;rcases b with rfl|⟨rfl,rfl⟩
   ·simp only[go_sem,t105,g,vF]
   ·simp only[go_sem,t105,g,vF];rfl
theorem akC{s:M ah}{nm:z}(a:bW ay s<=mg):G 105 [aF s,.str nm]=Z (0,vF (wG s nm)):=adL _ s (aS _) a nm
end
section
theorem dZ:(⟨([]:M UInt8).toArray⟩:z)=sJ:=(rfl)
theorem Qj(l:M cA):Z' ((0:Int) < (l.length:Int))=!l.isEmpty:=by cases l<;>simp<;>omega
theorem MR{t:hY}{l:M D}:ez t++l=E t.aq::gg t.ranges::bn t.names::.str t.pattern::.str t.path::l:=by simp only[ez,au,av]
theorem alx{n:ah}{e:cA}(r:fm (ay n)<=mg)(w:e.bg.size<=mg)(A:bW eb e.ae<=mg)(x:n.aq=2->Bx n) :
  G 348 (ay n++eb e)=Z (0,match uk ey n e with
   | .inl c=>[.str sJ,bn [],E c]
   | .inr (v,key)=>[.str v,bn key,E 0]):=by
 have i:=mj e.op 1 5;have l:=aht (t:=n.type) (s:=e.bg) (aH (B2 n) r) w;have k:n.aq=2->_:=λh=>alw (n:=n) (e:=e) r A (x h);rw[MR]at l;have a:=Qj e.ae;refine cN Cj (by rw[af,aK];rfl) ?_;unfold uk;simp only[af,aK,au,av]at k;generalize y:e.ae.isEmpty=em at *;generalize B:fS 1 5 e.op=b at *;by_cases g:n.aq=3
 ·have d:¬(3:Int)=4:=by decide
  have f:¬(3:Int)=2:=by decide
  cases em
  ·simp only[go_sem,Cj,af,aK,g,a,dZ,iZ]
  ·cases b
   ·simp only[go_sem,Cj,af,aK,g,a,i,dZ,iZ]
   ·by_cases p:e.op < 4
    ·cases o:ey n.type e.bg<;>rw[o]at l<;>simp only[gx]at l<;>simp only[go_sem,Cj,af,aK,g,d,f,a,i,l,p,dZ,iZ]<;>simp[g,p,o,sJ]
    ·simp only[go_sem,Cj,af,aK,g,d,f,a,i,p,dZ,iZ]
 ·by_cases d:n.aq=4
  ·have j:¬(4:Int)=3:=by decide
   have f:¬(4:Int)=2:=by decide
   cases em
   ·simp only[go_sem,Cj,af,aK,d,j,a,dZ,iZ]
   ·cases b
    ·simp only[go_sem,Cj,af,aK,d,j,a,i,dZ,iZ]
    ·cases o:ey n.type e.bg<;>rw[o]at l<;>simp only[gx]at l<;>simp only[go_sem,Cj,af,aK,d,j,f,a,i,l,dZ,iZ]<;>simp[d,o,sJ]
  ·by_cases m:e.bg=sJ
   ·cases b
    ·simp only[go_sem,Cj,af,aK,g,d,m,a,i,dZ,iZ]
    ·by_cases f:n.aq=2
     ·have k:=k f;cases q:mI ey n.ae e.ae n.bk<;>rw[q,f]at k<;>rw[m]at k<;>dsimp only at k<;>simp only[go_sem,Cj,af,aK,f,m,a,i,k,dZ,iZ]<;>simp[f,m,q,sJ]
     ·simp only[go_sem,Cj,af,aK,g,d,f,m,a,i,dZ,iZ]
   ·simp only[go_sem,Cj,af,aK,g,d,m,dZ,iZ]
end
section
def lW:Int ⊕ M aE->M D
 | .inl c=>[.list 3 J [],.int .i64 c]
 | .inr l=>[aO l,.int .i64 0]
theorem zq(r:Int ⊕ M aE):∃a b,lW r=[a,b]:=by cases r<;>exact⟨_,_,rfl⟩
def Orc(f:Nat)(mk:M ah->M aE->M cA->Int ⊕ M aE)(n:ah)(a:M aE)(es:M cA):Prop:=
 G f [aF n.ae,aO a,gQ es]=Z (0,lW (mk n.ae a es))/\(∀c,mk n.ae a es=.inl c->c≠0)/\∀b,mk n.ae a es=.inr b->b.length<=mg
theorem QX(s:M ah)(a:z):∃b,vF (wG s a)=[bn (fO s a),.bool b]:=by
 unfold fO;cases wG s a with
 |none=>exact⟨J,rfl⟩
 |some out=>exact⟨I,rfl⟩
theorem Kd.ak{d:M ah}{x y:aE}(h:Kd d x)(e:y.ak=x.ak):Kd d y:=by unfold Kd at *;rw[e];exact h
theorem dN0:aO []=.list 3 J []:=(rfl)
theorem ah5{s:M ah}{n:ah}{l:M aE}{e:cA}{v:z}{mk:M ah->M aE->M cA->Int ⊕ M aE}
  (m:bW ay s<=mg) (D:bW bl l<=mg) (U:∀y∈l,Kd (dk s) y) (N:∀a,Kd (dk s) ⟨n.ak,v,a⟩) (P:(n.aq=1\/n.aq=2)->Orc 353 mk n [] e.ae) :
  G 352 ([aF s]++ay n++[aO l]++eb e++[.str v])=Z (0,lW (rz fO mk kU s n l e v)):=by
 have H:l.length<=mg:=by simp only[bW]at D;omega
 obtain⟨b,R⟩:=QX s n.ak;have j:=q89 (nm:=n.ak) m;rw[R]at j;have r:=q81 m;have q:=aly (l:=l) (ns:=fO s n.ak) H (aH (QW s n.ak) m);have L:bW bl (Aa (fO s n.ak) l)<=mg:=aH (tS qH) D;have t:∀y∈Aa (fO s n.ak) l,Kd (dk s) y:=λy K=>U y (nn.1 K).1;have F:=λ(a:M aE) (h:a.length<=mg)=>alz (x:=⟨n.ak,v,a⟩) (aH nV m) L h t (N a);refine cN O4 (by rw[af,aK];rfl) ?_;unfold rz;generalize Aa (fO s n.ak) l=w at *;have W:=npN;by_cases i:n.aq=1\/n.aq=2
 ·rw[if_pos i];obtain⟨f,T,S⟩:=P i;rw[dN0]at f;cases o:mk n.ae [] e.ae with
  |inl c=>
   rw[o]at f;have Q:Z' (c=0)=J:=by simpa using T c o
   rcases i with d|d<;>simp only[go_sem,O4,af,aK,j,d,f,lW,Q]
  |inr a=>
   rw[o]at f;obtain⟨C,g⟩:=F a (S a o);simp only[aV,au,av]at g;have V:=npN n.ak v a;have k:∀l,aU .TU [aO l,.bool C]=Z (.bool J):=λl=>rfl;dsimp only;by_cases p:n.aq=1/\n.cZ=J/\a=[]
   ·rw[if_pos p];obtain⟨d,B,rfl⟩:=p;simp only[go_sem,O4,af,aK,j,d,B,f,lW,aP,de0]
   ·rw[if_neg p];rcases i with d|d
    ·cases A:n.cZ
     ·cases a with
      |nil=>exact absurd ⟨d,A,rfl⟩ p
      |cons y a=>simp only[go_sem,O4,af,aK,j,d,A,f,lW,aG,M6,r,q,g,k]
     ·simp only[go_sem,O4,af,aK,j,d,A,f,lW,r,q,g,k]
    ·simp only[go_sem,O4,af,aK,j,d,f,lW,r,q,g,k]
 ·rw[if_neg i];simp only[not_or]at i;obtain⟨d,B⟩:=i;obtain⟨C,g⟩:=F [] (by simp[mg]);simp only[aV,au,av]at g;rw[dN0]at g;have k:∀l,aU .TU [aO l,.bool C]=Z (.bool J):=λl=>rfl;simp only[go_sem,O4,af,aK,j,d,B,lW,r,q,g,k]
theorem Ny{n:ah}{e:cA}{c:Int}(h:uk ey n e=.inl c):c≠0:=by
 unfold uk at h;simp only at h
 split at h
 ·cases h;decide
 ·split at h
  ·cases h;decide
  ·split at h
   ·cases h;decide
   ·split at h
    ·split at h
     ·cases h;decide
     ·cases h
    ·cases h
theorem YZ{n:ah}{e:cA}{v:z}{a:M z}(h:uk ey n e=.inr (v,a)):a.length<=n.bk.length:=by
 unfold uk at h;simp only at h
 split at h
 ·cases h
 ·split at h
  ·cases h
  ·split at h
   ·cases h
   ·split at h
    ·split at h
     ·cases h
     ·rename_i b;cases h;rw[(vh b).1];exact az _
    ·cases h;simp
theorem ail{l:M aE}{j:Nat}(h:j < l.length)(a b:z)(c:M aE):aU (.set 0) [aO l,E (j:Int),.str a,.str b,aO c]=Z (aO (l.set j ⟨a,b,c⟩)):=by
 simp only[aU,cd,aR,dz h,aQ,gU,aG,aP];rw[if_pos ⟨by omega,by simp⟩];show _=Z (D.list 3 J ((l.set j ⟨a,b,c⟩).map bl));rw[vV,aV ⟨a,b,c⟩,aV];rfl
theorem LK{n:ah}{l:M aE}{v:z}{a:M z}{j:Nat}(h:zd n l v a=Z j):∃y,nth l j=Z y/\y.ak=n.ak:=by
 obtain⟨y,c,b⟩:=dU h;simp only[ai,decide_eq_true_eq]at b;exact⟨y,c,b.1⟩
theorem WV{oN:M ah->z->M z}{s:M ah}{l:M aE}{e:cA}{mk:M ah->M aE->M cA->Int ⊕ M aE}
  (k:∀n,fJ s e.ak=Z n->(n.aq=1\/n.aq=2)->∀d,(d=[]\/∃y∈l,y.ak=n.ak/\d=y.ae)->∀c,mk n.ae d e.ae=.inl c->c≠0) {c:Int}
  (h:ur ey oN mk kU zd (λn y v=>(⟨n.ak,v,y.ae⟩:aE)) s l e=.inl c):c≠0:=by
 have o:∀{n g v},fJ s e.ak=Z n->rz oN mk kU s n g e v=.inl c->c≠0:=by
  intro n g v b h;unfold rz at h
  split at h
  ·rename_i f
   split at h
   ·rename_i m a;cases h;exact k n b f [] (.inl rfl) _ a
   ·split at h<;>cases h
  ·cases h
 unfold ur at h
 split at h
 ·cases h;decide
 ·rename_i n b
  split at h
  ·rename_i m a;cases h;exact Ny a
  ·rename_i v p a;simp only at h
   split at h
   ·cases h;decide
   ·split at h
    ·cases h;decide
    ·split at h
     ·cases h
     ·split at h
      ·exact o b h
      ·split at h
       ·exact o b h
       ·rename_i j q;obtain⟨y,i,r⟩:=LK q;rw[i]at h;simp only at h
        unfold A5 at h
        split at h
        ·rename_i f
         split at h
         ·rename_i m a;cases h;exact k n b f y.ae (.inr ⟨y,bp i,r,rfl⟩) _ a
         ·split at h<;>cases h
        ·cases h
theorem ge0(j:Nat):Z' ((0:Int)<=(j:Int))=I:=by simp
end
section
theorem alA{s:M ah}{l:M aE}{e:cA}{mk:M ah->M aE->M cA->Int ⊕ M aE}
  (U:bW ay s<=mg) (W:bW bl l<=mg) (he:fm (eb e)<=mg) (DK:∀y∈l,Kd (dk s) y) (hki:∀n,fJ s e.ak=Z n->n.aq=2->Bx n)
  (hg:∀n,fJ s e.ak=Z n->(n.aq=1\/n.aq=2)->∀l0,(l0=[]\/∃y∈l,y.ak=n.ak/\l0=y.ae)->Orc 353 mk n l0 e.ae) :
  G 354 ([aF s,aO l]++eb e)=Z (0,lW (ur ey fO mk kU zd (λn y v=>(⟨n.ak,v,y.ae⟩:aE)) s l e)):=by
 have uz:l.length<=mg:=by simp only[bW]at W;omega
 have M7:bW ay (dk s)<=mg:=aH nV U;have qL:(dk s).length<=mg:=by simp only[bW]at M7;omega
 have i:=q81 U;have f:=q82 (l:=dk s) (nm:=e.ak) qL;rw[qw]at he;refine cN uu (by rw[aK];rfl) ?_;cases N:dO (dk s) e.ak with
 |none=>
  have R:fJ s e.ak=O:=by simp only[fJ,N]
  rw[N]at f;unfold ur;rw[R];simp only[go_sem,uu,aK,i,f,ko,lW,qG]
 |some j=>
  obtain⟨n,V,hnn⟩:=dU N;have R:fJ s e.ak=Z n:=by simp only[fJ,N,V]
  have V0:n.ak=e.ak:=by simpa using hnn
  have xJ:fm (ay n)<=mg:=by have:=dV ay (bp V);omega
  rw[N]at f;have c1:=lZ 19 J ((dk s).map ay) j (by rw[aA];exact bw V);have o:=UZ V;have b:=alx (n:=n) (e:=e) xJ (by omega) (by omega) (hki n R);simp only[af,aK,au,av]at b;have m:=ZT j;unfold ur;rw[R];dsimp only;cases X:uk ey n e with
  |inl c=>
   rw[X]at b;have P6:Z' (c=0)=J:=by simpa using Ny X
   simp only[go_sem,uu,af,aK,i,f,ko,m,c1,o,b,P6,lW,qG]
  |inr p=>
   obtain⟨v,key⟩:=p;rw[X]at b;have Q:key.length<=mg:=aH (YZ X) (pG xJ);have d:=ak1 (n:=n) (l:=l) (v:=v) (key:=key) xJ W Q;simp only[af,au,av]at d;have T:∀K,Kd (dk s) ⟨n.ak,v,K⟩:=λK=>⟨j,by rw[V0];exact N⟩
   have R2:=hg n R;dsimp only;cases hi:zd n l v key with
   |none=>
    rw[hi]at d;have B:G 349 [aO l,E (-1)]=Z (0,[aO l]):=ael;have A:=ah5 (v:=v) U W DK T (λh=>R2 h [] (.inl rfl));obtain⟨ra,rb,C⟩:=zq (rz fO mk kU s n l e v);rw[C]at A;simp only[af,aK,au,av]at A;by_cases q:e.op=4
    ·rw[q]at b;simp only[go_sem,uu,af,aK,i,f,ko,m,c1,o,b,d,q,lW,qG]
     try simp[lW]
    by_cases r:e.op=5
    ·rw[r]at b;simp only[go_sem,uu,af,aK,i,f,ko,m,c1,o,b,d,r,B,lW,qG]
     try simp[lW,s6]
    by_cases w:e.op=2
    ·rw[w]at b A;simp only[go_sem,uu,af,aK,i,f,ko,m,c1,o,b,d,w,B,A,qG];simp[s6,C]
    by_cases t:e.op=3
    ·rw[t]at b A;simp only[go_sem,uu,af,aK,i,f,ko,m,c1,o,b,d,t,B,A,qG];simp[s6,C]
    ·simp only[go_sem,uu,af,aK,i,f,ko,m,c1,o,b,d,w,t,q,r,B,A,qG];simp[w,t,q,r,C]
   |some k=>
    rw[hi]at d;obtain⟨y,L,Sa⟩:=LK hi;have Q:=bw L;have D:=ZT k;have wT:=ge0 k;have B:=aem Q uz;have hcz:bW bl (l.eraseIdx k)<=mg:=aH (tS (fG l k)) W;have A:=ah5 (v:=v) U hcz (λy L=>DK y ((fG l k).subset L)) T (λh=>R2 h [] (.inl rfl));obtain⟨ra,rb,C⟩:=zq (rz fO mk kU s n (l.eraseIdx k) e v);rw[C]at A;simp only[af,aK,au,av]at A;by_cases t:e.op=3
    ·rw[t]at b;simp only[go_sem,uu,af,aK,i,f,ko,m,c1,o,b,d,t,wT,lW,qG]
     try simp[lW]
    by_cases q:e.op=4
    ·rw[q]at b;simp only[go_sem,uu,af,aK,i,f,ko,m,c1,o,b,d,q,D,B,lW,qG]
     try simp[lW,s6]
    by_cases r:e.op=5
    ·rw[r]at b;simp only[go_sem,uu,af,aK,i,f,ko,m,c1,o,b,d,r,B,lW,qG]
     try simp[lW,s6]
    by_cases w:e.op=2
    ·rw[w]at b A;simp only[go_sem,uu,af,aK,i,f,ko,m,c1,o,b,d,w,B,A,qG];simp[s6,C]
    have P:=n8 L;have b1:aU (.app 3 56) [aO [],aO l]=Z (aO l):=B5 (a:=[]) (by simp only[mg,aP]at *;omega);have b2:=lZ 3 J (l.map bl) k (by rw[aA];exact Q);have b3:=ail Q n.ak v;have yq:¬(e.op=3/\(Z k).isSome=I):=λh=>t h.1;have LC:¬(e.op=4/\Z k=O):=λh=>q h.1;have hn3:¬(e.op=4\/e.op=5):=λh=>h.elim q r;rw[if_neg yq,if_neg LC,if_neg hn3,if_neg w];dsimp only;rw[L];dsimp only;unfold A5;by_cases F:n.aq=1\/n.aq=2
    ·rw[if_pos F];obtain⟨H,g2,g4⟩:=R2 F y.ae (.inr ⟨y,bp L,Sa,rfl⟩);cases hm:mk n.ae y.ae e.ae with
     |inl c=>
      rw[hm]at H;have P6:Z' (c=0)=J:=by simpa using g2 c hm
      rcases F with g|g<;>rw[g]at b d<;>simp only[go_sem,uu,af,aK,i,f,ko,m,c1,o,b,d,w,t,q,r,D,P,aV y,g,H,P6,lW,qG]
     |inr K=>
      rw[hm]at H;dsimp only;by_cases Y:n.aq=1/\n.cZ=J/\K=[]
      ·rw[if_pos Y];obtain⟨g,h2,rfl⟩:=Y;rw[g,h2]at b d;simp only[go_sem,uu,af,aK,i,f,ko,m,c1,o,b,d,w,t,q,r,D,P,aV y,g,h2,H,lW,qG,aP,de0,B]
      ·rw[if_neg Y];rcases F with g|g
       ·cases S:n.cZ
        ·cases K with
         |nil=>exact absurd ⟨g,S,rfl⟩ Y
         |cons x K=>
          rw[g,S]at b d;simp only[go_sem,uu,af,aK,i,f,ko,m,c1,o,b,d,w,t,q,r,D,P,aV y,g,S,H,lW,qG,aG,M6,om,b1,b2,b3]
        ·rw[g,S]at b d;simp only[go_sem,uu,af,aK,i,f,ko,m,c1,o,b,d,w,t,q,r,D,P,aV y,g,S,H,lW,qG,om,b1,b2,b3]
       ·rw[g]at b d;simp only[go_sem,uu,af,aK,i,f,ko,m,c1,o,b,d,w,t,q,r,D,P,aV y,g,H,lW,qG,om,b1,b2,b3]
    ·rw[if_neg F];simp only[not_or]at F;obtain⟨g,h2⟩:=F;simp only[go_sem,uu,af,aK,i,f,ko,m,c1,o,b,d,w,t,q,r,D,P,aV y,g,h2,lW,qG,om,b1,b2,b3]
end
section
def Sok:Nat->M ah->Prop
 |0,_=>True
 |m+1,s=>∀n∈dk s,(n.aq=2->Bx n)/\((n.aq=1\/n.aq=2)->Sok m n.ae)
theorem Uc{i:z->Bool}{mt:z->z->Bool}:∀(m:Nat) {N:Nat} {s:M ah} {k:Int} {f:Bool} {deep:Nat},rN i mt N s k f deep=I->Sok m s
 |0,_,_,_,_,_,_=>trivial
 |m+1,N,s,k,f,deep,h=>λn l=>by
  obtain⟨t,q,r,d,o⟩:=K4 _ (aS _) h n l;refine⟨λb=>?_,λ_=>Uc m o⟩;unfold vC j7 at d;simp only[b,ai]at d;have g:=d.2;have p:¬(2:Int)=1:=by decide
  simp only[p,if_false,if_true,BN,rP,ai]at g;intro k b;have a:=bz.1 g.1 k b;unfold AG vi at a;cases c:dO n.ae k with
  |none=>rw[c]at a;cases a
  |some j=>
   obtain⟨x,e,_⟩:=dU c;rw[c]at a;simp only[e,ai,decide_eq_true_eq]at a;exact⟨j,x,rfl,e,a.1⟩
section
variable {m:Nat} {s:M ah} {l:M aE} {e:cA} {n:ah}
theorem Wm(g:Wl (m+1) s l)(c:fJ s e.ak=Z n)(d:n.aq=1\/n.aq=2){a:M aE}(h:a=[]\/∃y∈l,y.ak=n.ak/\a=y.ae):Wl m n.ae a:=by
 rcases h with rfl|⟨y,f,o,rfl⟩
 ·exact Nl m n.ae
 ·obtain⟨k,a1,a2,a3,a4⟩:=fe c;obtain⟨i,p,c1,b,j,_⟩:=g.1 y f;rw[o,a3,a1]at c1;cases c1;rw[a2]at b;cases b;exact (j d).2
theorem ZU{es:M cA}(f:bW bl l+zE es<=mg)(c:e∈es){a:M aE}(h:a=[]\/∃y∈l,y.ak=n.ak/\a=y.ae):bW bl a+zE e.ae<=mg:=by
 have d:=dV eb c;rw[qw]at d;have g:bW bl a<=bW bl l:=by
  rcases h with rfl|⟨y,b,_,rfl⟩
  ·exact nU _
  ·have:=dV bl b;rw[ij]at this;omega
 simp only[zE]at *;omega
theorem ag6(b:bW ay s<=mg)(a:fJ s e.ak=Z n):bW ay n.ae<=mg:=by
 obtain⟨k,a1,a2,a3,a4⟩:=fe a;have f:=dV ay a4;have d:=ew n;have c:=nV (es:=s);omega
theorem aby{es:M cA}(a:e∈es)(b:aw es < m+1):aw e.ae < m:=by
 have d:=ba a;have c:=cA.er e;omega
theorem Wl.kd(b:Wl (m+1) s l):∀y∈l,Kd (dk s) y:=λy a=>by
 obtain⟨k,n,h,_⟩:=b.1 y a;exact⟨k,h⟩
end
def Mk(f:Nat)(mk:Nat->M ah->M aE->M cA->Int ⊕ M aE)(m:Nat):Prop:=∀(s:M ah) (l:M aE) (es:M cA),aw es < m->bW ay s<=mg->bW bl l+zE es<=mg->Hs fO m s->Sok m s->Wl m s l->
 G f [aF s,aO l,gQ es]=Z (0,lW (mk m s l es))/\∀c,mk m s l es=.inl c->c≠0
theorem WX{f:Nat}{mk:Nat->M ah->M aE->M cA->Int ⊕ M aE}{m:Nat}(A:Mk f mk m)(j:∀s l es,Hs fO m s->Wl m s l->mk m s l es=km ey fO m s l es){s:M ah}{l:M aE}{e:cA}{n:ah}{es:M cA}(x:e∈es)(p:aw e.ae < m)(r:bW ay s<=mg)(t:bW bl l+zE es<=mg)(w:Hs fO (m+1) s)(v:Sok (m+1) s)(q:Wl (m+1) s l)
  (d:fJ s e.ak=Z n) (g:n.aq=1\/n.aq=2) {a:M aE} (h:a=[]\/∃y∈l,y.ak=n.ak/\a=y.ae):Orc f (mk m) n a e.ae:=by
 obtain⟨k,a1,a2,a3,a4⟩:=fe d;have i:=ZU t x h;have c:=(w n a4).2 g;have b:=Wm q d g h;obtain⟨C,B⟩:=A n.ae a e.ae p (ag6 r d) i c ((v n a4).2 g) b;refine⟨C,B,λD o=>?_⟩;rw[j n.ae a e.ae c b]at o;have:=qn m o;simp only[bW,zE]at *;omega
theorem Xa:∀m,Mk 353 (km ey fO) m
 |0=>λs l es h=>by omega
 |m+1=>λs l es U K f N L p=>by
  have q:es.length<=mg:=by simp only[bW,zE]at f;omega
  have loop:∀r i l,i+r=es.length->bW bl l+zE (es.drop i)<=mg->Wl (m+1) s l->∃o,cl (lB G Em) (0,[aF s,aO l,gQ es,.int .i64 (i:Int)])=Z o/\match wQ (xW ey fO m) s l (es.drop i) with
    | .inl c=>c≠0/\o=(0,[.list 3 J [],E c])
    | .inr l'=>o=(1,[aF s,aO l',gQ es,E es.length,.bool J]):=by
   intro r
   induction r with
   |zero=>
    intro i l V _ _;obtain rfl:i=es.length:=by omega
    rw[bJ];refine⟨_,aX ?_,rfl⟩;simp only[go_sem,bK,Em,aB]
   |succ r T=>
    intro i l V f p;have w:i < es.length:=by omega
    have a1:=dz (l:=es) (i:=i) w;have hd:=eM es i _ a1;generalize es[i]'w=e at a1 hd;have C:=wj w q;have Q:=Dj a1;have Zw:bW bl l<=mg:=by omega
    rw[hd]at f ⊢;have D:fm (eb e)<=mg:=by simp only[zE,eS]at f;omega
    have R:∀n,fJ s e.ak=Z n->(n.aq=1\/n.aq=2)->∀b,(b=[]\/∃y∈l,y.ak=n.ak/\b=y.ae)->Orc 353 (km ey fO m) n b e.ae:=
     λn j B b F=>WX (Xa m) (λ_ _ _ _ _=>rfl) bQ (aby (bp a1) U) K f N L p j B F
    have g:=alA (mk:=km ey fO m) K Zw D p.kd (λn j=>by obtain⟨k,b1,b2,b3,b4⟩:=fe j;exact (L n b4).1) R;have H:∀c,xW ey fO m s l e=.inl c->c≠0:=λc=>WV (oN:=fO) λn j B b F=>(R n j B b F).2.1;have X:=Ow (sF (can:=ey) m) N p e;have S:=λl' h=>Ox (oN:=fO) (mk:=km ey fO m) (λs l es l' h=>qn m h) (s:=s) (l:=l) (l':=l') (e:=e) h;simp only[aK,au,av]at g;rw[wQ];have x:xW ey fO m s l e=ur ey fO (km ey fO m) kU zd (λn y v=>(⟨n.ak,v,y.ae⟩:aE)) s l e:=rfl;rw[<- x]at g;cases d:xW ey fO m s l e with
    |inl c=>
     rw[d]at g;have P6:Z' (c=0)=J:=by simpa using H c d
     refine⟨_,aX ?_,H c d,rfl⟩;simp only[go_sem,bK,Em,w,Q,pK,aK e,g,lW,P6]
    |inr A=>
     rw[d]at g;have ZH:=S A (by rw[<- x];exact d);obtain⟨o,t,a⟩:=T (i+1) A (by omega) (by simp only[zE,eS]at *;omega) (X.2 A d).1;refine⟨o,(bU ?_).trans t,a⟩;simp only[go_sem,bK,Em,w,Q,pK,aK e,g,lW,C]
  obtain⟨o,t,a⟩:=loop es.length 0 l (by omega) (by simpa using f) p;rw[n0]at t;rw[br]at a;have x:km ey fO (m+1) s l es=wQ (xW ey fO m) s l es:=rfl;rw[x];cases P:wQ (xW ey fO m) s l es with
  |inl c=>
   rw[P]at a;obtain⟨W,rfl⟩:=a;refine⟨cN aba rfl ?_,λY h=>by cases h;exact W⟩;simp only[go_sem,aba,t,lW]
  |inr l'=>
   rw[P]at a;dsimp only at a;subst a;refine⟨cN aba rfl ?_,λY h=>by cases h⟩;simp only[go_sem,aba,t,lW]
end
end Go.Proofs.YtgfcijiikgjbcaaGreatDoor
