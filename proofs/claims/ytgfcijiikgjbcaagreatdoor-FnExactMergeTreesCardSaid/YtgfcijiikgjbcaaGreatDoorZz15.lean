/- Part of the proof: a machine over plain data, its proof, the functions of the program run on symbols, what they answer. Condition: none. -/
import Derived.Test.YtgfcijiikgjbcaaGreatDoorZz14
set_option linter.unusedVariables false
set_option linter.unusedSimpArgs false
open Bool renaming false_eq_true->aD,true->I,false->J
open ByteArray renaming size_append->ju
open Int renaming toNat_natCast->cd,natCast_nonneg->eo,natCast_zero->eX,lt_irrefl->fD,natCast_one->jT,add_zero->lD
open List renaming cons_append->au,nil_append->av,mem_cons->aI,append_nil->aJ,map_cons->aZ,take_length->bo,drop_zero->br,take_zero->bE,drop_length->bJ,map_nil->cj,take_succ_cons->dy,not_mem_nil->fR,drop_succ_cons->ja
open Nat renaming lt_irrefl->aB,le_trans->aH,reduceEqDiff->aN,lt_succ_self->aS,reduceLeDiff->bm,reduceBNe->bq,reduceAdd->bM,lt_of_lt_of_le->bR,reduceLT->cS,le_of_lt->mQ,le_of_lt_succ->oE,pow_succ->wP
open SizeOf renaming sizeOf->aw
open UInt8 renaming ofNat->dD
open Option renaming some->Z
namespace Go.Proofs.YtgfcijiikgjbcaaGreatDoor
set_option maxRecDepth 100000
set_option maxHeartbeats 4000000
section
open Go.RowKit
theorem WB:∀(f n:Nat) (out:z) (W:M (Nat×Row)),n < 10 ^ f->n<=9223372036854775807->out.size+f<=100->(W=[]\/∃r,W=[(12,r)])->
  ∃c,ev T wY (.loop vv) ⟨[(0,.d (E n)),(3,.d (.str out))],[],W⟩=Z (.exit 0,⟨[(0,.d (E 0)),(3,.d (.str (B7 f n out))),(7,.d (.bool J))],[],c⟩)
 |0,n,out,W,h,_,_,a=>by
  obtain rfl:n=0:=by simp at h;omega
  rw[gX];rcases a with rfl|⟨r,rfl⟩
  ·refine⟨[],?_⟩;simp -implicitDefEqProofs only [vv,B7,eX,fD,go_sem,aN]
  ·refine⟨[(12,r)],?_⟩;simp -implicitDefEqProofs only [vv,B7,eX,fD,go_sem,aN]
 |f+1,n,out,W,h,e,s,a=>by
  by_cases g:n=0
  ·subst g;rw[gX];rcases a with rfl|⟨r,rfl⟩
   ·refine⟨[],?_⟩;simp -implicitDefEqProofs only [vv,B7,eX,fD,go_sem,aN]
   ·refine⟨[(12,r)],?_⟩;simp -implicitDefEqProofs only [vv,B7,eX,fD,go_sem,aN]
  ·have hd:(0:Int) < (n:Int):=by omega
   have j:(0:Int)<=(n:Int):=by omega
   have q:IntKind.i64.wrap (48+(n:Int) % 10)=48+(n:Int) % 10:=cD (by omega);have p:IntKind.u8.wrap (48+(n:Int) % 10)=48+(n:Int) % 10:=by simp -implicitDefEqProofs only [IntKind.wrap,IntKind.bits,IntKind.signed];simp;omega
   have o:(48+(n:Int) % 10).toNat=48+n % 10:=by omega
   have m:(n:Int) / 10=((n / 10:Nat):Int):=by omega
   have l:(⟨#[dD (48+n % 10)]⟩:z).size+out.size<=maxLen:=by rw[Ra];simp -implicitDefEqProofs only [maxLen];omega
   obtain⟨c,i⟩:=WB f (n / 10) (⟨#[dD (48+n % 10)]⟩++out) [(12,⟨[[.int .u8 (48+(n:Int) % 10)]],1,I,I,I,J⟩)] (by rw[wP]at h;omega) (by omega) (by rw[ju,Ra];omega) (.inr ⟨_,rfl⟩);refine⟨c,?_⟩;have b:(1:Int)<=10:=by omega
   have k:#[dD (48+n % 10)].size+out.size<=maxLen:=l;have e:ev T wY vv ⟨[(0,.d (E n)),(3,.d (.str out))],[],W⟩=Z (.norm,⟨[(0,.d (E (n / 10:Nat))),(3,.d (.str (⟨#[dD (48+n % 10)]⟩++out)))],[],[(12,⟨[[.int .u8 (48+(n:Int) % 10)]],1,I,I,I,J⟩)]⟩):=by
    rcases a with rfl|⟨r,rfl⟩<;>simp -implicitDefEqProofs only [vv,hd,j,b,q,p,o,m,k,bytesOf,aZ,cj,reduceCtorEq,go_sem,aN,cS]
   rw[gX,e];simp -implicitDefEqProofs only [B7,g,if_false]
   exact i
theorem ji(q:Int)(g:0 < q)(e:q<=9223372036854775807):ej T 16 [.val J [.d (E q)]]=Z ([.val J [.d (.str (HC q))]],[]):=by
 obtain⟨n,rfl⟩:∃n:Nat,q=n:=⟨q.toNat,by omega⟩
 rw[vr (f:=16) rfl rfl];obtain⟨h,c⟩:=WB 20 n ⟨#[]⟩ [] (by omega) (by omega) (by decide) (.inl rfl);have hd:¬((n:Int)<=0):=by omega
 have b:(HC (n:Int)).size<=maxLen:=aH (L3 _) (by decide);simp -implicitDefEqProofs only [HC,if_neg hd,cd]at b ⊢
 rw[ju]at b;have a:#[(109:UInt8)].size+(B7 20 n ⟨#[]⟩).size<=maxLen:=b;simp -implicitDefEqProofs only [c,hd,a,go_sem,aN]
theorem tC(es:M (M D))(hB:es.length<=lF)(ok:eJ lF 0 es)(q:Int)(o:0 < q)(n:q+ch es<=4611686018427387904) :
  iD T 149 J [.list 1 I es] q=Z ([.list 1 I (mK es q)],q+ch es):=by
 rw[nf (f:=149) rfl];have e:=vu (T:=T) (own:=I) (k:=1) (body:=CG) (λi=>⟨⟨[(1,.d (E (q+ch (es.take i)))),(5,.d (E i))],[],[]⟩,[(0,.lst)],mK (es.take i) q++es.drop i⟩) es.length
  (by simp -implicitDefEqProofs only [CG,eD,aJ,nlt,bo,bJ,go_sem,aN,bq];rfl)
  (by
   intro i c;have b:=dz c;have t1:=jF es (i+1);have t2:=g_ b;obtain⟨m,h,p⟩:=zf (ok.JE b);have t3:Cc es[i]=0+1:=by rw[h];simp -implicitDefEqProofs only [Cc,D.mn]<;>omega
   have l:=ji (q+(ch (es.take i):Int)) (by omega) (by omega);obtain⟨j,t4⟩:(IntKind.i64.wrap (q+(ch (es.take i):Int)+1)=q+(ch (es.take i):Int)+1)/\(q+(ch (es.take (i+1)):Int)=q+(ch (es.take i):Int)+1):=⟨cD (by omega),by omega⟩
   have g:=vy q b;rw[h]at b g;simp -implicitDefEqProofs only [S4,D.mk]at g
   have i3:(1:Int)<=3:=by omega
   simp -implicitDefEqProofs only [CG,l,j,t4,vz q (mQ c),vA q b,vB q b,c,ZN c,wi c (aH hB (by simp[maxLen,lF])),eo,go_sem,aN,bq]
   exact congrArg (λa=>Z (Ex.norm,MS.mk _ _ a)) g)
 simp -implicitDefEqProofs only [eX,bE,br,mK,ch,av,lD]at e
 simp -implicitDefEqProofs only [e,go_sem,aN,bq]
theorem Mb(es:M (M D))(hB:es.length<=lF)(ok:eJ lF 6 es)(q:Int)(p:0 < q)(o:q+ch es<=4611686018427387904) :
  iD T 148 J [.list 2 I es] q=Z ([.list 2 I (mK es q)],q+ch es):=by
 rw[nf (f:=148) rfl];have e:=vu (T:=T) (own:=I) (k:=2) (body:=CF) (λi=>⟨⟨[(1,.d (E (q+ch (es.take i)))),(5,.d (E i))],[],[]⟩,[(0,.lst)],mK (es.take i) q++es.drop i⟩) es.length
  (by simp -implicitDefEqProofs only [CF,eD,aJ,nlt,bo,bJ,go_sem,aN,bq];rfl)
  (by
   intro i b;have c:=dz b;have t1:=jF es (i+1);have t2:=g_ c;obtain⟨n,m,h,_,_⟩:=pQ (ok.JE c);have t3:Cc es[i]=0+1+1:=by rw[h];simp -implicitDefEqProofs only [Cc,D.mn]<;>omega
   obtain⟨l,j,t4⟩:(IntKind.i64.wrap (q+(ch (es.take i):Int)+1)=q+(ch (es.take i):Int)+1)/\(IntKind.i64.wrap (q+(ch (es.take i):Int)+1+1)=q+(ch (es.take i):Int)+1+1)/\(q+(ch (es.take (i+1)):Int)=q+(ch (es.take i):Int)+1+1):=⟨cD (by omega),cD (by omega),by omega⟩
   have g:=vy q c;rw[h]at c g;simp -implicitDefEqProofs only [S4,D.mk,D.mn,jT]at g
   have i3:(1:Int)<=3:=by omega
   simp -implicitDefEqProofs only [CF,l,j,t4,vz q (mQ b),vA q c,vB q c,tE q b,tD q b,tF q b,b,ZN b,wi b (aH hB (by simp[maxLen,lF])),eo,go_sem,bM,aN,bq]
   exact congrArg (λa=>Z (Ex.norm,MS.mk _ _ a)) g)
 simp -implicitDefEqProofs only [eX,bE,br,mK,ch,av,lD]at e
 simp -implicitDefEqProofs only [e,go_sem,aN,bq]
theorem Oh(es:M (M D))(hB:es.length<=lF)(ok:eJ lF 8 es)(q:Int)(s:0 < q)(r:q+ch es<=4611686018427387904) :
  iD T 150 J [.list 2 I es] q=Z ([.list 2 I (mK es q)],q+ch es):=by
 rw[nf (f:=150) rfl];have e:=vu (T:=T) (own:=I) (k:=2) (body:=CH) (λi=>⟨⟨[(1,.d (E (q+ch (es.take i)))),(5,.d (E i))],[],[]⟩,[(0,.lst)],mK (es.take i) q++es.drop i⟩) es.length
  (by simp -implicitDefEqProofs only [CH,eD,aJ,nlt,bo,bJ,go_sem,aN,bq];rfl)
  (by
   intro i b;have c:=dz b;have t1:=jF es (i+1);have t2:=g_ c;obtain⟨p,o,h,v,t⟩:=sy (ok.JE c);have t3:Cc es[i]=0+1+1:=by rw[h];simp -implicitDefEqProofs only [Cc,D.mn]<;>omega
   have n:=ji (q+(ch (es.take i):Int)) (by omega) (by omega);have m:=ji (q+(ch (es.take i):Int)+1) (by omega) (by omega);obtain⟨l,j,t4⟩:(IntKind.i64.wrap (q+(ch (es.take i):Int)+1)=q+(ch (es.take i):Int)+1)/\(IntKind.i64.wrap (q+(ch (es.take i):Int)+1+1)=q+(ch (es.take i):Int)+1+1)/\(q+(ch (es.take (i+1)):Int)=q+(ch (es.take i):Int)+1+1):=⟨cD (by omega),cD (by omega),by omega⟩
   have g:=vy q c;rw[h]at c g;simp -implicitDefEqProofs only [S4,D.mk,D.mn,jT]at g
   have i3:(1:Int)<=3:=by omega
   simp -implicitDefEqProofs only [CH,n,m,l,j,t4,vz q (mQ b),vA q c,vB q c,tE q b,tD q b,tF q b,b,ZN b,wi b (aH hB (by simp[maxLen,lF])),eo,go_sem,bM,aN,bq]
   exact congrArg (λa=>Z (Ex.norm,MS.mk _ _ a)) g)
 simp -implicitDefEqProofs only [eX,bE,br,mK,ch,av,lD]at e
 simp -implicitDefEqProofs only [e,go_sem,aN,bq]
theorem Og(es:M (M D))(hB:es.length<=lF)(ok:eJ lF 9 es)(q:Int)(s:0 < q)(r:q+ch es<=4611686018427387904) :
  iD T 151 J [.list 2 J es] q=Z ([.list 2 J (mK es q)],q+ch es):=by
 rw[nf (f:=151) rfl];have h:=vu (T:=T) (own:=I) (k:=2) (body:=CI) (λi=>⟨⟨[(1,.d (E (q+ch (es.take i)))),(5,.d (E i))],[],[]⟩,[(0,.lst)],mK (es.take i) q++es.drop i⟩) es.length
  (by simp -implicitDefEqProofs only [CI,eD,aJ,nlt,bo,bJ,go_sem,aN,bq];rfl)
  (by
   intro i b;have c:=dz b;have t1:=jF es (i+1);have t2:=g_ c;obtain⟨p,e,j,t,⟨o,c1⟩⟩:=sx (ok.JE c);have t3:Cc es[i]=0+1+ch e:=by rw[j];simp -implicitDefEqProofs only [Cc,D.mn]<;>omega
   have n:=ji (q+(ch (es.take i):Int)) (by omega) (by omega);have m:=Oh e o c1 (q+(ch (es.take i):Int)+1) (by omega) (by omega);obtain⟨l,t4⟩:(IntKind.i64.wrap (q+(ch (es.take i):Int)+1)=q+(ch (es.take i):Int)+1)/\(q+(ch (es.take (i+1)):Int)=q+(ch (es.take i):Int)+1+(ch e:Int)):=⟨cD (by omega),by omega⟩
   have g:=vy q c;rw[j]at c g;simp -implicitDefEqProofs only [S4,D.mk,D.mn,jT]at g
   have i3:(1:Int)<=3:=by omega
   simp -implicitDefEqProofs only [CI,n,m,l,t4,vz q (mQ b),vA q c,vB q c,tE q b,tD q b,tF q b,b,ZN b,wi b (aH hB (by simp[maxLen,lF])),eo,go_sem,bM,aN,bm,bq]
   exact congrArg (λa=>Z (Ex.norm,MS.mk _ _ a)) g)
 simp -implicitDefEqProofs only [eX,bE,br,mK,ch,av,lD]at h
 simp -implicitDefEqProofs only [h,go_sem,aN,bq]
theorem JC(es:M (M D))(hB:es.length<=lF)(ok:eJ lF 11 es)(h:∀x,(∃e∈es,D.list 7 J x∈e)->∀(q:Int),0 < q->q+ch x<=4611686018427387904->iD T 152 J [.list 7 J x] q=Z ([.list 7 J (mK x q)],q+ch x))(q:Int)(P:0 < q)(N:q+ch es<=4611686018427387904) :
  iD T 152 J [.list 7 J es] q=Z ([.list 7 J (mK es q)],q+ch es):=by
 rw[nf (f:=152) rfl];have n:=vu (T:=T) (own:=I) (k:=7) (body:=CJ) (λi=>⟨⟨[(1,.d (E (q+ch (es.take i)))),(5,.d (E i))],[],[]⟩,[(0,.lst)],mK (es.take i) q++es.drop i⟩) es.length
  (by simp -implicitDefEqProofs only [CJ,eD,aJ,nlt,bo,bJ,go_sem,aN,bq];rfl)
  (by
   intro i b;have c:=dz b;have t1:=jF es (i+1);have t2:=g_ c;obtain⟨L,K,H,G,F,j,l,m,_,_,S,_,_,⟨C,B⟩,⟨R,Q⟩⟩:=oM (ok.JE c);have t3:Cc es[i]=0+1+1+1+1+1+ch j+ch l:=by rw[m];simp -implicitDefEqProofs only [Cc,D.mn]<;>omega
   have A:=ji (q+(ch (es.take i):Int)+1+1) (by omega) (by omega);have w:=Og j C B (q+(ch (es.take i):Int)+1+1+1+1+1) (by omega) (by omega);have v:=h l ⟨_,wC c,by rw[m];simp -implicitDefEqProofs only [aI,true_or,or_true]⟩ (q+(ch (es.take i):Int)+1+1+1+1+1+(ch j:Int)) (by omega) (by omega);obtain⟨t,s,r,y,p,o,t4⟩:(IntKind.i64.wrap (q+(ch (es.take i):Int)+1)=q+(ch (es.take i):Int)+1)/\(IntKind.i64.wrap (q+(ch (es.take i):Int)+1+1)=q+(ch (es.take i):Int)+1+1)/\(IntKind.i64.wrap (q+(ch (es.take i):Int)+1+1+1)=q+(ch (es.take i):Int)+1+1+1)/\((0:Int)<=q+(ch (es.take i):Int)+1+1+1)/\(IntKind.i64.wrap (q+(ch (es.take i):Int)+1+1+1+1)=q+(ch (es.take i):Int)+1+1+1+1)/\(IntKind.i64.wrap (q+(ch (es.take i):Int)+1+1+1+1+1)=q+(ch (es.take i):Int)+1+1+1+1+1)/\(q+(ch (es.take (i+1)):Int)=q+(ch (es.take i):Int)+1+1+1+1+1+(ch j:Int)+(ch l:Int)):=⟨cD (by omega),cD (by omega),cD (by omega),by omega,cD (by omega),cD (by omega),by omega⟩
   have g:=vy q c;rw[m]at c g;simp -implicitDefEqProofs only [S4,D.mk,D.mn,jT]at g
   have i3:(1:Int)<=3:=by omega
   simp -implicitDefEqProofs only [CJ,A,w,v,t,s,r,y,p,o,t4,i3,vz q (mQ b),vA q c,vB q c,tE q b,tD q b,tF q b,b,ZN b,wi b (aH hB (by simp[maxLen,lF])),eo,go_sem,bM,aN,bm,bq]
   exact congrArg (λa=>Z (Ex.norm,MS.mk _ _ a)) g)
 simp -implicitDefEqProofs only [eX,bE,br,mK,ch,av,lD]at n
 simp -implicitDefEqProofs only [n,go_sem,aN,bq]
theorem L9(n:Nat):∀(es:M (M D)),aw es < n->es.length<=lF->eJ lF 11 es->∀(q:Int),0 < q->q+ch es<=4611686018427387904->iD T 152 J [.list 7 J es] q=Z ([.list 7 J (mK es q)],q+ch es):=by
 induction n with
 |zero=>intro es h;omega
 |succ n f=>
  intro es d hB ok q i g;refine JC es hB ok (λx a=>?_) q i g;obtain⟨e,b,a⟩:=a;have c:=bR (vP a b) (oE d);obtain⟨t,s,r,p,o,m,l,rfl,_,_,y,_,_,⟨w,v⟩,⟨k,j⟩⟩:=oM (ok.mem e b);simp -implicitDefEqProofs only [aI,fR,reduceCtorEq,false_or,or_false,D.list.injEq,aN,false_and,true_and]at a
  subst a;exact f _ c k j
theorem EF(es:M (M D))(hB:es.length<=lF)(ok:eJ lF 11 es)(q:Int)(b:0 < q)(a:q+ch es<=4611686018427387904):iD T 152 J [.list 7 J es] q=Z ([.list 7 J (mK es q)],q+ch es):=L9 (aw es+1) es (by omega) hB ok q b a
theorem EG(es:M (M D))(hB:es.length<=lF)(ok:eJ lF 12 es)(h:∀x,(∃e∈es,D.list 19 J x∈e)->∀(q:Int),0 < q->q+ch x<=4611686018427387904->iD T 153 J [.list 19 J x] q=Z ([.list 19 J (mK x q)],q+ch x))(q:Int)(h0:0 < q)(h1:q+ch es<=4611686018427387904) :
  iD T 153 J [.list 19 J es] q=Z ([.list 19 J (mK es q)],q+ch es):=by
 rw[nf (f:=153) rfl];have L:=vu (T:=T) (own:=I) (k:=19) (body:=CK) (λi=>⟨⟨[(1,.d (E (q+ch (es.take i)))),(5,.d (E i))],[],[]⟩,[(0,.lst)],mK (es.take i) q++es.drop i⟩) es.length
  (by simp -implicitDefEqProofs only [CK,eD,aJ,nlt,bo,bJ,go_sem,aN,bq];rfl)
  (by
   intro i o;have r:=dz o;have t1:=jF es (i+1);have t2:=g_ r;obtain⟨x0,x1,x2,b,c,x5,x6,j,l,x9,U,S,R,Q,P,N,m,n,p,K,_,b1,_,⟨b3,c3⟩,⟨b4,c4⟩,b5,b6,⟨b7,c7⟩,⟨b8,c8⟩,b9,_,_,_,_,_,_,⟨TF,Kj⟩,⟨TG,KM⟩,⟨Yt,Px⟩⟩:=lT (ok.JE r);have t3:Cc es[i]=0+1+1+1+ch b+ch c+1+1+ch j+ch l+1+1+1+1+1+1+1+ch m+ch n+ch p:=by rw[K];simp -implicitDefEqProofs only [Cc,D.mn]<;>omega
   have m1:=ji (q+(ch (es.take i):Int)+1) (by omega) (by omega);have m3:=Mb b b3 c3 (q+(ch (es.take i):Int)+1+1+1) (by omega) (by omega);have m4:=tC c b4 c4 (q+(ch (es.take i):Int)+1+1+1+(ch b:Int)) (by omega) (by omega);have m5:=ji (q+(ch (es.take i):Int)+1+1+1+(ch b:Int)+(ch c:Int)) (by omega) (by omega);have m6:=ji (q+(ch (es.take i):Int)+1+1+1+(ch b:Int)+(ch c:Int)+1) (by omega) (by omega);have m7:=tC j b7 c7 (q+(ch (es.take i):Int)+1+1+1+(ch b:Int)+(ch c:Int)+1+1) (by omega) (by omega);have m8:=tC l b8 c8 (q+(ch (es.take i):Int)+1+1+1+(ch b:Int)+(ch c:Int)+1+1+(ch j:Int)) (by omega) (by omega);have m9:=ji (q+(ch (es.take i):Int)+1+1+1+(ch b:Int)+(ch c:Int)+1+1+(ch j:Int)+(ch l:Int)) (by omega) (by omega);have B:=EF m TF Kj (q+(ch (es.take i):Int)+1+1+1+(ch b:Int)+(ch c:Int)+1+1+(ch j:Int)+(ch l:Int)+1+1+1+1+1+1+1) (by omega) (by omega);have m17:=EF n TG KM (q+(ch (es.take i):Int)+1+1+1+(ch b:Int)+(ch c:Int)+1+1+(ch j:Int)+(ch l:Int)+1+1+1+1+1+1+1+(ch m:Int)) (by omega) (by omega);have m18:=h p ⟨_,wC r,by rw[K];simp -implicitDefEqProofs only [aI,true_or,or_true]⟩ (q+(ch (es.take i):Int)+1+1+1+(ch b:Int)+(ch c:Int)+1+1+(ch j:Int)+(ch l:Int)+1+1+1+1+1+1+1+(ch m:Int)+(ch n:Int)) (by omega) (by omega)
   obtain⟨w0,w1,Y,X,W,V,H,A,G,y,F,w,C,v,t,s,t4⟩:(IntKind.i64.wrap (q+(ch (es.take i):Int)+1)=q+(ch (es.take i):Int)+1)/\(IntKind.i64.wrap (q+(ch (es.take i):Int)+1+1)=q+(ch (es.take i):Int)+1+1)/\(IntKind.i64.wrap (q+(ch (es.take i):Int)+1+1+1)=q+(ch (es.take i):Int)+1+1+1)/\(IntKind.i64.wrap (q+(ch (es.take i):Int)+1+1+1+(ch b:Int)+(ch c:Int)+1)=q+(ch (es.take i):Int)+1+1+1+(ch b:Int)+(ch c:Int)+1)/\(IntKind.i64.wrap (q+(ch (es.take i):Int)+1+1+1+(ch b:Int)+(ch c:Int)+1+1)=q+(ch (es.take i):Int)+1+1+1+(ch b:Int)+(ch c:Int)+1+1)/\(IntKind.i64.wrap (q+(ch (es.take i):Int)+1+1+1+(ch b:Int)+(ch c:Int)+1+1+(ch j:Int)+(ch l:Int)+1)=q+(ch (es.take i):Int)+1+1+1+(ch b:Int)+(ch c:Int)+1+1+(ch j:Int)+(ch l:Int)+1)/\((0:Int)<=q+(ch (es.take i):Int)+1+1+1+(ch b:Int)+(ch c:Int)+1+1+(ch j:Int)+(ch l:Int)+1)/\(IntKind.i64.wrap (q+(ch (es.take i):Int)+1+1+1+(ch b:Int)+(ch c:Int)+1+1+(ch j:Int)+(ch l:Int)+1+1)=q+(ch (es.take i):Int)+1+1+1+(ch b:Int)+(ch c:Int)+1+1+(ch j:Int)+(ch l:Int)+1+1)/\((0:Int)<=q+(ch (es.take i):Int)+1+1+1+(ch b:Int)+(ch c:Int)+1+1+(ch j:Int)+(ch l:Int)+1+1)/\(IntKind.i64.wrap (q+(ch (es.take i):Int)+1+1+1+(ch b:Int)+(ch c:Int)+1+1+(ch j:Int)+(ch l:Int)+1+1+1)=q+(ch (es.take i):Int)+1+1+1+(ch b:Int)+(ch c:Int)+1+1+(ch j:Int)+(ch l:Int)+1+1+1)/\((0:Int)<=q+(ch (es.take i):Int)+1+1+1+(ch b:Int)+(ch c:Int)+1+1+(ch j:Int)+(ch l:Int)+1+1+1)/\(IntKind.i64.wrap (q+(ch (es.take i):Int)+1+1+1+(ch b:Int)+(ch c:Int)+1+1+(ch j:Int)+(ch l:Int)+1+1+1+1)=q+(ch (es.take i):Int)+1+1+1+(ch b:Int)+(ch c:Int)+1+1+(ch j:Int)+(ch l:Int)+1+1+1+1)/\((0:Int)<=q+(ch (es.take i):Int)+1+1+1+(ch b:Int)+(ch c:Int)+1+1+(ch j:Int)+(ch l:Int)+1+1+1+1)/\(IntKind.i64.wrap (q+(ch (es.take i):Int)+1+1+1+(ch b:Int)+(ch c:Int)+1+1+(ch j:Int)+(ch l:Int)+1+1+1+1+1)=q+(ch (es.take i):Int)+1+1+1+(ch b:Int)+(ch c:Int)+1+1+(ch j:Int)+(ch l:Int)+1+1+1+1+1)/\(IntKind.i64.wrap (q+(ch (es.take i):Int)+1+1+1+(ch b:Int)+(ch c:Int)+1+1+(ch j:Int)+(ch l:Int)+1+1+1+1+1+1)=q+(ch (es.take i):Int)+1+1+1+(ch b:Int)+(ch c:Int)+1+1+(ch j:Int)+(ch l:Int)+1+1+1+1+1+1)/\(IntKind.i64.wrap (q+(ch (es.take i):Int)+1+1+1+(ch b:Int)+(ch c:Int)+1+1+(ch j:Int)+(ch l:Int)+1+1+1+1+1+1+1)=q+(ch (es.take i):Int)+1+1+1+(ch b:Int)+(ch c:Int)+1+1+(ch j:Int)+(ch l:Int)+1+1+1+1+1+1+1)/\(q+(ch (es.take (i+1)):Int)=q+(ch (es.take i):Int)+1+1+1+(ch b:Int)+(ch c:Int)+1+1+(ch j:Int)+(ch l:Int)+1+1+1+1+1+1+1+(ch m:Int)+(ch n:Int)+(ch p:Int)):=⟨cD (by omega),cD (by omega),cD (by omega),cD (by omega),cD (by omega),cD (by omega),by omega,cD (by omega),by omega,cD (by omega),by omega,cD (by omega),by omega,cD (by omega),cD (by omega),cD (by omega),by omega⟩
   have g:=vy q r;rw[K]at r g;simp -implicitDefEqProofs only [S4,D.mk,D.mn,jT]at g
   have i3:(1:Int)<=3:=by omega
   simp -implicitDefEqProofs only [CK,m1,m3,m4,m5,m6,m7,m8,m9,B,m17,m18,w0,w1,Y,X,W,V,H,A,G,y,F,w,C,v,t,s,t4,i3,vz q (mQ o),vA q r,vB q r,tE q o,tD q o,tF q o,o,ZN o,wi o (aH hB (by simp[maxLen,lF])),eo,go_sem,bM,aN,bm,bq]
   exact congrArg (λa=>Z (Ex.norm,MS.mk _ _ a)) g)
 simp -implicitDefEqProofs only [eX,bE,br,mK,ch,av,lD]at L
 simp -implicitDefEqProofs only [L,go_sem,aN,bq]
theorem Gj(n:Nat):∀(es:M (M D)),aw es < n->es.length<=lF->eJ lF 12 es->∀(q:Int),0 < q->q+ch es<=4611686018427387904->iD T 153 J [.list 19 J es] q=Z ([.list 19 J (mK es q)],q+ch es):=by
 induction n with
 |zero=>intro es h;omega
 |succ n r=>
  intro es p hB ok q t s;refine EG es hB ok (λx a=>?_) q t s;obtain⟨e,b,a⟩:=a;have o:=bR (vP a b) (oE p);obtain⟨N,L,K,H,G,F,C,B,A,y,m,l,k,j,i,g,f,d,c,rfl,_,b1,_,⟨b3,S⟩,⟨b4,R⟩,Y,X,⟨W,Q⟩,⟨V,P⟩,U,_,_,_,_,_,_,⟨TF,Kj⟩,⟨TG,KM⟩,⟨v,w⟩⟩:=lT (ok.mem e b);simp -implicitDefEqProofs only [aI,fR,reduceCtorEq,false_or,or_false,D.list.injEq,aN,aD,false_and,and_false,true_and]at a
  subst a;exact r _ o v w
theorem zo(es:M (M D))(hB:es.length<=lF)(ok:eJ lF 12 es)(q:Int)(b:0 < q)(a:q+ch es<=4611686018427387904):iD T 153 J [.list 19 J es] q=Z ([.list 19 J (mK es q)],q+ch es):=Gj (aw es+1) es (by omega) hB ok q b a
theorem JD(es:M (M D))(hB:es.length<=lF)(ok:eJ lF 2 es)(h:∀x,(∃e∈es,D.list 3 J x∈e)->∀(q:Int),0 < q->q+ch x<=4611686018427387904->iD T 17 J [.list 3 J x] q=Z ([.list 3 J (mK x q)],q+ch x))(q:Int)(y:0 < q)(w:q+ch es<=4611686018427387904) :
  iD T 17 J [.list 3 J es] q=Z ([.list 3 J (mK es q)],q+ch es):=by
 rw[nf (f:=17) rfl];have m:=vu (T:=T) (own:=I) (k:=3) (body:=Jw) (λi=>⟨⟨[(1,.d (E (q+ch (es.take i)))),(5,.d (E i))],[],[]⟩,[(0,.lst)],mK (es.take i) q++es.drop i⟩) es.length
  (by simp -implicitDefEqProofs only [Jw,eD,aJ,nlt,bo,bJ,go_sem,aN,bq];rfl)
  (by
   intro i b;have c:=dz b;have t1:=jF es (i+1);have t2:=g_ c;obtain⟨v,t,j,l,F,C,⟨B,A⟩⟩:=mG (ok.JE c);have t3:Cc es[i]=0+1+1+ch j:=by rw[l];simp -implicitDefEqProofs only [Cc,D.mn]<;>omega
   have s:=ji (q+(ch (es.take i):Int)) (by omega) (by omega);have r:=ji (q+(ch (es.take i):Int)+1) (by omega) (by omega);have p:=h j ⟨_,wC c,by rw[l];simp -implicitDefEqProofs only [aI,true_or,or_true]⟩ (q+(ch (es.take i):Int)+1+1) (by omega) (by omega);obtain⟨o,n,t4⟩:(IntKind.i64.wrap (q+(ch (es.take i):Int)+1)=q+(ch (es.take i):Int)+1)/\(IntKind.i64.wrap (q+(ch (es.take i):Int)+1+1)=q+(ch (es.take i):Int)+1+1)/\(q+(ch (es.take (i+1)):Int)=q+(ch (es.take i):Int)+1+1+(ch j:Int)):=⟨cD (by omega),cD (by omega),by omega⟩
   have g:=vy q c;rw[l]at c g;simp -implicitDefEqProofs only [S4,D.mk,D.mn,jT]at g
   have i3:(1:Int)<=3:=by omega
   simp -implicitDefEqProofs only [Jw,s,r,p,o,n,t4,vz q (mQ b),vA q c,vB q c,tE q b,tD q b,tF q b,b,ZN b,wi b (aH hB (by simp[maxLen,lF])),eo,go_sem,bM,aN,bm,bq]
   exact congrArg (λa=>Z (Ex.norm,MS.mk _ _ a)) g)
 simp -implicitDefEqProofs only [eX,bE,br,mK,ch,av,lD]at m
 simp -implicitDefEqProofs only [m,go_sem,aN,bq]
theorem Ma(n:Nat):∀(es:M (M D)),aw es < n->es.length<=lF->eJ lF 2 es->∀(q:Int),0 < q->q+ch es<=4611686018427387904->iD T 17 J [.list 3 J es] q=Z ([.list 3 J (mK es q)],q+ch es):=by
 induction n with
 |zero=>intro es h;omega
 |succ n f=>
  intro es d hB ok q i g;refine JD es hB ok (λx a=>?_) q i g;obtain⟨e,b,a⟩:=a;have c:=bR (vP a b) (oE d);obtain⟨o,m,l,rfl,r,p,⟨k,j⟩⟩:=mG (ok.mem e b);simp -implicitDefEqProofs only [aI,fR,reduceCtorEq,false_or,or_false,D.list.injEq,true_and]at a
  subst a;exact f _ c k j
theorem qo(es:M (M D))(hB:es.length<=lF)(ok:eJ lF 2 es)(q:Int)(b:0 < q)(a:q+ch es<=4611686018427387904):iD T 17 J [.list 3 J es] q=Z ([.list 3 J (mK es q)],q+ch es):=Ma (aw es+1) es (by omega) hB ok q b a
theorem JB(es:M (M D))(hB:es.length<=lF)(ok:eJ lF 3 es)(h:∀x,(∃e∈es,D.list 4 J x∈e)->∀(q:Int),0 < q->q+ch x<=4611686018427387904->iD T 18 J [.list 4 J x] q=Z ([.list 4 J (mK x q)],q+ch x))(q:Int)(B:0 < q)(A:q+ch es<=4611686018427387904) :
  iD T 18 J [.list 4 J es] q=Z ([.list 4 J (mK es q)],q+ch es):=by
 rw[nf (f:=18) rfl];have m:=vu (T:=T) (own:=I) (k:=4) (body:=Jx) (λi=>⟨⟨[(1,.d (E (q+ch (es.take i)))),(5,.d (E i))],[],[]⟩,[(0,.lst)],mK (es.take i) q++es.drop i⟩) es.length
  (by simp -implicitDefEqProofs only [Jx,eD,aJ,nlt,bo,bJ,go_sem,aN,bq];rfl)
  (by
   intro i b;have c:=dz b;have t1:=jF es (i+1);have t2:=g_ c;obtain⟨y,w,v,j,l,_,H,G,⟨F,C⟩⟩:=oL (ok.JE c);have t3:Cc es[i]=0+1+1+1+ch j:=by rw[l];simp -implicitDefEqProofs only [Cc,D.mn]<;>omega
   have t:=ji (q+(ch (es.take i):Int)+1) (by omega) (by omega);have s:=ji (q+(ch (es.take i):Int)+1+1) (by omega) (by omega);have r:=h j ⟨_,wC c,by rw[l];simp -implicitDefEqProofs only [aI,true_or,or_true]⟩ (q+(ch (es.take i):Int)+1+1+1) (by omega) (by omega);obtain⟨p,o,n,t4⟩:(IntKind.i64.wrap (q+(ch (es.take i):Int)+1)=q+(ch (es.take i):Int)+1)/\(IntKind.i64.wrap (q+(ch (es.take i):Int)+1+1)=q+(ch (es.take i):Int)+1+1)/\(IntKind.i64.wrap (q+(ch (es.take i):Int)+1+1+1)=q+(ch (es.take i):Int)+1+1+1)/\(q+(ch (es.take (i+1)):Int)=q+(ch (es.take i):Int)+1+1+1+(ch j:Int)):=⟨cD (by omega),cD (by omega),cD (by omega),by omega⟩
   have g:=vy q c;rw[l]at c g;simp -implicitDefEqProofs only [S4,D.mk,D.mn,jT]at g
   have i3:(1:Int)<=3:=by omega
   simp -implicitDefEqProofs only [Jx,t,s,r,p,o,n,t4,vz q (mQ b),vA q c,vB q c,tE q b,tD q b,tF q b,b,ZN b,wi b (aH hB (by simp[maxLen,lF])),eo,go_sem,bM,aN,bm,bq]
   exact congrArg (λa=>Z (Ex.norm,MS.mk _ _ a)) g)
 simp -implicitDefEqProofs only [eX,bE,br,mK,ch,av,lD]at m
 simp -implicitDefEqProofs only [m,go_sem,aN,bq]
theorem L8(n:Nat):∀(es:M (M D)),aw es < n->es.length<=lF->eJ lF 3 es->∀(q:Int),0 < q->q+ch es<=4611686018427387904->iD T 18 J [.list 4 J es] q=Z ([.list 4 J (mK es q)],q+ch es):=by
 induction n with
 |zero=>intro es h;omega
 |succ n f=>
  intro es d hB ok q i g;refine JB es hB ok (λx a=>?_) q i g;obtain⟨e,b,a⟩:=a;have c:=bR (vP a b) (oE d);obtain⟨p,o,m,l,rfl,_,s,r,⟨k,j⟩⟩:=oL (ok.mem e b);simp -implicitDefEqProofs only [aI,fR,reduceCtorEq,false_or,or_false,D.list.injEq,true_and]at a
  subst a;exact f _ c k j
theorem Of(es:M (M D))(hB:es.length<=lF)(ok:eJ lF 3 es)(q:Int)(b:0 < q)(a:q+ch es<=4611686018427387904):iD T 18 J [.list 4 J es] q=Z ([.list 4 J (mK es q)],q+ch es):=L8 (aw es+1) es (by omega) hB ok q b a
end
section
open Go.RowKit
theorem IP(es:M (M D))(hB:es.length<=lF)(ok:eJ lF 2 es)(h:∀x,(∃e∈es,D.list 3 J x∈e)->∀(q:Int),0 < q->q+ch x<=4611686018427387904->ej T 21 [.val J [.d (.list 3 J (mK x q))],.val J [.d (E q)]]=Z ([.val J [.d (E (q+ch x))]],[]))(q:Int)(w:0 < q)(v:q+ch es<=4611686018427387904) :
  ej T 21 [.val J [.d (.list 3 J (mK es q))],.val J [.d (E q)]]=Z ([.val J [.d (E (q+ch es))]],[]):=by
 rw[vr (f:=21) rfl rfl];have k:=abJ (T:=T) (mf:=wY) (body:=Jy) (λi=>⟨[(0,.d (.list 3 J (mK es q))),(1,.d (E (q+ch (es.take i)))),(5,.d (E i))],[],[]⟩) es.length (e:=.exit 0) (by simp)
  (by simp -implicitDefEqProofs only [Jy,eD,nlt,bo,go_sem,aN];rfl)
  (by
   intro i c;have b:=dz c;have t1:=jF es (i+1);have t2:=g_ b;obtain⟨t,s,a,j,C,B,⟨A,y⟩⟩:=mG (ok.JE b);have t3:Cc es[i]=0+1+1+ch a:=by rw[j];simp -implicitDefEqProofs only [Cc,D.mn]<;>omega
   have p:=ji (q+(ch (es.take i):Int)) (by omega) (by omega);have o:=ji (q+(ch (es.take i):Int)+1) (by omega) (by omega);have n:=h a ⟨_,wC b,by rw[j];simp -implicitDefEqProofs only [aI,true_or,or_true]⟩ (q+(ch (es.take i):Int)+1+1) (by omega) (by omega);obtain⟨m,l,r,t4⟩:(IntKind.i64.wrap (q+(ch (es.take i):Int)+1)=q+(ch (es.take i):Int)+1)/\(IntKind.i64.wrap (q+(ch (es.take i):Int)+1+1)=q+(ch (es.take i):Int)+1+1)/\(¬(q+(ch (es.take i):Int)+1+1+(ch a:Int) < 0))/\(q+(ch (es.take (i+1)):Int)=q+(ch (es.take i):Int)+1+1+(ch a:Int)):=⟨cD (by omega),cD (by omega),by omega,by omega⟩
   have g:=QR es q i _ b;rw[j]at g;simp -implicitDefEqProofs only [S4,D.mk,D.mn,jT]at g
   have i3:(1:Int)<=3:=by omega
   simp -implicitDefEqProofs only [Jy,p,o,n,m,l,r,t4,eD,g,ZN c,wi c (aH hB (by simp[maxLen,lF])),eo,go_sem,bM,aN,bm])
 simp -implicitDefEqProofs only [eX,bE,ch,lD]at k
 simp -implicitDefEqProofs only [k,go_sem,aN]
theorem Lx(n:Nat):∀(es:M (M D)),aw es < n->es.length<=lF->eJ lF 2 es->∀(q:Int),0 < q->q+ch es<=4611686018427387904->ej T 21 [.val J [.d (.list 3 J (mK es q))],.val J [.d (E q)]]=Z ([.val J [.d (E (q+ch es))]],[]):=by
 induction n with
 |zero=>intro es h;omega
 |succ n g=>
  intro es f hB ok q j i;refine IP es hB ok (λx a=>?_) q j i;obtain⟨e,b,a⟩:=a;have c:=bR (vP a b) (oE f);obtain⟨p,o,m,rfl,s,r,⟨l,k⟩⟩:=mG (ok.mem e b);simp -implicitDefEqProofs only [aI,fR,reduceCtorEq,false_or,or_false,D.list.injEq,true_and]at a
  subst a;exact g _ c l k
theorem DJ(es:M (M D))(hB:es.length<=lF)(ok:eJ lF 2 es)(q:Int)(b:0 < q)(a:q+ch es<=4611686018427387904):ej T 21 [.val J [.d (.list 3 J (mK es q))],.val J [.d (E q)]]=Z ([.val J [.d (E (q+ch es))]],[]):=Lx (aw es+1) es (by omega) hB ok q b a
end
section
section
variable {B:Nat}
theorem Iv{es:M (M D)}(ok:eJ B 0 es):∃a:M z,es=a.map fo:=pB λe b=>by
 obtain⟨x,h,_⟩:=zf (ok.mem e b);exact⟨x,h⟩
theorem RD{es:M (M D)}(ok:eJ B 6 es):∃a:M j6,es=a.map j8:=pB λe b=>by
 obtain⟨x,y,h,_⟩:=pQ (ok.mem e b);exact⟨⟨x,y⟩,h⟩
theorem UJ{es:M (M D)}(ok:eJ B 8 es):∃a:M mA,es=a.map qf:=pB λe b=>by
 obtain⟨x,y,h,_⟩:=sy (ok.mem e b);exact⟨⟨x,y⟩,h⟩
theorem UI{es:M (M D)}(ok:eJ B 9 es):∃a:M yw,es=a.map lu:=pB λe d=>by
 obtain⟨x,y,h,_,_,c⟩:=sx (ok.mem e d);obtain⟨b,rfl⟩:=UJ c;exact⟨⟨x,b⟩,h⟩
theorem NF(m:Nat):∀es:M (M D),aw es < m->eJ B 11 es->∃xs:M dX,es=xs.map cG:=by
 induction m with
 |zero=>intro es h;omega
 |succ m n=>
  intro es r ok;refine pB λe b=>?_;obtain⟨i,g,f,d,c,q,a,h,_,_,_,_,_,⟨_,p⟩,⟨_,o⟩⟩:=oM (ok.mem e b);obtain⟨j,rfl⟩:=UI p;obtain⟨l,rfl⟩:=n a (by have:=iK (k:=7) (fl:=J) (xs:=a) b (by rw[h];simp only[aI,true_or,or_true]);omega) o;exact⟨⟨i,g,f,⟨d,c,j⟩,l⟩,by rw[h,bN]⟩
theorem K0{es:M (M D)}(ok:eJ B 11 es):∃a:M dX,es=a.map cG:=NF _ es (aS _) ok
theorem Iu(m:Nat):∀es:M (M D),aw es < m->eJ B 12 es->∃xs:M ah,es=xs.map ay:=by
 induction m with
 |zero=>intro es h;omega
 |succ m y=>
  intro es S ok;refine pB λe o=>?_;obtain⟨x,w,s,R,Q,r,q,P,N,p,n,l,j,i,g,f,v,t,a,h,_,_,_,⟨_,G⟩,⟨_,F⟩,_,_,⟨_,C⟩,⟨_,A⟩,_,_,_,_,_,_,_,⟨_,K⟩,⟨_,L⟩,⟨_,H⟩⟩:=lT (ok.mem e o);obtain⟨y3,rfl⟩:=RD G;obtain⟨y4,rfl⟩:=Iv F;obtain⟨y7,rfl⟩:=Iv C;obtain⟨y8,rfl⟩:=Iv A;obtain⟨d,rfl⟩:=K0 K;obtain⟨c,rfl⟩:=K0 L;obtain⟨b,rfl⟩:=y a (by have:=iK (k:=19) (fl:=J) (xs:=a) o (by rw[h];simp only[aI,true_or,or_true]);omega) H;exact⟨⟨x,w,⟨s,y3,y4,r,q⟩,y7,y8,p,n,l,j,i,g,f,d,c,b⟩,by rw[h,af]⟩
theorem Df{es:M (M D)}(ok:eJ B 12 es):∃a:M ah,es=a.map ay:=Iu _ es (aS _) ok
theorem NG(m:Nat):∀es:M (M D),aw es < m->eJ B 2 es->∃xs:M aE,es=xs.map bl:=by
 induction m with
 |zero=>intro es h;omega
 |succ m i=>
  intro es j ok;refine pB λe b=>?_;obtain⟨f,d,a,h,_,_,_,c⟩:=mG (ok.mem e b);obtain⟨g,rfl⟩:=i a (by have:=iK (k:=3) (fl:=J) (xs:=a) b (by rw[h];simp only[aI,true_or,or_true]);omega) c;exact⟨⟨f,d,g⟩,by rw[h,aV]⟩
theorem Dd{es:M (M D)}(ok:eJ B 2 es):∃a:M aE,es=a.map bl:=NG _ es (aS _) ok
end
end
section
theorem J1{es:M (M D)}(hB:es.length<=maxLen)(ok:eJ maxLen 0 es):∀l:Int,0<=l->l<=1048576->∃r,G 46 [.list 1 I es,E l]=Z (0,[E r])/\Lz (es.length+qy es) l r:=by
 intro l s o;have w:IntKind.i64.wrap (l - (es.length:Int))=l - (es.length:Int):=wrap_i64 (by simp only[maxLen]at hB;omega);by_cases c:l - (es.length:Int) < 0
 ·exact⟨-1,cN t46 rfl (by simp only[go_sem,t46,w,c]),.inl rfl⟩
 have m:es.length<=mg:=by simp only[mg];omega
 have j:=VI (b:=lB G LR) es (λn i=>(0,[.list 1 I es,E n,E (i:Int)])) (0,[E (-1)]) (λn=>(1,[.list 1 I es,E n,E es.length,.bool J])) (by
  intro i e n d s o;have f:=bw d;have h:=wj f m;have k:=ok.mem e (bp d);obtain⟨a,rfl,t⟩:=zf k;have w:IntKind.i64.wrap (n - (a.size:Int))=n - (a.size:Int):=wrap_i64 (by simp only[maxLen]at t;omega);by_cases c:n - (a.size:Int) < 0
  ·exact .inl (by simp only[go_sem,bK,LR,f,d,h,w,c])
  ·exact .inr ⟨n - (a.size:Int),by omega,by simp only[fm,D.sz];omega,by simp only[go_sem,bK,LR,f,d,h,w,c]⟩
  ) (by
  intro n;simp only[go_sem,bK,LR,aB]) es.length 0 (l - (es.length:Int)) (by omega) (by omega) (by omega)
 rw[n0]at j;rcases j with g|⟨r,p,q,g⟩
 ·exact⟨-1,cN t46 rfl (by simp only[go_sem,t46,w,c,g]),.inl rfl⟩
 ·rw[br]at q;exact⟨r,cN t46 rfl (by simp only[go_sem,t46,w,c,g]),.inr ⟨p,by omega⟩⟩
theorem XD{e:M D}(ok:fL maxLen (lay 2) e)(m:∀b,.list 3 J b∈e->∀l:Int,0<=l->l<=1048576->∃r,G 4 [.list 3 J b,E l]=Z (0,[E r])/\Lz (b.length+qy b) l r):∀l:Int,0<=l->l<=1048576->∃r,G 3 (e++[E l])=Z (0,[E r])/\Lz (fm e) l r:=by
 intro l t s;obtain⟨a,c,k,rfl,p,o,⟨v,j⟩⟩:=mG ok;have d:IntKind.i64.wrap (l - (a.size:Int))=l - (a.size:Int):=wrap_i64 (by simp only[maxLen]at p;omega);by_cases f:l - (a.size:Int) < 0
 ·exact⟨-1,cN t3 rfl (by simp only[go_sem,t3,d,f]),.inl rfl⟩
 have g:IntKind.i64.wrap ((l - (a.size:Int)) - (c.size:Int))=(l - (a.size:Int)) - (c.size:Int):=wrap_i64 (by simp only[maxLen]at o;omega);by_cases c1:(l - (a.size:Int)) - (c.size:Int) < 0
 ·exact⟨-1,cN t3 rfl (by simp only[go_sem,t3,d,f,g,c1]),.inl rfl⟩
 obtain⟨h,i,n⟩:=m k (by simp only[aI,true_or,or_true]) ((l - (a.size:Int)) - (c.size:Int)) (by omega) (by omega);rcases n with rfl|⟨q,q2⟩
 ·exact⟨-1,cN t3 rfl (by simp only[go_sem,t3,d,f,g,c1,i]),.inl rfl⟩
 have j:¬h < 0:=by omega
 exact⟨h,cN t3 rfl (by simp only[go_sem,t3,d,f,g,c1,i,j]),.inr ⟨by omega,by simp only[fm,D.sz];omega⟩⟩
theorem OY{es:M (M D)}(hB:es.length<=maxLen)(ok:eJ maxLen 2 es)(a:∀e∈es,∀l:Int,0<=l->l<=1048576->∃r,G 3 (e++[E l])=Z (0,[E r])/\Lz (fm e) l r):∀l:Int,0<=l->l<=1048576->∃r,G 4 [.list 3 J es,E l]=Z (0,[E r])/\Lz (es.length+qy es) l r:=by
 intro l c b;obtain⟨r,h,p⟩:=wK (F:=G) (k:=3) (g:=3) (fl:=J) hB (λe h=>lC (ok.mem e h)) a c b;exact⟨r,cN t4 rfl h,p⟩
theorem OX(m:Nat):∀es:M (M D),aw es < m->es.length<=maxLen->eJ maxLen 2 es->∀l:Int,0<=l->l<=1048576->∃r,G 4 [.list 3 J es,E l]=Z (0,[E r])/\Lz (es.length+qy es) l r:=by
 induction m with
 |zero=>intro es h;omega
 |succ m g=>
  intro es i hB ok;refine OY hB ok λe a=>XD (ok.mem e a) λf d=>?_;obtain⟨b,c⟩:=DY (ok.mem e a) d;exact g f (by have:=iK a d;omega) b c
theorem Fz{es:M (M D)}(hB:es.length<=maxLen)(ok:eJ maxLen 2 es):∀l:Int,0<=l->l<=1048576->∃r,G 4 [.list 3 J es,E l]=Z (0,[E r])/\Lz (es.length+qy es) l r:=OX _ es (aS _) hB ok
theorem XB{e:M D}(ok:fL maxLen (lay 3) e)(m:∀b,.list 4 J b∈e->∀l:Int,0<=l->l<=1048576->∃r,G 27 [.list 4 J b,E l]=Z (0,[E r])/\Lz (b.length+qy b) l r):∀l:Int,0<=l->l<=1048576->∃r,G 26 (e++[E l])=Z (0,[E r])/\Lz (fm e) l r:=by
 intro l w v;obtain⟨q,a,c,k,rfl,_,p,o,⟨x,j⟩⟩:=oL ok;have d:IntKind.i64.wrap (l - (a.size:Int))=l - (a.size:Int):=wrap_i64 (by simp only[maxLen]at p;omega);by_cases c1:l - (a.size:Int) < 0
 ·exact⟨-1,cN t26 rfl (by simp only[go_sem,t26,d,c1]),.inl rfl⟩
 have f:IntKind.i64.wrap ((l - (a.size:Int)) - (c.size:Int))=(l - (a.size:Int)) - (c.size:Int):=wrap_i64 (by simp only[maxLen]at o;omega);by_cases g:(l - (a.size:Int)) - (c.size:Int) < 0
 ·exact⟨-1,cN t26 rfl (by simp only[go_sem,t26,d,c1,f,g]),.inl rfl⟩
 obtain⟨h,i,n⟩:=m k (by simp only[aI,true_or,or_true]) ((l - (a.size:Int)) - (c.size:Int)) (by omega) (by omega);rcases n with rfl|⟨t,s⟩
 ·exact⟨-1,cN t26 rfl (by simp only[go_sem,t26,d,c1,f,g,i]),.inl rfl⟩
 have j:¬h < 0:=by omega
 exact⟨h,cN t26 rfl (by simp only[go_sem,t26,d,c1,f,g,i,j]),.inr ⟨by omega,by simp only[fm,D.sz];omega⟩⟩
theorem OU{es:M (M D)}(hB:es.length<=maxLen)(ok:eJ maxLen 3 es)(a:∀e∈es,∀l:Int,0<=l->l<=1048576->∃r,G 26 (e++[E l])=Z (0,[E r])/\Lz (fm e) l r):∀l:Int,0<=l->l<=1048576->∃r,G 27 [.list 4 J es,E l]=Z (0,[E r])/\Lz (es.length+qy es) l r:=by
 intro l c b;obtain⟨r,h,p⟩:=wK (F:=G) (k:=4) (g:=26) (fl:=J) hB (λe h=>lC (ok.mem e h)) a c b;exact⟨r,cN t27 rfl h,p⟩
theorem OT(m:Nat):∀es:M (M D),aw es < m->es.length<=maxLen->eJ maxLen 3 es->∀l:Int,0<=l->l<=1048576->∃r,G 27 [.list 4 J es,E l]=Z (0,[E r])/\Lz (es.length+qy es) l r:=by
 induction m with
 |zero=>intro es h;omega
 |succ m g=>
  intro es i hB ok;refine OU hB ok λe a=>XB (ok.mem e a) λf d=>?_;obtain⟨b,c⟩:=DW (ok.mem e a) d;exact g f (by have:=iK a d;omega) b c
theorem XI{es:M (M D)}(hB:es.length<=maxLen)(ok:eJ maxLen 3 es):∀l:Int,0<=l->l<=1048576->∃r,G 27 [.list 4 J es,E l]=Z (0,[E r])/\Lz (es.length+qy es) l r:=OT _ es (aS _) hB ok
theorem Tm{es:M (M D)}(hB:es.length<=maxLen)(ok:eJ maxLen 6 es):∀l:Int,0<=l->l<=1048576->∃r,G 45 [.list 2 I es,E l]=Z (0,[E r])/\Lz (es.length+qy es) l r:=by
 intro l j i;have w:IntKind.i64.wrap (l - (es.length:Int))=l - (es.length:Int):=wrap_i64 (by simp only[maxLen]at hB;omega);by_cases c:l - (es.length:Int) < 0
 ·exact⟨-1,cN t45 rfl (by simp only[go_sem,t45,w,c]),.inl rfl⟩
 have a:qy es=0:=by
  clear hB w c
  induction es with
  |nil=>rfl
  |cons e es f=>
   simp only[eJ]at ok;obtain⟨d,b⟩:=ok;obtain⟨h,g,rfl,_,_⟩:=pQ d;simp only[qy,fm,D.sz,f b]
 exact⟨l - (es.length:Int),cN t45 rfl (by simp only[go_sem,t45,w,c]),.inr ⟨by omega,by omega⟩⟩
theorem XH{e:M D}(ok:fL maxLen (lay 7) e):∀l:Int,0<=l->l<=1048576->∃r,G 47 (e++[E l])=Z (0,[E r])/\Lz (fm e) l r:=by
 intro l B m;obtain⟨x,w,v,b,f,rfl,_,⟨t,c1⟩,⟨s,d⟩,q,p⟩:=DP ok;obtain⟨k,c,m⟩:=Tm t c1 l (by omega) (by omega);rcases m with rfl|⟨A,q1⟩
 ·exact⟨-1,cN t47 rfl (by simp only[go_sem,t47,c]),.inl rfl⟩
 have c1:¬k < 0:=by omega
 obtain⟨a,g,o⟩:=J1 s d k (by omega) (by omega);rcases o with rfl|⟨y,q2⟩
 ·exact⟨-1,cN t47 rfl (by simp only[go_sem,t47,c,c1,g]),.inl rfl⟩
 have d:¬a < 0:=by omega
 have h:IntKind.i64.wrap (a - (b.size:Int))=a - (b.size:Int):=wrap_i64 (by simp only[maxLen]at q;omega);by_cases i:a - (b.size:Int) < 0
 ·exact⟨-1,cN t47 rfl (by simp only[go_sem,t47,c,c1,g,d,h,i]),.inl rfl⟩
 have j:IntKind.i64.wrap ((a - (b.size:Int)) - (f.size:Int))=(a - (b.size:Int)) - (f.size:Int):=wrap_i64 (by simp only[maxLen]at p;omega);by_cases n:(a - (b.size:Int)) - (f.size:Int) < 0
 ·exact⟨-1,cN t47 rfl (by simp only[go_sem,t47,c,c1,g,d,h,i,j,n]),.inl rfl⟩
 exact⟨((a - (b.size:Int)) - (f.size:Int)),cN t47 rfl (by simp only[go_sem,t47,c,c1,g,d,h,i,j,n]),.inr ⟨by omega,by simp only[fm,D.sz];omega⟩⟩
theorem XG{e:M D}(ok:fL maxLen (lay 8) e):∀l:Int,0<=l->l<=1048576->∃r,G 48 (e++[E l])=Z (0,[E r])/\Lz (fm e) l r:=by
 intro l j i;obtain⟨a,b,rfl,h,g⟩:=sy ok;have c:IntKind.i64.wrap (l - (a.size:Int))=l - (a.size:Int):=wrap_i64 (by simp only[maxLen]at h;omega);by_cases d:l - (a.size:Int) < 0
 ·exact⟨-1,cN t48 rfl (by simp only[go_sem,t48,c,d]),.inl rfl⟩
 have f:IntKind.i64.wrap ((l - (a.size:Int)) - (b.size:Int))=(l - (a.size:Int)) - (b.size:Int):=wrap_i64 (by simp only[maxLen]at g;omega);by_cases c1:(l - (a.size:Int)) - (b.size:Int) < 0
 ·exact⟨-1,cN t48 rfl (by simp only[go_sem,t48,c,d,f,c1]),.inl rfl⟩
 exact⟨((l - (a.size:Int)) - (b.size:Int)),cN t48 rfl (by simp only[go_sem,t48,c,d,f,c1]),.inr ⟨by omega,by simp only[fm,D.sz];omega⟩⟩
theorem O0{es:M (M D)}(hB:es.length<=maxLen)(ok:eJ maxLen 8 es)(a:∀e∈es,∀l:Int,0<=l->l<=1048576->∃r,G 48 (e++[E l])=Z (0,[E r])/\Lz (fm e) l r):∀l:Int,0<=l->l<=1048576->∃r,G 49 [.list 2 I es,E l]=Z (0,[E r])/\Lz (es.length+qy es) l r:=by
 intro l c b;obtain⟨r,h,p⟩:=wK (F:=G) (k:=2) (g:=48) (fl:=I) hB (λe h=>lC (ok.mem e h)) a c b;exact⟨r,cN t49 rfl h,p⟩
theorem XK{es:M (M D)}(hB:es.length<=maxLen)(ok:eJ maxLen 8 es):∀l:Int,0<=l->l<=1048576->∃r,G 49 [.list 2 I es,E l]=Z (0,[E r])/\Lz (es.length+qy es) l r:=O0 hB ok λe a=>XG (ok.mem e a)
theorem XF{e:M D}(ok:fL maxLen (lay 9) e):∀l:Int,0<=l->l<=1048576->∃r,G 50 (e++[E l])=Z (0,[E r])/\Lz (fm e) l r:=by
 intro l m f;obtain⟨a,j,rfl,i,⟨h,c1⟩⟩:=sx ok;have b:IntKind.i64.wrap (l - (a.size:Int))=l - (a.size:Int):=wrap_i64 (by simp only[maxLen]at i;omega);by_cases c:l - (a.size:Int) < 0
 ·exact⟨-1,cN t50 rfl (by simp only[go_sem,t50,b,c]),.inl rfl⟩
 obtain⟨d,g,f⟩:=XK h c1 (l - (a.size:Int)) (by omega) (by omega);rcases f with rfl|⟨k,q1⟩
 ·exact⟨-1,cN t50 rfl (by simp only[go_sem,t50,b,c,g]),.inl rfl⟩
 have c1:¬d < 0:=by omega
 exact⟨d,cN t50 rfl (by simp only[go_sem,t50,b,c,g,c1]),.inr ⟨by omega,by simp only[fm,D.sz];omega⟩⟩
theorem OZ{es:M (M D)}(hB:es.length<=maxLen)(ok:eJ maxLen 9 es)(a:∀e∈es,∀l:Int,0<=l->l<=1048576->∃r,G 50 (e++[E l])=Z (0,[E r])/\Lz (fm e) l r):∀l:Int,0<=l->l<=1048576->∃r,G 51 [.list 2 J es,E l]=Z (0,[E r])/\Lz (es.length+qy es) l r:=by
 intro l c b;obtain⟨r,h,p⟩:=wK (F:=G) (k:=2) (g:=50) (fl:=J) hB (λe h=>lC (ok.mem e h)) a c b;exact⟨r,cN t51 rfl h,p⟩
theorem XJ{es:M (M D)}(hB:es.length<=maxLen)(ok:eJ maxLen 9 es):∀l:Int,0<=l->l<=1048576->∃r,G 51 [.list 2 J es,E l]=Z (0,[E r])/\Lz (es.length+qy es) l r:=OZ hB ok λe a=>XF (ok.mem e a)
theorem XE{e:M D}(ok:fL maxLen (lay 10) e):∀l:Int,0<=l->l<=1048576->∃r,G 52 (e++[E l])=Z (0,[E r])/\Lz (fm e) l r:=by
 intro l m k;obtain⟨i,h,g,rfl,_,_,⟨f,a⟩⟩:=DO ok;obtain⟨b,c,d⟩:=XJ f a l (by omega) (by omega);rcases d with rfl|⟨j,q2⟩
 ·exact⟨-1,cN t52 rfl (by simp only[go_sem,t52,c]),.inl rfl⟩
 have a:¬b < 0:=by omega
 exact⟨b,cN t52 rfl (by simp only[go_sem,t52,c,a]),.inr ⟨by omega,by simp only[fm,D.sz];omega⟩⟩
theorem XC{e:M D}(ok:fL maxLen (lay 11) e)(p:∀a,.list 7 J a∈e->∀l:Int,0<=l->l<=1048576->∃r,G 54 [.list 7 J a,E l]=Z (0,[E r])/\Lz (a.length+qy a) l r):∀l:Int,0<=l->l<=1048576->∃r,G 53 (e++[E l])=Z (0,[E r])/\Lz (fm e) l r:=by
 intro l H F;obtain⟨y,x,b,w,v,t,n,rfl,_,_,s,_,_,⟨N,K⟩,⟨L,k⟩⟩:=oM ok;have c:IntKind.i64.wrap (l - (b.size:Int))=l - (b.size:Int):=wrap_i64 (by simp only[maxLen]at s;omega);by_cases f:l - (b.size:Int) < 0
 ·exact⟨-1,cN t53 rfl (by simp only[go_sem,t53,c,f]),.inl rfl⟩
 obtain⟨h,d,i⟩:=XE (fL.sub 3 3 ok) (l - (b.size:Int)) (by omega) (by omega);simp only[ja,br,dy,bE,au,av]at d i;rcases i with rfl|⟨C,o⟩
 ·exact⟨-1,cN t53 rfl (by simp only[go_sem,t53,c,f,d]),.inl rfl⟩
 have m:¬h < 0:=by omega
 simp only[fm,D.sz]at o;obtain⟨g,j,q⟩:=p n (by simp only[aI,true_or,or_true]) h (by omega) (by omega);rcases q with rfl|⟨B,A⟩
 ·exact⟨-1,cN t53 rfl (by simp only[go_sem,t53,c,f,d,m,j]),.inl rfl⟩
 have k:¬g < 0:=by omega
 exact⟨g,cN t53 rfl (by simp only[go_sem,t53,c,f,d,m,j,k]),.inr ⟨by omega,by simp only[fm,D.sz];omega⟩⟩
theorem OW{es:M (M D)}(hB:es.length<=maxLen)(ok:eJ maxLen 11 es)(a:∀e∈es,∀l:Int,0<=l->l<=1048576->∃r,G 53 (e++[E l])=Z (0,[E r])/\Lz (fm e) l r):∀l:Int,0<=l->l<=1048576->∃r,G 54 [.list 7 J es,E l]=Z (0,[E r])/\Lz (es.length+qy es) l r:=by
 intro l c b;obtain⟨r,h,p⟩:=wK (F:=G) (k:=7) (g:=53) (fl:=J) hB (λe h=>lC (ok.mem e h)) a c b;exact⟨r,cN t54 rfl h,p⟩
theorem OV(m:Nat):∀es:M (M D),aw es < m->es.length<=maxLen->eJ maxLen 11 es->∀l:Int,0<=l->l<=1048576->∃r,G 54 [.list 7 J es,E l]=Z (0,[E r])/\Lz (es.length+qy es) l r:=by
 induction m with
 |zero=>intro es h;omega
 |succ m g=>
  intro es i hB ok;refine OW hB ok λe a=>XC (ok.mem e a) λf d=>?_;obtain⟨b,c⟩:=DX (ok.mem e a) d;exact g f (by have:=iK a d;omega) b c
theorem MM{es:M (M D)}(hB:es.length<=maxLen)(ok:eJ maxLen 11 es):∀l:Int,0<=l->l<=1048576->∃r,G 54 [.list 7 J es,E l]=Z (0,[E r])/\Lz (es.length+qy es) l r:=OV _ es (aS _) hB ok
theorem OS{e:M D}(ok:fL maxLen (lay 12) e)(ih:∀v,.list 19 J v∈e->∀l:Int,0<=l->l<=1048576->∃r,G 56 [.list 19 J v,E l]=Z (0,[E r])/\Lz (v.length+qy v) l r):∀l:Int,0<=l->l<=1048576->∃r,G 55 (e++[E l])=Z (0,[E r])/\Lz (fm e) l r:=by
 intro l h0 h1;obtain⟨x0,x,x2,x3,x4,x5,x6,x7,x8,w,W,V,U,T,S,R,Q,P,A,rfl,_,b1,_,⟨b3,c3⟩,⟨b4,c4⟩,b5,b6,⟨b7,d⟩,⟨b8,h⟩,b9,_,_,_,_,_,_,⟨TF,t⟩,⟨TG,y⟩,⟨Yt,N⟩⟩:=lT ok;have a:IntKind.i64.wrap (l - (x.size:Int))=l - (x.size:Int):=wrap_i64 (by simp only[maxLen]at b1;omega);by_cases c1:l - (x.size:Int) < 0
 ·exact⟨-1,cN t55 rfl (by simp only[go_sem,t55,a,c1]),.inl rfl⟩
 obtain⟨K,b,L⟩:=XH (fL.sub 2 5 ok) (l - (x.size:Int)) (by omega) (by omega);simp only[ja,br,dy,bE,au,av]at b L;rcases L with rfl|⟨p2,q2⟩
 ·exact⟨-1,cN t55 rfl (by simp only[go_sem,t55,a,c1,b]),.inl rfl⟩
 have i:¬K < 0:=by omega
 simp only[fm,D.sz]at q2;obtain⟨H,f,h7⟩:=J1 b7 d K (by omega) (by omega);rcases h7 with rfl|⟨p7,q7⟩
 ·exact⟨-1,cN t55 rfl (by simp only[go_sem,t55,a,c1,b,i,f]),.inl rfl⟩
 have d:¬H < 0:=by omega
 obtain⟨m,j,h8⟩:=J1 b8 h H (by omega) (by omega);rcases h8 with rfl|⟨p8,q8⟩
 ·exact⟨-1,cN t55 rfl (by simp only[go_sem,t55,a,c1,b,i,f,d,j]),.inl rfl⟩
 have h:¬m < 0:=by omega
 have k:IntKind.i64.wrap (m - (w.size:Int))=m - (w.size:Int):=wrap_i64 (by simp only[maxLen]at b9;omega);by_cases s:m - (w.size:Int) < 0
 ·exact⟨-1,cN t55 rfl (by simp only[go_sem,t55,a,c1,b,i,f,d,j,h,k,s]),.inl rfl⟩
 obtain⟨p,c,F⟩:=MM TF t (m - (w.size:Int)) (by omega) (by omega);rcases F with rfl|⟨p16,q16⟩
 ·exact⟨-1,cN t55 rfl (by simp only[go_sem,t55,a,c1,b,i,f,d,j,h,k,s,c]),.inl rfl⟩
 have t:¬p < 0:=by omega
 obtain⟨o,g,C⟩:=MM TG y p (by omega) (by omega);rcases C with rfl|⟨p17,Y⟩
 ·exact⟨-1,cN t55 rfl (by simp only[go_sem,t55,a,c1,b,i,f,d,j,h,k,s,c,t,g]),.inl rfl⟩
 have y:¬o < 0:=by omega
 obtain⟨n,q,B⟩:=ih A (by simp only[aI,true_or,or_true]) o (by omega) (by omega);rcases B with rfl|⟨p18,X⟩
 ·exact⟨-1,cN t55 rfl (by simp only[go_sem,t55,a,c1,b,i,f,d,j,h,k,s,c,t,g,y,q]),.inl rfl⟩
 have N:¬n < 0:=by omega
 exact⟨n,cN t55 rfl (by simp only[go_sem,t55,a,c1,b,i,f,d,j,h,k,s,c,t,g,y,q,N]),.inr ⟨by omega,by simp only[fm,D.sz];omega⟩⟩
theorem J0{es:M (M D)}(hB:es.length<=maxLen)(ok:eJ maxLen 12 es)(a:∀e∈es,∀l:Int,0<=l->l<=1048576->∃r,G 55 (e++[E l])=Z (0,[E r])/\Lz (fm e) l r):∀l:Int,0<=l->l<=1048576->∃r,G 56 [.list 19 J es,E l]=Z (0,[E r])/\Lz (es.length+qy es) l r:=by
 intro l c b;obtain⟨r,h,p⟩:=wK (F:=G) (k:=19) (g:=55) (fl:=J) hB (λe h=>lC (ok.mem e h)) a c b;exact⟨r,cN t56 rfl h,p⟩
theorem JZ(m:Nat):∀es:M (M D),aw es < m->es.length<=maxLen->eJ maxLen 12 es->∀l:Int,0<=l->l<=1048576->∃r,G 56 [.list 19 J es,E l]=Z (0,[E r])/\Lz (es.length+qy es) l r:=by
 induction m with
 |zero=>intro es h;omega
 |succ m g=>
  intro es i hB ok;refine J0 hB ok λe a=>OS (ok.mem e a) λf d=>?_;obtain⟨b,c⟩:=xL (ok.mem e a) d;exact g f (by have:=iK a d;omega) b c
theorem FA{es:M (M D)}(hB:es.length<=maxLen)(ok:eJ maxLen 12 es):∀l:Int,0<=l->l<=1048576->∃r,G 56 [.list 19 J es,E l]=Z (0,[E r])/\Lz (es.length+qy es) l r:=JZ _ es (aS _) hB ok
end
section
theorem J9{es:M (M D)}(l:es.length<=mg)(ok:eJ mg 0 es):G 61 [.list 1 I es]=Z (0,[.list 1 I es]):=by
 have h:=BE (b:=lB G Qr) es (([zS []]:M SK).map SK.d) (λi a=>(0,[.list 1 I es,E (i:Int),.list 1 I a])) (λa=>(0,[.list 1 I es,E es.length,.bool J,.list 1 I a])) (by
  intro i e a f j;have m:=bw f;have o:=wj m l;have n:=ok.mem e (bp f);obtain⟨c,rfl,v⟩:=zf n;have s:=lZ 1 I a i (bw j);have p:=vK (fl:=I) (k:=1) (ds:=[.str c]) j rfl rfl (λ_=>rfl);have r:aU (.has 1) [.list 0 J [[.str c]]]=Z (.bool J):=rfl;have q:aU .pl [.str c]=Z (.bool J):=rfl;simp only[go_sem,bK,Qr,m,f,r,o,s,p,q]) (by
  intro a;simp only[go_sem,bK,Qr,aB])
 have g:=λby_ t=>q_ (k:=1) (fl:=I) (by_:=by_) (zs:=[zS []]) l t;have g:=g 16 (by omega);rw[n0]at h;simp only[go_sem]at h;exact cN t61 rfl (by simp only[go_sem,t61,g,h])
theorem IE{es:M (M D)}(j:es.length<=mg)(ok:eJ mg 0 es):G 110 [.list 1 I es,.list 1 I es]=Z (0,[.bool I]):=by
 have h:=mU (b:=lB G IZ) es (λi=>(0,[.list 1 I es,.list 1 I es,E (i:Int)])) (λ_=>I) (1,[.list 1 I es,.list 1 I es,E es.length,.bool J]) (0,[.bool J]) (by
  intro i e a;have c:=bw a;have g:=wj c j;have f:=ok.mem e (bp a);obtain⟨d,rfl,m⟩:=zf f;have k:aU (.has 1) [.list 0 J [[.str d]]]=Z (.bool J):=rfl;simp only[go_sem,bK,IZ,c,a,k,g,ne_self]) (by simp only[go_sem,bK,IZ,aB])
 rw[n0]at h;have l:(es.all λ_=>I)=I:=by simp
 rw[l]at h;simp only[go_sem]at h;exact cN t110 rfl (by simp only[go_sem,t110,h,ne_self])
theorem XU{e:M D}(ok:fL mg (lay 2) e)(c:∀a,.list 3 J a∈e->G 6 [.list 3 J a]=Z (0,[.list 3 J a])):G 5 e=Z (0,e):=by
 obtain⟨g,f,b,rfl,k,j,⟨i,h⟩⟩:=mG ok;have d:=c b (by simp only[aI,true_or,or_true]);exact cN t5 rfl (by simp only[go_sem,t5,d])
theorem Pd{es:M (M D)}(o:es.length<=mg)(ok:eJ mg 2 es)(w:∀e∈es,G 5 e=Z (0,e)):G 6 [.list 3 J es]=Z (0,[.list 3 J es]):=by
 have h:=BE (b:=lB G aae) es (([zS [],zS [],zL 3 J]:M SK).map SK.d) (λi a=>(0,[.list 3 J es,E (i:Int),.list 3 J a])) (λa=>(0,[.list 3 J es,E es.length,.bool J,.list 3 J a])) (by
  intro i e a c n;have p:=bw c;have r:=wj p o;have q:=ok.mem e (bp c);have f:=w e (bp c);obtain⟨j,g,m,rfl,F,C,⟨B,A⟩⟩:=mG q;have x:=lZ 3 J a i (bw n);have s:=vK (fl:=J) (k:=3) (ds:=[.str j,.str g,.list 3 J m]) n rfl rfl (λh=>by cases h);have v:aU (.has 3) [.list 0 J [[.str j,.str g,.list 3 J m]]]=Z (.bool J):=rfl;have t:aU .pl [.str j,.str g]=Z (.bool J):=rfl;simp only[go_sem,bK,aae,p,c,v,f,r,x,s,t]) (by
  intro a;simp only[go_sem,bK,aae,aB])
 have l:=λby_ y=>q_ (k:=3) (fl:=J) (by_:=by_) (zs:=[zS [],zS [],zL 3 J]) o y;have l:=l 56 (by omega);rw[n0]at h;simp only[go_sem]at h;exact cN t6 rfl (by simp only[go_sem,t6,l,h])
theorem Pc(m:Nat):∀es:M (M D),aw es < m->es.length<=mg->eJ mg 2 es->G 6 [.list 3 J es]=Z (0,[.list 3 J es]):=by
 induction m with
 |zero=>intro es h;omega
 |succ m g=>
  intro es i hB ok;refine Pd hB ok λe a=>XU (ok.mem e a) λf d=>?_;obtain⟨b,c⟩:=DY (ok.mem e a) d;exact g f (by have:=iK a d;omega) b c
theorem FD{es:M (M D)}(hB:es.length<=mg)(ok:eJ mg 2 es):G 6 [.list 3 J es]=Z (0,[.list 3 J es]):=Pc _ es (aS _) hB ok
theorem U8{e:M D}(ok:fL mg (lay 2) e)(c:∀a,.list 3 J a∈e->G 10 [.list 3 J a,.list 3 J a]=Z (0,[.bool I])):G 9 (e++e)=Z (0,[.bool I]):=by
 obtain⟨g,f,b,rfl,k,j,⟨i,h⟩⟩:=mG ok;have d:=c b (by simp only[aI,true_or,or_true]);exact cN t9 rfl (by simp only[go_sem,t9,d,ne_self])
theorem NP{es:M (M D)}(a:es.length<=mg)(ok:eJ mg 2 es)(b:∀e∈es,G 9 (e++e)=Z (0,[.bool I])):G 10 [.list 3 J es,.list 3 J es]=Z (0,[.bool I]):=by
 exact cN t10 rfl (tg (k:=3) (g:=9) (fl:=J) a (λe h=>lC (ok.mem e h)) b)
theorem NO(m:Nat):∀es:M (M D),aw es < m->es.length<=mg->eJ mg 2 es->G 10 [.list 3 J es,.list 3 J es]=Z (0,[.bool I]):=by
 induction m with
 |zero=>intro es h;omega
 |succ m g=>
  intro es i hB ok;refine NP hB ok λe a=>U8 (ok.mem e a) λf d=>?_;obtain⟨b,c⟩:=DY (ok.mem e a) d;exact g f (by have:=iK a d;omega) b c
theorem uW{es:M (M D)}(hB:es.length<=mg)(ok:eJ mg 2 es):G 10 [.list 3 J es,.list 3 J es]=Z (0,[.bool I]):=NO _ es (aS _) hB ok
theorem XR{e:M D}(ok:fL mg (lay 3) e)(c:∀a,.list 4 J a∈e->G 32 [.list 4 J a]=Z (0,[.list 4 J a])):G 31 e=Z (0,e):=by
 obtain⟨h,g,f,b,rfl,_,l,k,⟨j,i⟩⟩:=oL ok;have d:=c b (by simp only[aI,true_or,or_true]);exact cN t31 rfl (by simp only[go_sem,t31,d])
theorem O_{es:M (M D)}(p:es.length<=mg)(ok:eJ mg 3 es)(x:∀e∈es,G 31 e=Z (0,e)):G 32 [.list 4 J es]=Z (0,[.list 4 J es]):=by
 have h:=BE (b:=lB G Qp) es (([zI 0,zS [],zS [],zL 4 J]:M SK).map SK.d) (λi a=>(0,[.list 4 J es,E (i:Int),.list 4 J a])) (λa=>(0,[.list 4 J es,E es.length,.bool J,.list 4 J a])) (by
  intro i e a c o;have q:=bw c;have s:=wj q p;have r:=ok.mem e (bp c);have f:=x e (bp c);obtain⟨l,j,g,n,rfl,_,H,F,⟨C,B⟩⟩:=oL r;have y:=lZ 4 J a i (bw o);have t:=vK (fl:=J) (k:=4) (ds:=[E l,.str j,.str g,.list 4 J n]) o rfl rfl (λh=>by cases h);have w:aU (.has 4) [.list 0 J [[E l,.str j,.str g,.list 4 J n]]]=Z (.bool J):=rfl;have v:aU .pl [E l,.str j,.str g]=Z (.bool J):=rfl;simp only[go_sem,bK,Qp,q,c,w,f,s,y,t,v]) (by
  intro a;simp only[go_sem,bK,Qp,aB])
 have m:=λby_ A=>q_ (k:=4) (fl:=J) (by_:=by_) (zs:=[zI 0,zS [],zS [],zL 4 J]) p A;have m:=m 64 (by omega);rw[n0]at h;simp only[go_sem]at h;exact cN t32 rfl (by simp only[go_sem,t32,m,h])
theorem O9(m:Nat):∀es:M (M D),aw es < m->es.length<=mg->eJ mg 3 es->G 32 [.list 4 J es]=Z (0,[.list 4 J es]):=by
 induction m with
 |zero=>intro es h;omega
 |succ m g=>
  intro es i hB ok;refine O_ hB ok λe a=>XR (ok.mem e a) λf d=>?_;obtain⟨b,c⟩:=DW (ok.mem e a) d;exact g f (by have:=iK a d;omega) b c
theorem XZ{es:M (M D)}(hB:es.length<=mg)(ok:eJ mg 3 es):G 32 [.list 4 J es]=Z (0,[.list 4 J es]):=O9 _ es (aS _) hB ok
theorem U6{e:M D}(ok:fL mg (lay 3) e)(c:∀a,.list 4 J a∈e->G 12 [.list 4 J a,.list 4 J a]=Z (0,[.bool I])):G 11 (e++e)=Z (0,[.bool I]):=by
 obtain⟨h,g,f,b,rfl,_,l,k,⟨j,i⟩⟩:=oL ok;have d:=c b (by simp only[aI,true_or,or_true]);exact cN t11 rfl (by simp only[go_sem,t11,d,ne_self])
theorem NK{es:M (M D)}(a:es.length<=mg)(ok:eJ mg 3 es)(b:∀e∈es,G 11 (e++e)=Z (0,[.bool I])):G 12 [.list 4 J es,.list 4 J es]=Z (0,[.bool I]):=by
 exact cN t12 rfl (tg (k:=4) (g:=11) (fl:=J) a (λe h=>lC (ok.mem e h)) b)
theorem NJ(m:Nat):∀es:M (M D),aw es < m->es.length<=mg->eJ mg 3 es->G 12 [.list 4 J es,.list 4 J es]=Z (0,[.bool I]):=by
 induction m with
 |zero=>intro es h;omega
 |succ m g=>
  intro es i hB ok;refine NK hB ok λe a=>U6 (ok.mem e a) λf d=>?_;obtain⟨b,c⟩:=DW (ok.mem e a) d;exact g f (by have:=iK a d;omega) b c
theorem Vc{es:M (M D)}(hB:es.length<=mg)(ok:eJ mg 3 es):G 12 [.list 4 J es,.list 4 J es]=Z (0,[.bool I]):=NJ _ es (aS _) hB ok
theorem Tu{e:M D}(ok:fL mg (lay 6) e):G 59 e=Z (0,e):=by
 obtain⟨b,a,rfl,_,_⟩:=pQ ok;exact cN t59 rfl (by simp only[go_sem,t59,])
theorem MP{es:M (M D)}(n:es.length<=mg)(ok:eJ mg 6 es)(v:∀e∈es,G 59 e=Z (0,e)):G 60 [.list 2 I es]=Z (0,[.list 2 I es]):=by
 have h:=BE (b:=lB G Qq) es (([zI 0,zI 0]:M SK).map SK.d) (λi a=>(0,[.list 2 I es,E (i:Int),.list 2 I a])) (λa=>(0,[.list 2 I es,E es.length,.bool J,.list 2 I a])) (by
  intro i e a c m;have o:=bw c;have q:=wj o n;have p:=ok.mem e (bp c);have f:=v e (bp c);obtain⟨j,g,rfl,_,_⟩:=pQ p;have w:=lZ 2 I a i (bw m);have r:=vK (fl:=I) (k:=2) (ds:=[E j,E g]) m rfl rfl (λ_=>rfl);have t:aU (.has 2) [.list 0 J [[E j,E g]]]=Z (.bool J):=rfl;have s:aU .pl [E j,E g]=Z (.bool J):=rfl;simp only[go_sem,bK,Qq,o,c,t,f,q,w,r,s]) (by
  intro a;simp only[go_sem,bK,Qq,aB])
 have l:=λby_ x=>q_ (k:=2) (fl:=I) (by_:=by_) (zs:=[zI 0,zI 0]) n x;have l:=l 16 (by omega);rw[n0]at h;simp only[go_sem]at h;exact cN t60 rfl (by simp only[go_sem,t60,l,h])
theorem Tv{es:M (M D)}(hB:es.length<=mg)(ok:eJ mg 6 es):G 60 [.list 2 I es]=Z (0,[.list 2 I es]):=MP hB ok λe a=>Tu (ok.mem e a)
theorem RI{e:M D}(ok:fL mg (lay 6) e):G 108 (e++e)=Z (0,[.bool I]):=by
 obtain⟨b,a,rfl,_,_⟩:=pQ ok;exact cN t108 rfl (by simp only[go_sem,t108,ne_self])
theorem Lc{es:M (M D)}(a:es.length<=mg)(ok:eJ mg 6 es)(b:∀e∈es,G 108 (e++e)=Z (0,[.bool I])):G 109 [.list 2 I es,.list 2 I es]=Z (0,[.bool I]):=by
 exact cN t109 rfl (tg (k:=2) (g:=108) (fl:=I) a (λe h=>lC (ok.mem e h)) b)
theorem RJ{es:M (M D)}(hB:es.length<=mg)(ok:eJ mg 6 es):G 109 [.list 2 I es,.list 2 I es]=Z (0,[.bool I]):=Lc hB ok λe a=>RI (ok.mem e a)
theorem XY{e:M D}(ok:fL mg (lay 7) e):G 62 e=Z (0,e):=by
 obtain⟨k,j,i,h,g,rfl,_,⟨f,c1⟩,⟨d,c⟩,m,l⟩:=DP ok;have b:=Tv f c1;have a:=J9 d c;exact cN t62 rfl (by simp only[go_sem,t62,b,a])
theorem Vb{e:M D}(ok:fL mg (lay 7) e):G 111 (e++e)=Z (0,[.bool I]):=by
 obtain⟨k,j,i,h,g,rfl,_,⟨f,c1⟩,⟨d,c⟩,m,l⟩:=DP ok;have b:=RJ f c1;have a:=IE d c;exact cN t111 rfl (by simp only[go_sem,t111,b,a,ne_self])
theorem XX{e:M D}(ok:fL mg (lay 8) e):G 63 e=Z (0,e):=by
 obtain⟨b,a,rfl,d,c⟩:=sy ok;exact cN t63 rfl (by simp only[go_sem,t63,])
theorem Pf{es:M (M D)}(n:es.length<=mg)(ok:eJ mg 8 es)(v:∀e∈es,G 63 e=Z (0,e)):G 64 [.list 2 I es]=Z (0,[.list 2 I es]):=by
 have h:=BE (b:=lB G Qs) es (([zS [],zS []]:M SK).map SK.d) (λi a=>(0,[.list 2 I es,E (i:Int),.list 2 I a])) (λa=>(0,[.list 2 I es,E es.length,.bool J,.list 2 I a])) (by
  intro i e a c m;have o:=bw c;have q:=wj o n;have p:=ok.mem e (bp c);have f:=v e (bp c);obtain⟨j,g,rfl,A,y⟩:=sy p;have w:=lZ 2 I a i (bw m);have r:=vK (fl:=I) (k:=2) (ds:=[.str j,.str g]) m rfl rfl (λ_=>rfl);have t:aU (.has 2) [.list 0 J [[.str j,.str g]]]=Z (.bool J):=rfl;have s:aU .pl [.str j,.str g]=Z (.bool J):=rfl;simp only[go_sem,bK,Qs,o,c,t,f,q,w,r,s]) (by
  intro a;simp only[go_sem,bK,Qs,aB])
 have l:=λby_ x=>q_ (k:=2) (fl:=I) (by_:=by_) (zs:=[zS [],zS []]) n x;have l:=l 32 (by omega);rw[n0]at h;simp only[go_sem]at h;exact cN t64 rfl (by simp only[go_sem,t64,l,h])
theorem X1{es:M (M D)}(hB:es.length<=mg)(ok:eJ mg 8 es):G 64 [.list 2 I es]=Z (0,[.list 2 I es]):=Pf hB ok λe a=>XX (ok.mem e a)
theorem Va{e:M D}(ok:fL mg (lay 8) e):G 112 (e++e)=Z (0,[.bool I]):=by
 obtain⟨b,a,rfl,d,c⟩:=sy ok;exact cN t112 rfl (by simp only[go_sem,t112,ne_self])
theorem NR{es:M (M D)}(a:es.length<=mg)(ok:eJ mg 8 es)(b:∀e∈es,G 112 (e++e)=Z (0,[.bool I])):G 113 [.list 2 I es,.list 2 I es]=Z (0,[.bool I]):=by
 exact cN t113 rfl (tg (k:=2) (g:=112) (fl:=I) a (λe h=>lC (ok.mem e h)) b)
theorem Ve{es:M (M D)}(hB:es.length<=mg)(ok:eJ mg 8 es):G 113 [.list 2 I es,.list 2 I es]=Z (0,[.bool I]):=NR hB ok λe a=>Va (ok.mem e a)
theorem XW{e:M D}(ok:fL mg (lay 9) e):G 65 e=Z (0,e):=by
 obtain⟨d,c,rfl,f,⟨b,c1⟩⟩:=sx ok;have a:=X1 b c1;exact cN t65 rfl (by simp only[go_sem,t65,a])
theorem Pe{es:M (M D)}(n:es.length<=mg)(ok:eJ mg 9 es)(v:∀e∈es,G 65 e=Z (0,e)):G 66 [.list 2 J es]=Z (0,[.list 2 J es]):=by
 have h:=BE (b:=lB G Qt) es (([zS [],zL 2 I]:M SK).map SK.d) (λi a=>(0,[.list 2 J es,E (i:Int),.list 2 J a])) (λa=>(0,[.list 2 J es,E es.length,.bool J,.list 2 J a])) (by
  intro i e a c m;have o:=bw c;have q:=wj o n;have p:=ok.mem e (bp c);have f:=v e (bp c);obtain⟨g,l,rfl,A,⟨y,c1⟩⟩:=sx p;have w:=lZ 2 J a i (bw m);have r:=vK (fl:=J) (k:=2) (ds:=[.str g,.list 2 I l]) m rfl rfl (λh=>by cases h);have t:aU (.has 2) [.list 0 J [[.str g,.list 2 I l]]]=Z (.bool J):=rfl;have s:aU .pl [.str g]=Z (.bool J):=rfl;simp only[go_sem,bK,Qt,o,c,t,f,q,w,r,s]) (by
  intro a;simp only[go_sem,bK,Qt,aB])
 have j:=λby_ x=>q_ (k:=2) (fl:=J) (by_:=by_) (zs:=[zS [],zL 2 I]) n x;have j:=j 40 (by omega);rw[n0]at h;simp only[go_sem]at h;exact cN t66 rfl (by simp only[go_sem,t66,j,h])
theorem X0{es:M (M D)}(hB:es.length<=mg)(ok:eJ mg 9 es):G 66 [.list 2 J es]=Z (0,[.list 2 J es]):=Pe hB ok λe a=>XW (ok.mem e a)
theorem U_{e:M D}(ok:fL mg (lay 9) e):G 114 (e++e)=Z (0,[.bool I]):=by
 obtain⟨d,c,rfl,f,⟨b,c1⟩⟩:=sx ok;have a:=Ve b c1;exact cN t114 rfl (by simp only[go_sem,t114,a,ne_self])
theorem NQ{es:M (M D)}(a:es.length<=mg)(ok:eJ mg 9 es)(b:∀e∈es,G 114 (e++e)=Z (0,[.bool I])):G 115 [.list 2 J es,.list 2 J es]=Z (0,[.bool I]):=by
 exact cN t115 rfl (tg (k:=2) (g:=114) (fl:=J) a (λe h=>lC (ok.mem e h)) b)
theorem Vd{es:M (M D)}(hB:es.length<=mg)(ok:eJ mg 9 es):G 115 [.list 2 J es,.list 2 J es]=Z (0,[.bool I]):=NQ hB ok λe a=>U_ (ok.mem e a)
theorem XV{e:M D}(ok:fL mg (lay 10) e):G 67 e=Z (0,e):=by
 obtain⟨g,f,d,rfl,_,_,⟨c,b⟩⟩:=DO ok;have a:=X0 c b;exact cN t67 rfl (by simp only[go_sem,t67,a])
theorem U9{e:M D}(ok:fL mg (lay 10) e):G 116 (e++e)=Z (0,[.bool I]):=by
 obtain⟨g,f,d,rfl,_,_,⟨c,b⟩⟩:=DO ok;have a:=Vd c b;exact cN t116 rfl (by simp only[go_sem,t116,a,ne_self])
theorem XS{e:M D}(ok:fL mg (lay 11) e)(d:∀a,.list 7 J a∈e->G 69 [.list 7 J a]=Z (0,[.list 7 J a])):G 68 e=Z (0,e):=by
 obtain⟨l,k,j,i,h,g,c,rfl,_,_,q,_,_,⟨p,n⟩,⟨o,m⟩⟩:=oM ok;have b:=XV (fL.sub 3 3 ok);simp only[ja,br,dy,bE,au,av]at b;have f:=d c (by simp only[aI,true_or,or_true]);exact cN t68 rfl (by simp only[go_sem,t68,b,f])
theorem Pb{es:M (M D)}(s:es.length<=mg)(ok:eJ mg 11 es)(B:∀e∈es,G 68 e=Z (0,e)):G 69 [.list 7 J es]=Z (0,[.list 7 J es]):=by
 have h:=BE (b:=lB G Qv) es (([zI 0,zI 0,zS [],zB J,zI 0,zL 2 J,zL 7 J]:M SK).map SK.d) (λi a=>(0,[.list 7 J es,E (i:Int),.list 7 J a])) (λa=>(0,[.list 7 J es,E es.length,.bool J,.list 7 J a])) (by
  intro i e a c r;have t:=bw c;have w:=wj t s;have v:=ok.mem e (bp c);have f:=B e (bp c);obtain⟨n,m,l,j,g,q,p,rfl,_,_,P,_,_,⟨N,K⟩,⟨L,H⟩⟩:=oM v;have C:=lZ 7 J a i (bw r);have x:=vK (fl:=J) (k:=7) (ds:=[E n,E m,.str l,.bool j,E g,.list 2 J q,.list 7 J p]) r rfl rfl (λh=>by cases h);have A:aU (.has 7) [.list 0 J [[E n,E m,.str l,.bool j,E g,.list 2 J q,.list 7 J p]]]=Z (.bool J):=rfl;have y:aU .pl [E n,E m,.str l,.bool j,E g]=Z (.bool J):=rfl;simp only[go_sem,bK,Qv,t,c,A,f,w,C,x,y]) (by
  intro a;simp only[go_sem,bK,Qv,aB])
 have o:=λby_ F=>q_ (k:=7) (fl:=J) (by_:=by_) (zs:=[zI 0,zI 0,zS [],zB J,zI 0,zL 2 J,zL 7 J]) s F;have o:=o 96 (by omega);rw[n0]at h;simp only[go_sem]at h;exact cN t69 rfl (by simp only[go_sem,t69,o,h])
theorem Pa(m:Nat):∀es:M (M D),aw es < m->es.length<=mg->eJ mg 11 es->G 69 [.list 7 J es]=Z (0,[.list 7 J es]):=by
 induction m with
 |zero=>intro es h;omega
 |succ m g=>
  intro es i hB ok;refine Pb hB ok λe a=>XS (ok.mem e a) λf d=>?_;obtain⟨b,c⟩:=DX (ok.mem e a) d;exact g f (by have:=iK a d;omega) b c
theorem MO{es:M (M D)}(hB:es.length<=mg)(ok:eJ mg 11 es):G 69 [.list 7 J es]=Z (0,[.list 7 J es]):=Pa _ es (aS _) hB ok
theorem U7{e:M D}(ok:fL mg (lay 11) e)(d:∀a,.list 7 J a∈e->G 118 [.list 7 J a,.list 7 J a]=Z (0,[.bool I])):G 117 (e++e)=Z (0,[.bool I]):=by
 obtain⟨l,k,j,i,h,g,c,rfl,_,_,q,_,_,⟨p,n⟩,⟨o,m⟩⟩:=oM ok;have b:=U9 (fL.sub 3 3 ok);simp only[ja,br,dy,bE,au,av]at b;have f:=d c (by simp only[aI,true_or,or_true]);exact cN t117 rfl (by simp only[go_sem,t117,b,f,ne_self])
theorem NN{es:M (M D)}(a:es.length<=mg)(ok:eJ mg 11 es)(b:∀e∈es,G 117 (e++e)=Z (0,[.bool I])):G 118 [.list 7 J es,.list 7 J es]=Z (0,[.bool I]):=by
 exact cN t118 rfl (tg (k:=7) (g:=117) (fl:=J) a (λe h=>lC (ok.mem e h)) b)
theorem NM(m:Nat):∀es:M (M D),aw es < m->es.length<=mg->eJ mg 11 es->G 118 [.list 7 J es,.list 7 J es]=Z (0,[.bool I]):=by
 induction m with
 |zero=>intro es h;omega
 |succ m g=>
  intro es i hB ok;refine NN hB ok λe a=>U7 (ok.mem e a) λf d=>?_;obtain⟨b,c⟩:=DX (ok.mem e a) d;exact g f (by have:=iK a d;omega) b c
theorem Lb{es:M (M D)}(hB:es.length<=mg)(ok:eJ mg 11 es):G 118 [.list 7 J es,.list 7 J es]=Z (0,[.bool I]):=NM _ es (aS _) hB ok
theorem O8{e:M D}(ok:fL mg (lay 12) e)(p:∀a,.list 19 J a∈e->G 71 [.list 19 J a]=Z (0,[.list 19 J a])):G 70 e=Z (0,e):=by
 obtain⟨S,R,Q,P,N,L,K,H,F,C,o,n,m,l,k,j,i,h,b,rfl,_,b1,_,⟨b3,U⟩,⟨Y,T⟩,X,W,⟨w,t⟩,⟨v,s⟩,V,_,_,_,_,_,_,⟨y,A⟩,⟨x,B⟩,⟨Yt,Px⟩⟩:=lT ok;have g:=XY (fL.sub 2 5 ok);simp only[ja,br,dy,bE,au,av]at g;have r:=J9 w t;have q:=J9 v s;have f:=MO y A;have d:=MO x B;have c:=p b (by simp only[aI,true_or,or_true]);exact cN t70 rfl (by simp only[go_sem,t70,g,r,q,f,d,c])
theorem J8{es:M (M D)}(L:es.length<=mg)(ok:eJ mg 12 es)(U:∀e∈es,G 70 e=Z (0,e)):G 71 [.list 19 J es]=Z (0,[.list 19 J es]):=by
 have h:=BE (b:=lB G Qw) es (([zI 0,zS [],zI 0,zL 2 I,zL 1 I,zS [],zS [],zL 1 I,zL 1 I,zS [],zB J,zB J,zB J,zB J,zI 0,zI 0,zL 7 J,zL 7 J,zL 19 J]:M SK).map SK.d) (λi a=>(0,[.list 19 J es,E (i:Int),.list 19 J a])) (λa=>(0,[.list 19 J es,E es.length,.bool J,.list 19 J a])) (by
  intro i e a r K;have N:=bw r;have Q:=wj N L;have P:=ok.mem e (bp r);have f:=U e (bp r);obtain⟨y,x,w,H,F,v,t,C,B,s,n,m,l,j,g,c,q,p,o,rfl,_,b1,_,⟨b3,c3⟩,⟨b4,c4⟩,b5,b6,⟨b7,Y⟩,⟨b8,X⟩,b9,_,_,_,_,_,_,⟨TF,Kj⟩,⟨TG,KM⟩,⟨Yt,Px⟩⟩:=lT P;have V:=lZ 19 J a i (bw K);have R:=vK (fl:=J) (k:=19) (ds:=[E y,.str x,E w,.list 2 I H,.list 1 I F,.str v,.str t,.list 1 I C,.list 1 I B,.str s,.bool n,.bool m,.bool l,.bool j,E g,E c,.list 7 J q,.list 7 J p,.list 19 J o]) K rfl rfl (λh=>by cases h);have T:aU (.has 19) [.list 0 J [[E y,.str x,E w,.list 2 I H,.list 1 I F,.str v,.str t,.list 1 I C,.list 1 I B,.str s,.bool n,.bool m,.bool l,.bool j,E g,E c,.list 7 J q,.list 7 J p,.list 19 J o]]]=Z (.bool J):=rfl;have S:aU .pl [E y,.str x,E w,.str v,.str t,.str s,.bool n,.bool m,.bool l,.bool j,E g,E c]=Z (.bool J):=rfl;simp only[go_sem,bK,Qw,N,r,T,f,Q,V,R,S]) (by
  intro a;simp only[go_sem,bK,Qw,aB])
 have A:=λby_ W=>q_ (k:=19) (fl:=J) (by_:=by_) (zs:=[zI 0,zS [],zI 0,zL 2 I,zL 1 I,zS [],zS [],zL 1 I,zL 1 I,zS [],zB J,zB J,zB J,zB J,zI 0,zI 0,zL 7 J,zL 7 J,zL 19 J]) L W;have A:=A 272 (by omega);rw[n0]at h;simp only[go_sem]at h;exact cN t71 rfl (by simp only[go_sem,t71,A,h])
theorem J7(m:Nat):∀es:M (M D),aw es < m->es.length<=mg->eJ mg 12 es->G 71 [.list 19 J es]=Z (0,[.list 19 J es]):=by
 induction m with
 |zero=>intro es h;omega
 |succ m g=>
  intro es i hB ok;refine J8 hB ok λe a=>O8 (ok.mem e a) λf d=>?_;obtain⟨b,c⟩:=xL (ok.mem e a) d;exact g f (by have:=iK a d;omega) b c
theorem FE{es:M (M D)}(hB:es.length<=mg)(ok:eJ mg 12 es):G 71 [.list 19 J es]=Z (0,[.list 19 J es]):=J7 _ es (aS _) hB ok
theorem NI{e:M D}(ok:fL mg (lay 12) e)(p:∀a,.list 19 J a∈e->G 120 [.list 19 J a,.list 19 J a]=Z (0,[.bool I])):G 119 (e++e)=Z (0,[.bool I]):=by
 obtain⟨S,R,Q,P,N,L,K,H,F,C,o,n,m,l,k,j,i,h,b,rfl,_,b1,_,⟨b3,U⟩,⟨Y,T⟩,X,W,⟨w,t⟩,⟨v,s⟩,V,_,_,_,_,_,_,⟨y,A⟩,⟨x,B⟩,⟨Yt,Px⟩⟩:=lT ok;have g:=Vb (fL.sub 2 5 ok);simp only[ja,br,dy,bE,au,av]at g;have r:=IE w t;have q:=IE v s;have f:=Lb y A;have d:=Lb x B;have c:=p b (by simp only[aI,true_or,or_true]);exact cN t119 rfl (by simp only[go_sem,t119,g,r,q,f,d,c,ne_self])
theorem ID{es:M (M D)}(a:es.length<=mg)(ok:eJ mg 12 es)(b:∀e∈es,G 119 (e++e)=Z (0,[.bool I])):G 120 [.list 19 J es,.list 19 J es]=Z (0,[.bool I]):=by
 exact cN t120 rfl (tg (k:=19) (g:=119) (fl:=J) a (λe h=>lC (ok.mem e h)) b)
theorem IC(m:Nat):∀es:M (M D),aw es < m->es.length<=mg->eJ mg 12 es->G 120 [.list 19 J es,.list 19 J es]=Z (0,[.bool I]):=by
 induction m with
 |zero=>intro es h;omega
 |succ m g=>
  intro es i hB ok;refine ID hB ok λe a=>NI (ok.mem e a) λf d=>?_;obtain⟨b,c⟩:=xL (ok.mem e a) d;exact g f (by have:=iK a d;omega) b c
theorem Dn{es:M (M D)}(hB:es.length<=mg)(ok:eJ mg 12 es):G 120 [.list 19 J es,.list 19 J es]=Z (0,[.bool I]):=IC _ es (aS _) hB ok
end
end Go.Proofs.YtgfcijiikgjbcaaGreatDoor
