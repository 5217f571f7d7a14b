/- Part of the proof: a machine over plain data, its proof, the functions of the program run on symbols, what they answer. Condition: none. -/
import Derived.Test.YtnnjajingjfjiaaGreatDoorZz14
set_option linter.unusedVariables false
set_option linter.unusedSimpArgs false
open Bool renaming false_eq_true->aF,true->I,false->J
open ByteArray renaming size_append->jr
open Int renaming natCast_zero->bU,toNat_natCast->bW,natCast_nonneg->ch,add_zero->dh,natCast_one->ed,lt_irrefl->fy
open List renaming cons_append->au,nil_append->av,append_nil->aK,mem_cons->aL,take_length->aR,take_zero->aV,map_cons->aW,drop_zero->bm,map_nil->bD,drop_length->bE,take_succ_cons->cn,drop_succ_cons->dJ,not_mem_nil->ei,set_cons_zero->jz
open Nat renaming reduceEqDiff->aA,lt_irrefl->aC,le_trans->aG,lt_succ_self->aP,reduceLeDiff->bl,zero_add->bo,reduceBNe->bz,reduceAdd->bF,lt_of_lt_of_le->bR,add_zero->cd,le_of_lt_succ->iN,le_of_lt->jZ,reduceLT->so,pow_succ->xO
open SizeOf renaming sizeOf->aw
open UInt8 renaming ofNat->dz
open Option renaming some->Z
namespace Go.Proofs.YtnnjajingjfjiaaGreatDoor
set_option maxRecDepth 100000
set_option maxHeartbeats 4000000
section
open Go.RowKit
theorem Zf:∀(f n:Nat) (out:z) (W:M (Nat×Row)),n < 10 ^ f->n<=9223372036854775807->out.size+f<=100->(W=[]\/∃r,W=[(12,r)])->
  ∃c,ev T tN (.loop wN) ⟨[(0,.d (E n)),(3,.d (.str out))],[],W⟩=Z (.exit 0,⟨[(0,.d (E 0)),(3,.d (.str (Dn f n out))),(7,.d (.bool J))],[],c⟩)
 |0,n,out,W,h,_,_,a=>by
  obtain rfl:n=0:=by simp at h;omega
  rw[gN];rcases a with rfl|⟨r,rfl⟩
  ·refine⟨[],?_⟩;simp -implicitDefEqProofs only [wN,Dn,bU,fy,go_sem,aA]
  ·refine⟨[(12,r)],?_⟩;simp -implicitDefEqProofs only [wN,Dn,bU,fy,go_sem,aA]
 |f+1,n,out,W,h,e,s,a=>by
  by_cases g:n=0
  ·subst g;rw[gN];rcases a with rfl|⟨r,rfl⟩
   ·refine⟨[],?_⟩;simp -implicitDefEqProofs only [wN,Dn,bU,fy,go_sem,aA]
   ·refine⟨[(12,r)],?_⟩;simp -implicitDefEqProofs only [wN,Dn,bU,fy,go_sem,aA]
  ·have hd:(0:Int) < (n:Int):=by omega
   have j:(0:Int)<=(n:Int):=by omega
   have q:IntKind.i64.wrap (48+(n:Int) % 10)=48+(n:Int) % 10:=bH (by omega);have p:IntKind.u8.wrap (48+(n:Int) % 10)=48+(n:Int) % 10:=by simp -implicitDefEqProofs only [IntKind.wrap,IntKind.bits,IntKind.signed];simp;omega
   have o:(48+(n:Int) % 10).toNat=48+n % 10:=by omega
   have m:(n:Int) / 10=((n / 10:Nat):Int):=by omega
   have l:(⟨#[dz (48+n % 10)]⟩:z).size+out.size<=maxLen:=by rw[Uc];simp -implicitDefEqProofs only [maxLen];omega
   obtain⟨c,i⟩:=Zf f (n / 10) (⟨#[dz (48+n % 10)]⟩++out) [(12,⟨[[.int .u8 (48+(n:Int) % 10)]],1,I,I,I,J⟩)] (by rw[xO]at h;omega) (by omega) (by rw[jr,Uc];omega) (.inr ⟨_,rfl⟩);refine⟨c,?_⟩;have b:(1:Int)<=10:=by omega
   have k:#[dz (48+n % 10)].size+out.size<=maxLen:=l;have e:ev T tN wN ⟨[(0,.d (E n)),(3,.d (.str out))],[],W⟩=Z (.norm,⟨[(0,.d (E (n / 10:Nat))),(3,.d (.str (⟨#[dz (48+n % 10)]⟩++out)))],[],[(12,⟨[[.int .u8 (48+(n:Int) % 10)]],1,I,I,I,J⟩)]⟩):=by
    rcases a with rfl|⟨r,rfl⟩<;>simp -implicitDefEqProofs only [wN,hd,j,b,q,p,o,m,k,bytesOf,aW,bD,reduceCtorEq,go_sem,aA,so]
   rw[gN,e];simp -implicitDefEqProofs only [Dn,g,if_false]
   exact i
theorem eW(q:Int)(g:0 < q)(e:q<=9223372036854775807):dM T 16 [.val J [.d (E q)]]=Z ([.val J [.d (.str (Je q))]],[]):=by
 obtain⟨n,rfl⟩:∃n:Nat,q=n:=⟨q.toNat,by omega⟩
 rw[lj (f:=16) rfl rfl];obtain⟨h,c⟩:=Zf 20 n ⟨#[]⟩ [] (by omega) (by omega) (by decide) (.inl rfl);have hd:¬((n:Int)<=0):=by omega
 have b:(Je (n:Int)).size<=maxLen:=aG (Oi _) (by decide);simp -implicitDefEqProofs only [Je,if_neg hd,bW]at b ⊢
 rw[jr]at b;have a:#[(109:UInt8)].size+(Dn 20 n ⟨#[]⟩).size<=maxLen:=b;simp -implicitDefEqProofs only [c,hd,a,go_sem,aA]
theorem uP(es:M (M D))(hB:es.length<=gq)(ok:dw gq 0 es)(q:Int)(o:0 < q)(n:q+aT es<=4611686018427387904) :
  gl T 149 J [.list 1 I es] q=Z ([.list 1 I (iV es q)],q+aT es):=by
 rw[k8 (f:=149) rfl];have e:=sP (T:=T) (own:=I) (k:=1) (body:=DZ) (λi=>⟨⟨[(1,.d (E (q+aT (es.take i)))),(5,.d (E i))],[],[]⟩,[(0,.lst)],iV (es.take i) q++es.drop i⟩) es.length
  (by simp -implicitDefEqProofs only [DZ,cx,aK,LH,aR,bE,go_sem,aA,bz];rfl)
  (by
   intro i c;have b:=cI c;have t1:=eA es (i+1);have t2:=dG b;obtain⟨m,h,p⟩:=xy (ok.uT b);have t3:rf es[i]=0+1:=by rw[h];simp -implicitDefEqProofs only [rf,D.mn]<;>omega
   have l:=eW (q+(aT (es.take i):Int)) (by omega) (by omega);obtain⟨j,t4⟩:(IntKind.i64.wrap (q+(aT (es.take i):Int)+1)=q+(aT (es.take i):Int)+1)/\(q+(aT (es.take (i+1)):Int)=q+(aT (es.take i):Int)+1):=⟨bH (by omega),by omega⟩
   have g:=sQ q b;rw[h]at b g;simp -implicitDefEqProofs only [Gq,D.mk]at g
   have i3:(1:Int)<=3:=by omega
   simp -implicitDefEqProofs only [DZ,l,j,t4,sR q (jZ c),sS q b,sU q b,c,Ks c,wi c (aG hB (by simp[maxLen,gq])),ch,go_sem,aA,bz]
   exact congrArg (λa=>Z (Ex.norm,MS.mk _ _ a)) g)
 simp -implicitDefEqProofs only [bU,aV,bm,iV,aT,av,dh]at e
 simp -implicitDefEqProofs only [e,go_sem,aA,bz]
theorem Ou(es:M (M D))(hB:es.length<=gq)(ok:dw gq 6 es)(q:Int)(p:0 < q)(o:q+aT es<=4611686018427387904) :
  gl T 148 J [.list 2 I es] q=Z ([.list 2 I (iV es q)],q+aT es):=by
 rw[k8 (f:=148) rfl];have e:=sP (T:=T) (own:=I) (k:=2) (body:=DY) (λi=>⟨⟨[(1,.d (E (q+aT (es.take i)))),(5,.d (E i))],[],[]⟩,[(0,.lst)],iV (es.take i) q++es.drop i⟩) es.length
  (by simp -implicitDefEqProofs only [DY,cx,aK,LH,aR,bE,go_sem,aA,bz];rfl)
  (by
   intro i b;have c:=cI b;have t1:=eA es (i+1);have t2:=dG c;obtain⟨n,m,h,_,_⟩:=oD (ok.uT c);have t3:rf es[i]=0+1+1:=by rw[h];simp -implicitDefEqProofs only [rf,D.mn]<;>omega
   obtain⟨l,j,t4⟩:(IntKind.i64.wrap (q+(aT (es.take i):Int)+1)=q+(aT (es.take i):Int)+1)/\(IntKind.i64.wrap (q+(aT (es.take i):Int)+1+1)=q+(aT (es.take i):Int)+1+1)/\(q+(aT (es.take (i+1)):Int)=q+(aT (es.take i):Int)+1+1):=⟨bH (by omega),bH (by omega),by omega⟩
   have g:=sQ q c;rw[h]at c g;simp -implicitDefEqProofs only [Gq,D.mk,D.mn,ed]at g
   have i3:(1:Int)<=3:=by omega
   simp -implicitDefEqProofs only [DY,l,j,t4,sR q (jZ b),sS q c,sU q c,qi q b,qh q b,qj q b,b,Ks b,wi b (aG hB (by simp[maxLen,gq])),ch,go_sem,bF,aA,bz]
   exact congrArg (λa=>Z (Ex.norm,MS.mk _ _ a)) g)
 simp -implicitDefEqProofs only [bU,aV,bm,iV,aT,av,dh]at e
 simp -implicitDefEqProofs only [e,go_sem,aA,bz]
theorem QU(es:M (M D))(hB:es.length<=gq)(ok:dw gq 8 es)(q:Int)(s:0 < q)(r:q+aT es<=4611686018427387904) :
  gl T 150 J [.list 2 I es] q=Z ([.list 2 I (iV es q)],q+aT es):=by
 rw[k8 (f:=150) rfl];have e:=sP (T:=T) (own:=I) (k:=2) (body:=D0) (λi=>⟨⟨[(1,.d (E (q+aT (es.take i)))),(5,.d (E i))],[],[]⟩,[(0,.lst)],iV (es.take i) q++es.drop i⟩) es.length
  (by simp -implicitDefEqProofs only [D0,cx,aK,LH,aR,bE,go_sem,aA,bz];rfl)
  (by
   intro i b;have c:=cI b;have t1:=eA es (i+1);have t2:=dG c;obtain⟨p,o,h,v,t⟩:=qU (ok.uT c);have t3:rf es[i]=0+1+1:=by rw[h];simp -implicitDefEqProofs only [rf,D.mn]<;>omega
   have n:=eW (q+(aT (es.take i):Int)) (by omega) (by omega);have m:=eW (q+(aT (es.take i):Int)+1) (by omega) (by omega);obtain⟨l,j,t4⟩:(IntKind.i64.wrap (q+(aT (es.take i):Int)+1)=q+(aT (es.take i):Int)+1)/\(IntKind.i64.wrap (q+(aT (es.take i):Int)+1+1)=q+(aT (es.take i):Int)+1+1)/\(q+(aT (es.take (i+1)):Int)=q+(aT (es.take i):Int)+1+1):=⟨bH (by omega),bH (by omega),by omega⟩
   have g:=sQ q c;rw[h]at c g;simp -implicitDefEqProofs only [Gq,D.mk,D.mn,ed]at g
   have i3:(1:Int)<=3:=by omega
   simp -implicitDefEqProofs only [D0,n,m,l,j,t4,sR q (jZ b),sS q c,sU q c,qi q b,qh q b,qj q b,b,Ks b,wi b (aG hB (by simp[maxLen,gq])),ch,go_sem,bF,aA,bz]
   exact congrArg (λa=>Z (Ex.norm,MS.mk _ _ a)) g)
 simp -implicitDefEqProofs only [bU,aV,bm,iV,aT,av,dh]at e
 simp -implicitDefEqProofs only [e,go_sem,aA,bz]
theorem QT(es:M (M D))(hB:es.length<=gq)(ok:dw gq 9 es)(q:Int)(s:0 < q)(r:q+aT es<=4611686018427387904) :
  gl T 151 J [.list 2 J es] q=Z ([.list 2 J (iV es q)],q+aT es):=by
 rw[k8 (f:=151) rfl];have h:=sP (T:=T) (own:=I) (k:=2) (body:=D1) (λi=>⟨⟨[(1,.d (E (q+aT (es.take i)))),(5,.d (E i))],[],[]⟩,[(0,.lst)],iV (es.take i) q++es.drop i⟩) es.length
  (by simp -implicitDefEqProofs only [D1,cx,aK,LH,aR,bE,go_sem,aA,bz];rfl)
  (by
   intro i b;have c:=cI b;have t1:=eA es (i+1);have t2:=dG c;obtain⟨p,e,j,t,⟨o,c1⟩⟩:=qT (ok.uT c);have t3:rf es[i]=0+1+aT e:=by rw[j];simp -implicitDefEqProofs only [rf,D.mn]<;>omega
   have n:=eW (q+(aT (es.take i):Int)) (by omega) (by omega);have m:=QU e o c1 (q+(aT (es.take i):Int)+1) (by omega) (by omega);obtain⟨l,t4⟩:(IntKind.i64.wrap (q+(aT (es.take i):Int)+1)=q+(aT (es.take i):Int)+1)/\(q+(aT (es.take (i+1)):Int)=q+(aT (es.take i):Int)+1+(aT e:Int)):=⟨bH (by omega),by omega⟩
   have g:=sQ q c;rw[j]at c g;simp -implicitDefEqProofs only [Gq,D.mk,D.mn,ed]at g
   have i3:(1:Int)<=3:=by omega
   simp -implicitDefEqProofs only [D1,n,m,l,t4,sR q (jZ b),sS q c,sU q c,qi q b,qh q b,qj q b,b,Ks b,wi b (aG hB (by simp[maxLen,gq])),ch,go_sem,bF,aA,bl,bz]
   exact congrArg (λa=>Z (Ex.norm,MS.mk _ _ a)) g)
 simp -implicitDefEqProofs only [bU,aV,bm,iV,aT,av,dh]at h
 simp -implicitDefEqProofs only [h,go_sem,aA,bz]
theorem Lw(es:M (M D))(hB:es.length<=gq)(ok:dw gq 11 es)(h:∀x,(∃e∈es,D.list 7 J x∈e)->∀(q:Int),0 < q->q+aT x<=4611686018427387904->gl T 152 J [.list 7 J x] q=Z ([.list 7 J (iV x q)],q+aT x))(q:Int)(P:0 < q)(N:q+aT es<=4611686018427387904) :
  gl T 152 J [.list 7 J es] q=Z ([.list 7 J (iV es q)],q+aT es):=by
 rw[k8 (f:=152) rfl];have n:=sP (T:=T) (own:=I) (k:=7) (body:=D2) (λi=>⟨⟨[(1,.d (E (q+aT (es.take i)))),(5,.d (E i))],[],[]⟩,[(0,.lst)],iV (es.take i) q++es.drop i⟩) es.length
  (by simp -implicitDefEqProofs only [D2,cx,aK,LH,aR,bE,go_sem,aA,bz];rfl)
  (by
   intro i b;have c:=cI b;have t1:=eA es (i+1);have t2:=dG c;obtain⟨L,K,H,G,F,j,l,m,_,_,S,_,_,⟨C,B⟩,⟨R,Q⟩⟩:=mJ (ok.uT c);have t3:rf es[i]=0+1+1+1+1+1+aT j+aT l:=by rw[m];simp -implicitDefEqProofs only [rf,D.mn]<;>omega
   have A:=eW (q+(aT (es.take i):Int)+1+1) (by omega) (by omega);have w:=QT j C B (q+(aT (es.take i):Int)+1+1+1+1+1) (by omega) (by omega);have v:=h l ⟨_,qk c,by rw[m];simp -implicitDefEqProofs only [aL,true_or,or_true]⟩ (q+(aT (es.take i):Int)+1+1+1+1+1+(aT j:Int)) (by omega) (by omega);obtain⟨t,s,r,y,p,o,t4⟩:(IntKind.i64.wrap (q+(aT (es.take i):Int)+1)=q+(aT (es.take i):Int)+1)/\(IntKind.i64.wrap (q+(aT (es.take i):Int)+1+1)=q+(aT (es.take i):Int)+1+1)/\(IntKind.i64.wrap (q+(aT (es.take i):Int)+1+1+1)=q+(aT (es.take i):Int)+1+1+1)/\((0:Int)<=q+(aT (es.take i):Int)+1+1+1)/\(IntKind.i64.wrap (q+(aT (es.take i):Int)+1+1+1+1)=q+(aT (es.take i):Int)+1+1+1+1)/\(IntKind.i64.wrap (q+(aT (es.take i):Int)+1+1+1+1+1)=q+(aT (es.take i):Int)+1+1+1+1+1)/\(q+(aT (es.take (i+1)):Int)=q+(aT (es.take i):Int)+1+1+1+1+1+(aT j:Int)+(aT l:Int)):=⟨bH (by omega),bH (by omega),bH (by omega),by omega,bH (by omega),bH (by omega),by omega⟩
   have g:=sQ q c;rw[m]at c g;simp -implicitDefEqProofs only [Gq,D.mk,D.mn,ed]at g
   have i3:(1:Int)<=3:=by omega
   simp -implicitDefEqProofs only [D2,A,w,v,t,s,r,y,p,o,t4,i3,sR q (jZ b),sS q c,sU q c,qi q b,qh q b,qj q b,b,Ks b,wi b (aG hB (by simp[maxLen,gq])),ch,go_sem,bF,aA,bl,bz]
   exact congrArg (λa=>Z (Ex.norm,MS.mk _ _ a)) g)
 simp -implicitDefEqProofs only [bU,aV,bm,iV,aT,av,dh]at n
 simp -implicitDefEqProofs only [n,go_sem,aA,bz]
theorem Oq(n:Nat):∀(es:M (M D)),aw es < n->es.length<=gq->dw gq 11 es->∀(q:Int),0 < q->q+aT es<=4611686018427387904->gl T 152 J [.list 7 J es] q=Z ([.list 7 J (iV es q)],q+aT es):=by
 induction n with
 |zero=>intro es h;omega
 |succ n f=>
  intro es d hB ok q i g;refine Lw es hB ok (λx a=>?_) q i g;obtain⟨e,b,a⟩:=a;have c:=bR (pj a b) (iN d);obtain⟨t,s,r,p,o,m,l,rfl,_,_,y,_,_,⟨w,v⟩,⟨k,j⟩⟩:=mJ (ok.mem e b);simp -implicitDefEqProofs only [aL,ei,reduceCtorEq,false_or,or_false,D.list.injEq,aA,false_and,true_and]at a
  subst a;exact f _ c k j
theorem Gk(es:M (M D))(hB:es.length<=gq)(ok:dw gq 11 es)(q:Int)(b:0 < q)(a:q+aT es<=4611686018427387904):gl T 152 J [.list 7 J es] q=Z ([.list 7 J (iV es q)],q+aT es):=Oq (aw es+1) es (by omega) hB ok q b a
theorem Gl(es:M (M D))(hB:es.length<=gq)(ok:dw gq 12 es)(h:∀x,(∃e∈es,D.list 19 J x∈e)->∀(q:Int),0 < q->q+aT x<=4611686018427387904->gl T 153 J [.list 19 J x] q=Z ([.list 19 J (iV x q)],q+aT x))(q:Int)(h0:0 < q)(h1:q+aT es<=4611686018427387904) :
  gl T 153 J [.list 19 J es] q=Z ([.list 19 J (iV es q)],q+aT es):=by
 rw[k8 (f:=153) rfl];have L:=sP (T:=T) (own:=I) (k:=19) (body:=D3) (λi=>⟨⟨[(1,.d (E (q+aT (es.take i)))),(5,.d (E i))],[],[]⟩,[(0,.lst)],iV (es.take i) q++es.drop i⟩) es.length
  (by simp -implicitDefEqProofs only [D3,cx,aK,LH,aR,bE,go_sem,aA,bz];rfl)
  (by
   intro i o;have r:=cI o;have t1:=eA es (i+1);have t2:=dG r;obtain⟨x0,x1,x2,b,c,x5,x6,j,l,x9,U,S,R,Q,P,N,m,n,p,K,_,b1,_,⟨b3,c3⟩,⟨b4,c4⟩,b5,b6,⟨b7,c7⟩,⟨b8,c8⟩,b9,_,_,_,_,_,_,⟨PU,HJ⟩,⟨PV,Is⟩,⟨Uu,MX⟩⟩:=jM (ok.uT r);have t3:rf es[i]=0+1+1+1+aT b+aT c+1+1+aT j+aT l+1+1+1+1+1+1+1+aT m+aT n+aT p:=by rw[K];simp -implicitDefEqProofs only [rf,D.mn]<;>omega
   have m1:=eW (q+(aT (es.take i):Int)+1) (by omega) (by omega);have m3:=Ou b b3 c3 (q+(aT (es.take i):Int)+1+1+1) (by omega) (by omega);have m4:=uP c b4 c4 (q+(aT (es.take i):Int)+1+1+1+(aT b:Int)) (by omega) (by omega);have m5:=eW (q+(aT (es.take i):Int)+1+1+1+(aT b:Int)+(aT c:Int)) (by omega) (by omega);have m6:=eW (q+(aT (es.take i):Int)+1+1+1+(aT b:Int)+(aT c:Int)+1) (by omega) (by omega);have m7:=uP j b7 c7 (q+(aT (es.take i):Int)+1+1+1+(aT b:Int)+(aT c:Int)+1+1) (by omega) (by omega);have m8:=uP l b8 c8 (q+(aT (es.take i):Int)+1+1+1+(aT b:Int)+(aT c:Int)+1+1+(aT j:Int)) (by omega) (by omega);have m9:=eW (q+(aT (es.take i):Int)+1+1+1+(aT b:Int)+(aT c:Int)+1+1+(aT j:Int)+(aT l:Int)) (by omega) (by omega);have B:=Gk m PU HJ (q+(aT (es.take i):Int)+1+1+1+(aT b:Int)+(aT c:Int)+1+1+(aT j:Int)+(aT l:Int)+1+1+1+1+1+1+1) (by omega) (by omega);have m17:=Gk n PV Is (q+(aT (es.take i):Int)+1+1+1+(aT b:Int)+(aT c:Int)+1+1+(aT j:Int)+(aT l:Int)+1+1+1+1+1+1+1+(aT m:Int)) (by omega) (by omega);have m18:=h p ⟨_,qk r,by rw[K];simp -implicitDefEqProofs only [aL,true_or,or_true]⟩ (q+(aT (es.take i):Int)+1+1+1+(aT b:Int)+(aT c:Int)+1+1+(aT j:Int)+(aT l:Int)+1+1+1+1+1+1+1+(aT m:Int)+(aT n:Int)) (by omega) (by omega)
   obtain⟨w0,w1,Y,X,W,V,H,A,G,y,F,w,C,v,t,s,t4⟩:(IntKind.i64.wrap (q+(aT (es.take i):Int)+1)=q+(aT (es.take i):Int)+1)/\(IntKind.i64.wrap (q+(aT (es.take i):Int)+1+1)=q+(aT (es.take i):Int)+1+1)/\(IntKind.i64.wrap (q+(aT (es.take i):Int)+1+1+1)=q+(aT (es.take i):Int)+1+1+1)/\(IntKind.i64.wrap (q+(aT (es.take i):Int)+1+1+1+(aT b:Int)+(aT c:Int)+1)=q+(aT (es.take i):Int)+1+1+1+(aT b:Int)+(aT c:Int)+1)/\(IntKind.i64.wrap (q+(aT (es.take i):Int)+1+1+1+(aT b:Int)+(aT c:Int)+1+1)=q+(aT (es.take i):Int)+1+1+1+(aT b:Int)+(aT c:Int)+1+1)/\(IntKind.i64.wrap (q+(aT (es.take i):Int)+1+1+1+(aT b:Int)+(aT c:Int)+1+1+(aT j:Int)+(aT l:Int)+1)=q+(aT (es.take i):Int)+1+1+1+(aT b:Int)+(aT c:Int)+1+1+(aT j:Int)+(aT l:Int)+1)/\((0:Int)<=q+(aT (es.take i):Int)+1+1+1+(aT b:Int)+(aT c:Int)+1+1+(aT j:Int)+(aT l:Int)+1)/\(IntKind.i64.wrap (q+(aT (es.take i):Int)+1+1+1+(aT b:Int)+(aT c:Int)+1+1+(aT j:Int)+(aT l:Int)+1+1)=q+(aT (es.take i):Int)+1+1+1+(aT b:Int)+(aT c:Int)+1+1+(aT j:Int)+(aT l:Int)+1+1)/\((0:Int)<=q+(aT (es.take i):Int)+1+1+1+(aT b:Int)+(aT c:Int)+1+1+(aT j:Int)+(aT l:Int)+1+1)/\(IntKind.i64.wrap (q+(aT (es.take i):Int)+1+1+1+(aT b:Int)+(aT c:Int)+1+1+(aT j:Int)+(aT l:Int)+1+1+1)=q+(aT (es.take i):Int)+1+1+1+(aT b:Int)+(aT c:Int)+1+1+(aT j:Int)+(aT l:Int)+1+1+1)/\((0:Int)<=q+(aT (es.take i):Int)+1+1+1+(aT b:Int)+(aT c:Int)+1+1+(aT j:Int)+(aT l:Int)+1+1+1)/\(IntKind.i64.wrap (q+(aT (es.take i):Int)+1+1+1+(aT b:Int)+(aT c:Int)+1+1+(aT j:Int)+(aT l:Int)+1+1+1+1)=q+(aT (es.take i):Int)+1+1+1+(aT b:Int)+(aT c:Int)+1+1+(aT j:Int)+(aT l:Int)+1+1+1+1)/\((0:Int)<=q+(aT (es.take i):Int)+1+1+1+(aT b:Int)+(aT c:Int)+1+1+(aT j:Int)+(aT l:Int)+1+1+1+1)/\(IntKind.i64.wrap (q+(aT (es.take i):Int)+1+1+1+(aT b:Int)+(aT c:Int)+1+1+(aT j:Int)+(aT l:Int)+1+1+1+1+1)=q+(aT (es.take i):Int)+1+1+1+(aT b:Int)+(aT c:Int)+1+1+(aT j:Int)+(aT l:Int)+1+1+1+1+1)/\(IntKind.i64.wrap (q+(aT (es.take i):Int)+1+1+1+(aT b:Int)+(aT c:Int)+1+1+(aT j:Int)+(aT l:Int)+1+1+1+1+1+1)=q+(aT (es.take i):Int)+1+1+1+(aT b:Int)+(aT c:Int)+1+1+(aT j:Int)+(aT l:Int)+1+1+1+1+1+1)/\(IntKind.i64.wrap (q+(aT (es.take i):Int)+1+1+1+(aT b:Int)+(aT c:Int)+1+1+(aT j:Int)+(aT l:Int)+1+1+1+1+1+1+1)=q+(aT (es.take i):Int)+1+1+1+(aT b:Int)+(aT c:Int)+1+1+(aT j:Int)+(aT l:Int)+1+1+1+1+1+1+1)/\(q+(aT (es.take (i+1)):Int)=q+(aT (es.take i):Int)+1+1+1+(aT b:Int)+(aT c:Int)+1+1+(aT j:Int)+(aT l:Int)+1+1+1+1+1+1+1+(aT m:Int)+(aT n:Int)+(aT p:Int)):=⟨bH (by omega),bH (by omega),bH (by omega),bH (by omega),bH (by omega),bH (by omega),by omega,bH (by omega),by omega,bH (by omega),by omega,bH (by omega),by omega,bH (by omega),bH (by omega),bH (by omega),by omega⟩
   have g:=sQ q r;rw[K]at r g;simp -implicitDefEqProofs only [Gq,D.mk,D.mn,ed]at g
   have i3:(1:Int)<=3:=by omega
   simp -implicitDefEqProofs only [D3,m1,m3,m4,m5,m6,m7,m8,m9,B,m17,m18,w0,w1,Y,X,W,V,H,A,G,y,F,w,C,v,t,s,t4,i3,sR q (jZ o),sS q r,sU q r,qi q o,qh q o,qj q o,o,Ks o,wi o (aG hB (by simp[maxLen,gq])),ch,go_sem,bF,aA,bl,bz]
   exact congrArg (λa=>Z (Ex.norm,MS.mk _ _ a)) g)
 simp -implicitDefEqProofs only [bU,aV,bm,iV,aT,av,dh]at L
 simp -implicitDefEqProofs only [L,go_sem,aA,bz]
theorem HU(n:Nat):∀(es:M (M D)),aw es < n->es.length<=gq->dw gq 12 es->∀(q:Int),0 < q->q+aT es<=4611686018427387904->gl T 153 J [.list 19 J es] q=Z ([.list 19 J (iV es q)],q+aT es):=by
 induction n with
 |zero=>intro es h;omega
 |succ n r=>
  intro es p hB ok q t s;refine Gl es hB ok (λx a=>?_) q t s;obtain⟨e,b,a⟩:=a;have o:=bR (pj a b) (iN p);obtain⟨N,L,K,H,G,F,C,B,A,y,m,l,k,j,i,g,f,d,c,rfl,_,b1,_,⟨b3,S⟩,⟨b4,R⟩,Y,X,⟨W,Q⟩,⟨V,P⟩,U,_,_,_,_,_,_,⟨PU,HJ⟩,⟨PV,Is⟩,⟨v,w⟩⟩:=jM (ok.mem e b);simp -implicitDefEqProofs only [aL,ei,reduceCtorEq,false_or,or_false,D.list.injEq,aA,aF,false_and,and_false,true_and]at a
  subst a;exact r _ o v w
theorem uO(es:M (M D))(hB:es.length<=gq)(ok:dw gq 12 es)(q:Int)(b:0 < q)(a:q+aT es<=4611686018427387904):gl T 153 J [.list 19 J es] q=Z ([.list 19 J (iV es q)],q+aT es):=HU (aw es+1) es (by omega) hB ok q b a
theorem Ly(es:M (M D))(hB:es.length<=gq)(ok:dw gq 2 es)(h:∀x,(∃e∈es,D.list 3 J x∈e)->∀(q:Int),0 < q->q+aT x<=4611686018427387904->gl T 17 J [.list 3 J x] q=Z ([.list 3 J (iV x q)],q+aT x))(q:Int)(y:0 < q)(w:q+aT es<=4611686018427387904) :
  gl T 17 J [.list 3 J es] q=Z ([.list 3 J (iV es q)],q+aT es):=by
 rw[k8 (f:=17) rfl];have m:=sP (T:=T) (own:=I) (k:=3) (body:=Lm) (λi=>⟨⟨[(1,.d (E (q+aT (es.take i)))),(5,.d (E i))],[],[]⟩,[(0,.lst)],iV (es.take i) q++es.drop i⟩) es.length
  (by simp -implicitDefEqProofs only [Lm,cx,aK,LH,aR,bE,go_sem,aA,bz];rfl)
  (by
   intro i b;have c:=cI b;have t1:=eA es (i+1);have t2:=dG c;obtain⟨v,t,j,l,F,C,⟨B,A⟩⟩:=mK (ok.uT c);have t3:rf es[i]=0+1+1+aT j:=by rw[l];simp -implicitDefEqProofs only [rf,D.mn]<;>omega
   have s:=eW (q+(aT (es.take i):Int)) (by omega) (by omega);have r:=eW (q+(aT (es.take i):Int)+1) (by omega) (by omega);have p:=h j ⟨_,qk c,by rw[l];simp -implicitDefEqProofs only [aL,true_or,or_true]⟩ (q+(aT (es.take i):Int)+1+1) (by omega) (by omega);obtain⟨o,n,t4⟩:(IntKind.i64.wrap (q+(aT (es.take i):Int)+1)=q+(aT (es.take i):Int)+1)/\(IntKind.i64.wrap (q+(aT (es.take i):Int)+1+1)=q+(aT (es.take i):Int)+1+1)/\(q+(aT (es.take (i+1)):Int)=q+(aT (es.take i):Int)+1+1+(aT j:Int)):=⟨bH (by omega),bH (by omega),by omega⟩
   have g:=sQ q c;rw[l]at c g;simp -implicitDefEqProofs only [Gq,D.mk,D.mn,ed]at g
   have i3:(1:Int)<=3:=by omega
   simp -implicitDefEqProofs only [Lm,s,r,p,o,n,t4,sR q (jZ b),sS q c,sU q c,qi q b,qh q b,qj q b,b,Ks b,wi b (aG hB (by simp[maxLen,gq])),ch,go_sem,bF,aA,bl,bz]
   exact congrArg (λa=>Z (Ex.norm,MS.mk _ _ a)) g)
 simp -implicitDefEqProofs only [bU,aV,bm,iV,aT,av,dh]at m
 simp -implicitDefEqProofs only [m,go_sem,aA,bz]
theorem Ot(n:Nat):∀(es:M (M D)),aw es < n->es.length<=gq->dw gq 2 es->∀(q:Int),0 < q->q+aT es<=4611686018427387904->gl T 17 J [.list 3 J es] q=Z ([.list 3 J (iV es q)],q+aT es):=by
 induction n with
 |zero=>intro es h;omega
 |succ n f=>
  intro es d hB ok q i g;refine Ly es hB ok (λx a=>?_) q i g;obtain⟨e,b,a⟩:=a;have c:=bR (pj a b) (iN d);obtain⟨o,m,l,rfl,r,p,⟨k,j⟩⟩:=mK (ok.mem e b);simp -implicitDefEqProofs only [aL,ei,reduceCtorEq,false_or,or_false,D.list.injEq,true_and]at a
  subst a;exact f _ c k j
theorem nf(es:M (M D))(hB:es.length<=gq)(ok:dw gq 2 es)(q:Int)(b:0 < q)(a:q+aT es<=4611686018427387904):gl T 17 J [.list 3 J es] q=Z ([.list 3 J (iV es q)],q+aT es):=Ot (aw es+1) es (by omega) hB ok q b a
theorem Lv(es:M (M D))(hB:es.length<=gq)(ok:dw gq 3 es)(h:∀x,(∃e∈es,D.list 4 J x∈e)->∀(q:Int),0 < q->q+aT x<=4611686018427387904->gl T 18 J [.list 4 J x] q=Z ([.list 4 J (iV x q)],q+aT x))(q:Int)(B:0 < q)(A:q+aT es<=4611686018427387904) :
  gl T 18 J [.list 4 J es] q=Z ([.list 4 J (iV es q)],q+aT es):=by
 rw[k8 (f:=18) rfl];have m:=sP (T:=T) (own:=I) (k:=4) (body:=Ln) (λi=>⟨⟨[(1,.d (E (q+aT (es.take i)))),(5,.d (E i))],[],[]⟩,[(0,.lst)],iV (es.take i) q++es.drop i⟩) es.length
  (by simp -implicitDefEqProofs only [Ln,cx,aK,LH,aR,bE,go_sem,aA,bz];rfl)
  (by
   intro i b;have c:=cI b;have t1:=eA es (i+1);have t2:=dG c;obtain⟨y,w,v,j,l,_,H,G,⟨F,C⟩⟩:=mI (ok.uT c);have t3:rf es[i]=0+1+1+1+aT j:=by rw[l];simp -implicitDefEqProofs only [rf,D.mn]<;>omega
   have t:=eW (q+(aT (es.take i):Int)+1) (by omega) (by omega);have s:=eW (q+(aT (es.take i):Int)+1+1) (by omega) (by omega);have r:=h j ⟨_,qk c,by rw[l];simp -implicitDefEqProofs only [aL,true_or,or_true]⟩ (q+(aT (es.take i):Int)+1+1+1) (by omega) (by omega);obtain⟨p,o,n,t4⟩:(IntKind.i64.wrap (q+(aT (es.take i):Int)+1)=q+(aT (es.take i):Int)+1)/\(IntKind.i64.wrap (q+(aT (es.take i):Int)+1+1)=q+(aT (es.take i):Int)+1+1)/\(IntKind.i64.wrap (q+(aT (es.take i):Int)+1+1+1)=q+(aT (es.take i):Int)+1+1+1)/\(q+(aT (es.take (i+1)):Int)=q+(aT (es.take i):Int)+1+1+1+(aT j:Int)):=⟨bH (by omega),bH (by omega),bH (by omega),by omega⟩
   have g:=sQ q c;rw[l]at c g;simp -implicitDefEqProofs only [Gq,D.mk,D.mn,ed]at g
   have i3:(1:Int)<=3:=by omega
   simp -implicitDefEqProofs only [Ln,t,s,r,p,o,n,t4,sR q (jZ b),sS q c,sU q c,qi q b,qh q b,qj q b,b,Ks b,wi b (aG hB (by simp[maxLen,gq])),ch,go_sem,bF,aA,bl,bz]
   exact congrArg (λa=>Z (Ex.norm,MS.mk _ _ a)) g)
 simp -implicitDefEqProofs only [bU,aV,bm,iV,aT,av,dh]at m
 simp -implicitDefEqProofs only [m,go_sem,aA,bz]
theorem Oo(n:Nat):∀(es:M (M D)),aw es < n->es.length<=gq->dw gq 3 es->∀(q:Int),0 < q->q+aT es<=4611686018427387904->gl T 18 J [.list 4 J es] q=Z ([.list 4 J (iV es q)],q+aT es):=by
 induction n with
 |zero=>intro es h;omega
 |succ n f=>
  intro es d hB ok q i g;refine Lv es hB ok (λx a=>?_) q i g;obtain⟨e,b,a⟩:=a;have c:=bR (pj a b) (iN d);obtain⟨p,o,m,l,rfl,_,s,r,⟨k,j⟩⟩:=mI (ok.mem e b);simp -implicitDefEqProofs only [aL,ei,reduceCtorEq,false_or,or_false,D.list.injEq,true_and]at a
  subst a;exact f _ c k j
theorem uN(es:M (M D))(hB:es.length<=gq)(ok:dw gq 3 es)(q:Int)(b:0 < q)(a:q+aT es<=4611686018427387904):gl T 18 J [.list 4 J es] q=Z ([.list 4 J (iV es q)],q+aT es):=Oo (aw es+1) es (by omega) hB ok q b a
theorem Lu(es:M (M D))(hB:es.length<=gq)(ok:dw gq 4 es)(q:Int)(v:0 < q)(t:q+aT es<=4611686018427387904) :
  gl T 19 J [.list 3 J es] q=Z ([.list 3 J (iV es q)],q+aT es):=by
 rw[k8 (f:=19) rfl];have h:=sP (T:=T) (own:=I) (k:=3) (body:=Lo) (λi=>⟨⟨[(1,.d (E (q+aT (es.take i)))),(5,.d (E i))],[],[]⟩,[(0,.lst)],iV (es.take i) q++es.drop i⟩) es.length
  (by simp -implicitDefEqProofs only [Lo,cx,aK,LH,aR,bE,go_sem,aA,bz];rfl)
  (by
   intro i b;have c:=cI b;have t1:=eA es (i+1);have t2:=dG c;obtain⟨s,r,e,j,_,_,⟨p,o⟩⟩:=oC (ok.uT c);have t3:rf es[i]=0+1+1+aT e:=by rw[j];simp -implicitDefEqProofs only [rf,D.mn]<;>omega
   have n:=uN e p o (q+(aT (es.take i):Int)+1+1) (by omega) (by omega);obtain⟨m,l,t4⟩:(IntKind.i64.wrap (q+(aT (es.take i):Int)+1)=q+(aT (es.take i):Int)+1)/\(IntKind.i64.wrap (q+(aT (es.take i):Int)+1+1)=q+(aT (es.take i):Int)+1+1)/\(q+(aT (es.take (i+1)):Int)=q+(aT (es.take i):Int)+1+1+(aT e:Int)):=⟨bH (by omega),bH (by omega),by omega⟩
   have g:=sQ q c;rw[j]at c g;simp -implicitDefEqProofs only [Gq,D.mk,D.mn,ed]at g
   have i3:(1:Int)<=3:=by omega
   simp -implicitDefEqProofs only [Lo,n,m,l,t4,sR q (jZ b),sS q c,sU q c,qi q b,qh q b,qj q b,b,Ks b,wi b (aG hB (by simp[maxLen,gq])),ch,go_sem,bF,aA,bl,bz]
   exact congrArg (λa=>Z (Ex.norm,MS.mk _ _ a)) g)
 simp -implicitDefEqProofs only [bU,aV,bm,iV,aT,av,dh]at h
 simp -implicitDefEqProofs only [h,go_sem,aA,bz]
theorem Lx(e:M D)(ok:eu gq (lay 5) e)(q:Int)(k:0 < q)(g:q+ox e<=4611686018427387904) :
  gl T 20 I e q=Z (Bd e q,q+ox e):=by
 obtain⟨a,b,rfl,⟨j,h⟩,⟨i,c1⟩⟩:=o9 ok;simp -implicitDefEqProofs only [ox,D.ox,cd]at g
 have d:=nf a j h (q) (by omega) (by omega);have c:=Lu b i c1 (q+(aT a:Int)) (by omega) (by omega);have t:q+((aT a+(aT b):Nat):Int)=q+(aT a:Int)+(aT b:Int):=by omega
 simp -implicitDefEqProofs only [Bd,D.Bd,ox,D.ox,cd,t]
 rw[Gd (f:=20) rfl];simp -implicitDefEqProofs only [d,c,jz,go_sem,bF,aA,bl,bz]
theorem HV(es:M (M D))(hB:es.length<=gq)(ok:dw gq 13 es)(q:Int)(v:0 < q)(t:q+aT es<=4611686018427387904) :
  gl T 154 J [.list 3 J es] q=Z ([.list 3 J (iV es q)],q+aT es):=by
 rw[k8 (f:=154) rfl];have h:=sP (T:=T) (own:=I) (k:=3) (body:=D4) (λi=>⟨⟨[(1,.d (E (q+aT (es.take i)))),(5,.d (E i))],[],[]⟩,[(0,.lst)],iV (es.take i) q++es.drop i⟩) es.length
  (by simp -implicitDefEqProofs only [D4,cx,aK,LH,aR,bE,go_sem,aA,bz];rfl)
  (by
   intro i b;have e:=cI b;have t1:=eA es (i+1);have t2:=dG e;obtain⟨c,s,r,j,⟨p,o⟩,_,_⟩:=lT (ok.uT e);have t3:rf es[i]=0+aT c+1+1:=by rw[j];simp -implicitDefEqProofs only [rf,D.mn]<;>omega
   have n:=nf c p o (q+(aT (es.take i):Int)) (by omega) (by omega);obtain⟨m,l,t4⟩:(IntKind.i64.wrap (q+(aT (es.take i):Int)+(aT c:Int)+1)=q+(aT (es.take i):Int)+(aT c:Int)+1)/\(IntKind.i64.wrap (q+(aT (es.take i):Int)+(aT c:Int)+1+1)=q+(aT (es.take i):Int)+(aT c:Int)+1+1)/\(q+(aT (es.take (i+1)):Int)=q+(aT (es.take i):Int)+(aT c:Int)+1+1):=⟨bH (by omega),bH (by omega),by omega⟩
   have g:=sQ q e;rw[j]at e g;simp -implicitDefEqProofs only [Gq,D.mk,D.mn,ed]at g
   have i3:(1:Int)<=3:=by omega
   simp -implicitDefEqProofs only [D4,n,m,l,t4,sR q (jZ b),sS q e,sU q e,qi q b,qh q b,qj q b,b,Ks b,wi b (aG hB (by simp[maxLen,gq])),ch,go_sem,bF,aA,bl,bz]
   exact congrArg (λa=>Z (Ex.norm,MS.mk _ _ a)) g)
 simp -implicitDefEqProofs only [bU,aV,bm,iV,aT,av,dh]at h
 simp -implicitDefEqProofs only [h,go_sem,aA,bz]
theorem LA(e:M D)(ok:eu gq (lay 14) e)(q:Int)(l:0 < q)(c:q+ox e<=4611686018427387904) :
  gl T 155 I e q=Z (Bd e q,q+ox e):=by
 obtain⟨k,j,i,h,a,rfl,_,_,_,m,⟨g,d⟩⟩:=pa ok;simp -implicitDefEqProofs only [ox,D.ox,bo,cd]at c
 have b:=nf a g d (q) (by omega) (by omega);have t:q+((aT a:Nat):Int)=q+(aT a:Int):=by omega
 simp -implicitDefEqProofs only [Bd,D.Bd,ox,D.ox,bo,cd,bU,dh]
 rw[Gd (f:=155) rfl];simp -implicitDefEqProofs only [b,jz,go_sem,bF,aA,bl,bz]
theorem Gn(e:M D)(ok:eu gq (lay 15) e)(q:Int)(F:0 < q)(m:q+ox e<=4611686018427387904) :
  gl T 156 I e q=Z (Bd e q,q+ox e):=by
 obtain⟨a,b,c,C,d,B,A,y,x,g,rfl,⟨w,p⟩,⟨v,c1⟩,⟨s,o⟩,_,⟨r,n⟩,_,_,_,K,⟨H,G⟩⟩:=qx ok;simp -implicitDefEqProofs only [ox,D.ox,bo,cd]at m
 have l:=uO a w p (q) (by omega) (by omega);have k:=nf b v c1 (q+(aT a:Int)) (by omega) (by omega);have j:=nf c s o (q+(aT a:Int)+(aT b:Int)) (by omega) (by omega);have i:=HV d r n (q+(aT a:Int)+(aT b:Int)+(aT c:Int)) (by omega) (by omega);have h:=LA _ (eu.sub 5 5 ok) (q+(aT a:Int)+(aT b:Int)+(aT c:Int)+(aT d:Int)) (by omega) (by simp -implicitDefEqProofs only [dJ,bm,cn,aV,ox,D.ox,bo,cd];omega);simp -implicitDefEqProofs only [dJ,bm,cn,aV,Bd,D.Bd,ox,D.ox,bo,cd,bU,dh]at h
 have t:q+((aT a+(aT b+(aT c+(aT d+(aT g)))):Nat):Int)=q+(aT a:Int)+(aT b:Int)+(aT c:Int)+(aT d:Int)+(aT g:Int):=by omega
 simp -implicitDefEqProofs only [Bd,D.Bd,ox,D.ox,bo,cd,bU,dh,t]
 rw[Gd (f:=156) rfl];simp -implicitDefEqProofs only [l,k,j,i,h,jz,go_sem,bF,aA,bl,bz]
end
section
open Go.RowKit
theorem ux(es:M (M D))(hB:es.length<=gq)(ok:dw gq 0 es)(q:Int)(n:0 < q)(m:q+aT es<=4611686018427387904) :
  dM T 158 [.val J [.d (.list 1 I (iV es q))],.val J [.d (E q)]]=Z ([.val J [.d (E (q+aT es))]],[]):=by
 rw[lj (f:=158) rfl rfl];have c:=yp (T:=T) (mf:=tN) (body:=D6) (λi=>⟨[(0,.d (.list 1 I (iV es q))),(1,.d (E (q+aT (es.take i)))),(5,.d (E i))],[],[]⟩) es.length (e:=.exit 0) (by simp)
  (by simp -implicitDefEqProofs only [D6,cx,LH,aR,go_sem,aA];rfl)
  (by
   intro i b;have a:=cI b;have t1:=eA es (i+1);have t2:=dG a;obtain⟨l,h,o⟩:=xy (ok.uT a);have t3:rf es[i]=0+1:=by rw[h];simp -implicitDefEqProofs only [rf,D.mn]<;>omega
   have k:=eW (q+(aT (es.take i):Int)) (by omega) (by omega);obtain⟨j,t4⟩:(IntKind.i64.wrap (q+(aT (es.take i):Int)+1)=q+(aT (es.take i):Int)+1)/\(q+(aT (es.take (i+1)):Int)=q+(aT (es.take i):Int)+1):=⟨bH (by omega),by omega⟩
   have g:=oT es q i _ a;rw[h]at g;simp -implicitDefEqProofs only [Gq,D.mk]at g
   have i3:(1:Int)<=3:=by omega
   simp -implicitDefEqProofs only [D6,k,j,t4,cx,g,Ks b,wi b (aG hB (by simp[maxLen,gq])),ch,go_sem,aA,bl])
 simp -implicitDefEqProofs only [bU,aV,aT,dh]at c
 simp -implicitDefEqProofs only [c,go_sem,aA]
theorem NQ(es:M (M D))(hB:es.length<=gq)(ok:dw gq 6 es)(q:Int)(o:0 < q)(n:q+aT es<=4611686018427387904) :
  dM T 157 [.val J [.d (.list 2 I (iV es q))],.val J [.d (E q)]]=Z ([.val J [.d (E (q+aT es))]],[]):=by
 rw[lj (f:=157) rfl rfl];have c:=yp (T:=T) (mf:=tN) (body:=D5) (λi=>⟨[(0,.d (.list 2 I (iV es q))),(1,.d (E (q+aT (es.take i)))),(5,.d (E i))],[],[]⟩) es.length (e:=.exit 0) (by simp)
  (by simp -implicitDefEqProofs only [D5,cx,LH,aR,go_sem,aA];rfl)
  (by
   intro i b;have a:=cI b;have t1:=eA es (i+1);have t2:=dG a;obtain⟨m,l,h,_,_⟩:=oD (ok.uT a);have t3:rf es[i]=0+1+1:=by rw[h];simp -implicitDefEqProofs only [rf,D.mn]<;>omega
   obtain⟨k,j,t4⟩:(IntKind.i64.wrap (q+(aT (es.take i):Int)+1)=q+(aT (es.take i):Int)+1)/\(IntKind.i64.wrap (q+(aT (es.take i):Int)+1+1)=q+(aT (es.take i):Int)+1+1)/\(q+(aT (es.take (i+1)):Int)=q+(aT (es.take i):Int)+1+1):=⟨bH (by omega),bH (by omega),by omega⟩
   have g:=oT es q i _ a;rw[h]at g;simp -implicitDefEqProofs only [Gq,D.mk,D.mn,ed]at g
   have i3:(1:Int)<=3:=by omega
   simp -implicitDefEqProofs only [D5,k,j,t4,cx,g,Ks b,wi b (aG hB (by simp[maxLen,gq])),ch,go_sem,bF,aA,bl])
 simp -implicitDefEqProofs only [bU,aV,aT,dh]at c
 simp -implicitDefEqProofs only [c,go_sem,aA]
theorem QD(es:M (M D))(hB:es.length<=gq)(ok:dw gq 8 es)(q:Int)(r:0 < q)(p:q+aT es<=4611686018427387904) :
  dM T 159 [.val J [.d (.list 2 I (iV es q))],.val J [.d (E q)]]=Z ([.val J [.d (E (q+aT es))]],[]):=by
 rw[lj (f:=159) rfl rfl];have c:=yp (T:=T) (mf:=tN) (body:=D7) (λi=>⟨[(0,.d (.list 2 I (iV es q))),(1,.d (E (q+aT (es.take i)))),(5,.d (E i))],[],[]⟩) es.length (e:=.exit 0) (by simp)
  (by simp -implicitDefEqProofs only [D7,cx,LH,aR,go_sem,aA];rfl)
  (by
   intro i b;have a:=cI b;have t1:=eA es (i+1);have t2:=dG a;obtain⟨o,n,h,t,s⟩:=qU (ok.uT a);have t3:rf es[i]=0+1+1:=by rw[h];simp -implicitDefEqProofs only [rf,D.mn]<;>omega
   have m:=eW (q+(aT (es.take i):Int)) (by omega) (by omega);have l:=eW (q+(aT (es.take i):Int)+1) (by omega) (by omega);obtain⟨k,j,t4⟩:(IntKind.i64.wrap (q+(aT (es.take i):Int)+1)=q+(aT (es.take i):Int)+1)/\(IntKind.i64.wrap (q+(aT (es.take i):Int)+1+1)=q+(aT (es.take i):Int)+1+1)/\(q+(aT (es.take (i+1)):Int)=q+(aT (es.take i):Int)+1+1):=⟨bH (by omega),bH (by omega),by omega⟩
   have g:=oT es q i _ a;rw[h]at g;simp -implicitDefEqProofs only [Gq,D.mk,D.mn,ed]at g
   have i3:(1:Int)<=3:=by omega
   simp -implicitDefEqProofs only [D7,m,l,k,j,t4,cx,g,Ks b,wi b (aG hB (by simp[maxLen,gq])),ch,go_sem,bF,aA,bl])
 simp -implicitDefEqProofs only [bU,aV,aT,dh]at c
 simp -implicitDefEqProofs only [c,go_sem,aA]
theorem QB(es:M (M D))(hB:es.length<=gq)(ok:dw gq 9 es)(q:Int)(s:0 < q)(r:q+aT es<=4611686018427387904) :
  dM T 160 [.val J [.d (.list 2 J (iV es q))],.val J [.d (E q)]]=Z ([.val J [.d (E (q+aT es))]],[]):=by
 rw[lj (f:=160) rfl rfl];have h:=yp (T:=T) (mf:=tN) (body:=D8) (λi=>⟨[(0,.d (.list 2 J (iV es q))),(1,.d (E (q+aT (es.take i)))),(5,.d (E i))],[],[]⟩) es.length (e:=.exit 0) (by simp)
  (by simp -implicitDefEqProofs only [D8,cx,LH,aR,go_sem,aA];rfl)
  (by
   intro i c;have b:=cI c;have t1:=eA es (i+1);have t2:=dG b;obtain⟨p,a,j,t,⟨o,c1⟩⟩:=qT (ok.uT b);have t3:rf es[i]=0+1+aT a:=by rw[j];simp -implicitDefEqProofs only [rf,D.mn]<;>omega
   have m:=eW (q+(aT (es.take i):Int)) (by omega) (by omega);have l:=QD a o c1 (q+(aT (es.take i):Int)+1) (by omega) (by omega);obtain⟨k,n,t4⟩:(IntKind.i64.wrap (q+(aT (es.take i):Int)+1)=q+(aT (es.take i):Int)+1)/\(¬(q+(aT (es.take i):Int)+1+(aT a:Int) < 0))/\(q+(aT (es.take (i+1)):Int)=q+(aT (es.take i):Int)+1+(aT a:Int)):=⟨bH (by omega),by omega,by omega⟩
   have g:=oT es q i _ b;rw[j]at g;simp -implicitDefEqProofs only [Gq,D.mk,D.mn,ed]at g
   have i3:(1:Int)<=3:=by omega
   simp -implicitDefEqProofs only [D8,m,l,k,n,t4,cx,g,Ks c,wi c (aG hB (by simp[maxLen,gq])),ch,go_sem,bF,aA,bl])
 simp -implicitDefEqProofs only [bU,aV,aT,dh]at h
 simp -implicitDefEqProofs only [h,go_sem,aA]
theorem Ki(es:M (M D))(hB:es.length<=gq)(ok:dw gq 11 es)(h:∀x,(∃e∈es,D.list 7 J x∈e)->∀(q:Int),0 < q->q+aT x<=4611686018427387904->dM T 161 [.val J [.d (.list 7 J (iV x q))],.val J [.d (E q)]]=Z ([.val J [.d (E (q+aT x))]],[]))(q:Int)(P:0 < q)(N:q+aT es<=4611686018427387904) :
  dM T 161 [.val J [.d (.list 7 J (iV es q))],.val J [.d (E q)]]=Z ([.val J [.d (E (q+aT es))]],[]):=by
 rw[lj (f:=161) rfl rfl];have l:=yp (T:=T) (mf:=tN) (body:=D9) (λi=>⟨[(0,.d (.list 7 J (iV es q))),(1,.d (E (q+aT (es.take i)))),(5,.d (E i))],[],[]⟩) es.length (e:=.exit 0) (by simp)
  (by simp -implicitDefEqProofs only [D9,cx,LH,aR,go_sem,aA];rfl)
  (by
   intro i j;have c:=cI j;have t1:=eA es (i+1);have t2:=dG c;obtain⟨L,K,H,G,F,a,b,k,_,_,S,_,_,⟨C,B⟩,⟨R,Q⟩⟩:=mJ (ok.uT c);have t3:rf es[i]=0+1+1+1+1+1+aT a+aT b:=by rw[k];simp -implicitDefEqProofs only [rf,D.mn]<;>omega
   have w:=eW (q+(aT (es.take i):Int)+1+1) (by omega) (by omega);have t:=QB a C B (q+(aT (es.take i):Int)+1+1+1+1+1) (by omega) (by omega);have s:=h b ⟨_,qk c,by rw[k];simp -implicitDefEqProofs only [aL,true_or,or_true]⟩ (q+(aT (es.take i):Int)+1+1+1+1+1+(aT a:Int)) (by omega) (by omega);obtain⟨r,p,o,v,n,m,A,y,t4⟩:(IntKind.i64.wrap (q+(aT (es.take i):Int)+1)=q+(aT (es.take i):Int)+1)/\(IntKind.i64.wrap (q+(aT (es.take i):Int)+1+1)=q+(aT (es.take i):Int)+1+1)/\(IntKind.i64.wrap (q+(aT (es.take i):Int)+1+1+1)=q+(aT (es.take i):Int)+1+1+1)/\((0:Int)<=q+(aT (es.take i):Int)+1+1+1)/\(IntKind.i64.wrap (q+(aT (es.take i):Int)+1+1+1+1)=q+(aT (es.take i):Int)+1+1+1+1)/\(IntKind.i64.wrap (q+(aT (es.take i):Int)+1+1+1+1+1)=q+(aT (es.take i):Int)+1+1+1+1+1)/\(¬(q+(aT (es.take i):Int)+1+1+1+1+1+(aT a:Int) < 0))/\(¬(q+(aT (es.take i):Int)+1+1+1+1+1+(aT a:Int)+(aT b:Int) < 0))/\(q+(aT (es.take (i+1)):Int)=q+(aT (es.take i):Int)+1+1+1+1+1+(aT a:Int)+(aT b:Int)):=⟨bH (by omega),bH (by omega),bH (by omega),by omega,bH (by omega),bH (by omega),by omega,by omega,by omega⟩
   have g:=oT es q i _ c;rw[k]at g;simp -implicitDefEqProofs only [Gq,D.mk,D.mn,ed]at g
   have i3:(1:Int)<=3:=by omega
   simp -implicitDefEqProofs only [D9,w,t,s,r,p,o,v,n,m,A,y,t4,i3,cx,g,Ks j,wi j (aG hB (by simp[maxLen,gq])),ch,go_sem,bF,aA,bl])
 simp -implicitDefEqProofs only [bU,aV,aT,dh]at l
 simp -implicitDefEqProofs only [l,go_sem,aA]
theorem NO(n:Nat):∀(es:M (M D)),aw es < n->es.length<=gq->dw gq 11 es->∀(q:Int),0 < q->q+aT es<=4611686018427387904->dM T 161 [.val J [.d (.list 7 J (iV es q))],.val J [.d (E q)]]=Z ([.val J [.d (E (q+aT es))]],[]):=by
 induction n with
 |zero=>intro es h;omega
 |succ n g=>
  intro es f hB ok q j i;refine Ki es hB ok (λx a=>?_) q j i;obtain⟨e,b,a⟩:=a;have c:=bR (pj a b) (iN f);obtain⟨v,t,s,r,p,o,m,rfl,_,_,A,_,_,⟨y,w⟩,⟨l,k⟩⟩:=mJ (ok.mem e b);simp -implicitDefEqProofs only [aL,ei,reduceCtorEq,false_or,or_false,D.list.injEq,aA,false_and,true_and]at a
  subst a;exact g _ c l k
theorem E9(es:M (M D))(hB:es.length<=gq)(ok:dw gq 11 es)(q:Int)(b:0 < q)(a:q+aT es<=4611686018427387904):dM T 161 [.val J [.d (.list 7 J (iV es q))],.val J [.d (E q)]]=Z ([.val J [.d (E (q+aT es))]],[]):=NO (aw es+1) es (by omega) hB ok q b a
theorem E_(es:M (M D))(hB:es.length<=gq)(ok:dw gq 12 es)(h:∀x,(∃e∈es,D.list 19 J x∈e)->∀(q:Int),0 < q->q+aT x<=4611686018427387904->dM T 162 [.val J [.d (.list 19 J (iV x q))],.val J [.d (E q)]]=Z ([.val J [.d (E (q+aT x))]],[]))(q:Int)(h0:0 < q)(h1:q+aT es<=4611686018427387904) :
  dM T 162 [.val J [.d (.list 19 J (iV es q))],.val J [.d (E q)]]=Z ([.val J [.d (E (q+aT es))]],[]):=by
 rw[lj (f:=162) rfl rfl];have N:=yp (T:=T) (mf:=tN) (body:=D_) (λi=>⟨[(0,.d (.list 19 J (iV es q))),(1,.d (E (q+aT (es.take i)))),(5,.d (E i))],[],[]⟩) es.length (e:=.exit 0) (by simp)
  (by simp -implicitDefEqProofs only [D_,cx,LH,aR,go_sem,aA];rfl)
  (by
   intro i F;have n:=cI F;have t1:=eA es (i+1);have t2:=dG n;obtain⟨x0,x1,x2,a,b,x5,x6,c,j,x9,V,U,S,R,Q,P,k,l,m,G,_,b1,_,⟨b3,c3⟩,⟨b4,c4⟩,b5,b6,⟨b7,c7⟩,⟨b8,c8⟩,b9,_,_,_,_,_,_,⟨PU,HJ⟩,⟨PV,Is⟩,⟨Uu,MX⟩⟩:=jM (ok.uT n);have t3:rf es[i]=0+1+1+1+aT a+aT b+1+1+aT c+aT j+1+1+1+1+1+1+1+aT k+aT l+aT m:=by rw[G];simp -implicitDefEqProofs only [rf,D.mn]<;>omega
   have m1:=eW (q+(aT (es.take i):Int)+1) (by omega) (by omega);have m3:=NQ a b3 c3 (q+(aT (es.take i):Int)+1+1+1) (by omega) (by omega);have m4:=ux b b4 c4 (q+(aT (es.take i):Int)+1+1+1+(aT a:Int)) (by omega) (by omega);have m5:=eW (q+(aT (es.take i):Int)+1+1+1+(aT a:Int)+(aT b:Int)) (by omega) (by omega);have m6:=eW (q+(aT (es.take i):Int)+1+1+1+(aT a:Int)+(aT b:Int)+1) (by omega) (by omega);have m7:=ux c b7 c7 (q+(aT (es.take i):Int)+1+1+1+(aT a:Int)+(aT b:Int)+1+1) (by omega) (by omega);have m8:=ux j b8 c8 (q+(aT (es.take i):Int)+1+1+1+(aT a:Int)+(aT b:Int)+1+1+(aT c:Int)) (by omega) (by omega);have m9:=eW (q+(aT (es.take i):Int)+1+1+1+(aT a:Int)+(aT b:Int)+1+1+(aT c:Int)+(aT j:Int)) (by omega) (by omega);have w:=E9 k PU HJ (q+(aT (es.take i):Int)+1+1+1+(aT a:Int)+(aT b:Int)+1+1+(aT c:Int)+(aT j:Int)+1+1+1+1+1+1+1) (by omega) (by omega);have m17:=E9 l PV Is (q+(aT (es.take i):Int)+1+1+1+(aT a:Int)+(aT b:Int)+1+1+(aT c:Int)+(aT j:Int)+1+1+1+1+1+1+1+(aT k:Int)) (by omega) (by omega);have m18:=h m ⟨_,qk n,by rw[G];simp -implicitDefEqProofs only [aL,true_or,or_true]⟩ (q+(aT (es.take i):Int)+1+1+1+(aT a:Int)+(aT b:Int)+1+1+(aT c:Int)+(aT j:Int)+1+1+1+1+1+1+1+(aT k:Int)+(aT l:Int)) (by omega) (by omega)
   obtain⟨w0,w1,w2,d3,d4,Y,X,d7,d8,W,C,v,B,t,A,s,y,r,p,o,L,K,H,t4⟩:(IntKind.i64.wrap (q+(aT (es.take i):Int)+1)=q+(aT (es.take i):Int)+1)/\(IntKind.i64.wrap (q+(aT (es.take i):Int)+1+1)=q+(aT (es.take i):Int)+1+1)/\(IntKind.i64.wrap (q+(aT (es.take i):Int)+1+1+1)=q+(aT (es.take i):Int)+1+1+1)/\(¬(q+(aT (es.take i):Int)+1+1+1+(aT a:Int) < 0))/\(¬(q+(aT (es.take i):Int)+1+1+1+(aT a:Int)+(aT b:Int) < 0))/\(IntKind.i64.wrap (q+(aT (es.take i):Int)+1+1+1+(aT a:Int)+(aT b:Int)+1)=q+(aT (es.take i):Int)+1+1+1+(aT a:Int)+(aT b:Int)+1)/\(IntKind.i64.wrap (q+(aT (es.take i):Int)+1+1+1+(aT a:Int)+(aT b:Int)+1+1)=q+(aT (es.take i):Int)+1+1+1+(aT a:Int)+(aT b:Int)+1+1)/\(¬(q+(aT (es.take i):Int)+1+1+1+(aT a:Int)+(aT b:Int)+1+1+(aT c:Int) < 0))/\(¬(q+(aT (es.take i):Int)+1+1+1+(aT a:Int)+(aT b:Int)+1+1+(aT c:Int)+(aT j:Int) < 0))/\(IntKind.i64.wrap (q+(aT (es.take i):Int)+1+1+1+(aT a:Int)+(aT b:Int)+1+1+(aT c:Int)+(aT j:Int)+1)=q+(aT (es.take i):Int)+1+1+1+(aT a:Int)+(aT b:Int)+1+1+(aT c:Int)+(aT j:Int)+1)/\((0:Int)<=q+(aT (es.take i):Int)+1+1+1+(aT a:Int)+(aT b:Int)+1+1+(aT c:Int)+(aT j:Int)+1)/\(IntKind.i64.wrap (q+(aT (es.take i):Int)+1+1+1+(aT a:Int)+(aT b:Int)+1+1+(aT c:Int)+(aT j:Int)+1+1)=q+(aT (es.take i):Int)+1+1+1+(aT a:Int)+(aT b:Int)+1+1+(aT c:Int)+(aT j:Int)+1+1)/\((0:Int)<=q+(aT (es.take i):Int)+1+1+1+(aT a:Int)+(aT b:Int)+1+1+(aT c:Int)+(aT j:Int)+1+1)/\(IntKind.i64.wrap (q+(aT (es.take i):Int)+1+1+1+(aT a:Int)+(aT b:Int)+1+1+(aT c:Int)+(aT j:Int)+1+1+1)=q+(aT (es.take i):Int)+1+1+1+(aT a:Int)+(aT b:Int)+1+1+(aT c:Int)+(aT j:Int)+1+1+1)/\((0:Int)<=q+(aT (es.take i):Int)+1+1+1+(aT a:Int)+(aT b:Int)+1+1+(aT c:Int)+(aT j:Int)+1+1+1)/\(IntKind.i64.wrap (q+(aT (es.take i):Int)+1+1+1+(aT a:Int)+(aT b:Int)+1+1+(aT c:Int)+(aT j:Int)+1+1+1+1)=q+(aT (es.take i):Int)+1+1+1+(aT a:Int)+(aT b:Int)+1+1+(aT c:Int)+(aT j:Int)+1+1+1+1)/\((0:Int)<=q+(aT (es.take i):Int)+1+1+1+(aT a:Int)+(aT b:Int)+1+1+(aT c:Int)+(aT j:Int)+1+1+1+1)/\(IntKind.i64.wrap (q+(aT (es.take i):Int)+1+1+1+(aT a:Int)+(aT b:Int)+1+1+(aT c:Int)+(aT j:Int)+1+1+1+1+1)=q+(aT (es.take i):Int)+1+1+1+(aT a:Int)+(aT b:Int)+1+1+(aT c:Int)+(aT j:Int)+1+1+1+1+1)/\(IntKind.i64.wrap (q+(aT (es.take i):Int)+1+1+1+(aT a:Int)+(aT b:Int)+1+1+(aT c:Int)+(aT j:Int)+1+1+1+1+1+1)=q+(aT (es.take i):Int)+1+1+1+(aT a:Int)+(aT b:Int)+1+1+(aT c:Int)+(aT j:Int)+1+1+1+1+1+1)/\(IntKind.i64.wrap (q+(aT (es.take i):Int)+1+1+1+(aT a:Int)+(aT b:Int)+1+1+(aT c:Int)+(aT j:Int)+1+1+1+1+1+1+1)=q+(aT (es.take i):Int)+1+1+1+(aT a:Int)+(aT b:Int)+1+1+(aT c:Int)+(aT j:Int)+1+1+1+1+1+1+1)/\(¬(q+(aT (es.take i):Int)+1+1+1+(aT a:Int)+(aT b:Int)+1+1+(aT c:Int)+(aT j:Int)+1+1+1+1+1+1+1+(aT k:Int) < 0))/\(¬(q+(aT (es.take i):Int)+1+1+1+(aT a:Int)+(aT b:Int)+1+1+(aT c:Int)+(aT j:Int)+1+1+1+1+1+1+1+(aT k:Int)+(aT l:Int) < 0))/\(¬(q+(aT (es.take i):Int)+1+1+1+(aT a:Int)+(aT b:Int)+1+1+(aT c:Int)+(aT j:Int)+1+1+1+1+1+1+1+(aT k:Int)+(aT l:Int)+(aT m:Int) < 0))/\(q+(aT (es.take (i+1)):Int)=q+(aT (es.take i):Int)+1+1+1+(aT a:Int)+(aT b:Int)+1+1+(aT c:Int)+(aT j:Int)+1+1+1+1+1+1+1+(aT k:Int)+(aT l:Int)+(aT m:Int)):=⟨bH (by omega),bH (by omega),bH (by omega),by omega,by omega,bH (by omega),bH (by omega),by omega,by omega,bH (by omega),by omega,bH (by omega),by omega,bH (by omega),by omega,bH (by omega),by omega,bH (by omega),bH (by omega),bH (by omega),by omega,by omega,by omega,by omega⟩
   have g:=oT es q i _ n;rw[G]at g;simp -implicitDefEqProofs only [Gq,D.mk,D.mn,ed]at g
   have i3:(1:Int)<=3:=by omega
   simp -implicitDefEqProofs only [D_,m1,m3,m4,m5,m6,m7,m8,m9,w,m17,m18,w0,w1,w2,d3,d4,Y,X,d7,d8,W,C,v,B,t,A,s,y,r,p,o,L,K,H,t4,i3,cx,g,Ks F,wi F (aG hB (by simp[maxLen,gq])),ch,go_sem,bF,aA,bl])
 simp -implicitDefEqProofs only [bU,aV,aT,dh]at N
 simp -implicitDefEqProofs only [N,go_sem,aA]
theorem HP(n:Nat):∀(es:M (M D)),aw es < n->es.length<=gq->dw gq 12 es->∀(q:Int),0 < q->q+aT es<=4611686018427387904->dM T 162 [.val J [.d (.list 19 J (iV es q))],.val J [.d (E q)]]=Z ([.val J [.d (E (q+aT es))]],[]):=by
 induction n with
 |zero=>intro es h;omega
 |succ n s=>
  intro es r hB ok q v t;refine E_ es hB ok (λx a=>?_) q v t;obtain⟨e,b,a⟩:=a;have p:=bR (pj a b) (iN r);obtain⟨P,N,L,K,H,G,F,C,B,A,o,m,l,k,j,i,g,f,c,rfl,_,b1,_,⟨b3,U⟩,⟨b4,S⟩,b5,Y,⟨X,R⟩,⟨W,Q⟩,V,_,_,_,_,_,_,⟨PU,HJ⟩,⟨PV,Is⟩,⟨w,y⟩⟩:=jM (ok.mem e b);simp -implicitDefEqProofs only [aL,ei,reduceCtorEq,false_or,or_false,D.list.injEq,aA,aF,false_and,and_false,true_and]at a
  subst a;exact s _ p w y
theorem Kl(es:M (M D))(hB:es.length<=gq)(ok:dw gq 12 es)(q:Int)(b:0 < q)(a:q+aT es<=4611686018427387904):dM T 162 [.val J [.d (.list 19 J (iV es q))],.val J [.d (E q)]]=Z ([.val J [.d (E (q+aT es))]],[]):=HP (aw es+1) es (by omega) hB ok q b a
theorem Kj(es:M (M D))(hB:es.length<=gq)(ok:dw gq 2 es)(h:∀x,(∃e∈es,D.list 3 J x∈e)->∀(q:Int),0 < q->q+aT x<=4611686018427387904->dM T 21 [.val J [.d (.list 3 J (iV x q))],.val J [.d (E q)]]=Z ([.val J [.d (E (q+aT x))]],[]))(q:Int)(w:0 < q)(v:q+aT es<=4611686018427387904) :
  dM T 21 [.val J [.d (.list 3 J (iV es q))],.val J [.d (E q)]]=Z ([.val J [.d (E (q+aT es))]],[]):=by
 rw[lj (f:=21) rfl rfl];have k:=yp (T:=T) (mf:=tN) (body:=Lp) (λi=>⟨[(0,.d (.list 3 J (iV es q))),(1,.d (E (q+aT (es.take i)))),(5,.d (E i))],[],[]⟩) es.length (e:=.exit 0) (by simp)
  (by simp -implicitDefEqProofs only [Lp,cx,LH,aR,go_sem,aA];rfl)
  (by
   intro i c;have b:=cI c;have t1:=eA es (i+1);have t2:=dG b;obtain⟨t,s,a,j,C,B,⟨A,y⟩⟩:=mK (ok.uT b);have t3:rf es[i]=0+1+1+aT a:=by rw[j];simp -implicitDefEqProofs only [rf,D.mn]<;>omega
   have p:=eW (q+(aT (es.take i):Int)) (by omega) (by omega);have o:=eW (q+(aT (es.take i):Int)+1) (by omega) (by omega);have n:=h a ⟨_,qk b,by rw[j];simp -implicitDefEqProofs only [aL,true_or,or_true]⟩ (q+(aT (es.take i):Int)+1+1) (by omega) (by omega);obtain⟨m,l,r,t4⟩:(IntKind.i64.wrap (q+(aT (es.take i):Int)+1)=q+(aT (es.take i):Int)+1)/\(IntKind.i64.wrap (q+(aT (es.take i):Int)+1+1)=q+(aT (es.take i):Int)+1+1)/\(¬(q+(aT (es.take i):Int)+1+1+(aT a:Int) < 0))/\(q+(aT (es.take (i+1)):Int)=q+(aT (es.take i):Int)+1+1+(aT a:Int)):=⟨bH (by omega),bH (by omega),by omega,by omega⟩
   have g:=oT es q i _ b;rw[j]at g;simp -implicitDefEqProofs only [Gq,D.mk,D.mn,ed]at g
   have i3:(1:Int)<=3:=by omega
   simp -implicitDefEqProofs only [Lp,p,o,n,m,l,r,t4,cx,g,Ks c,wi c (aG hB (by simp[maxLen,gq])),ch,go_sem,bF,aA,bl])
 simp -implicitDefEqProofs only [bU,aV,aT,dh]at k
 simp -implicitDefEqProofs only [k,go_sem,aA]
theorem NP(n:Nat):∀(es:M (M D)),aw es < n->es.length<=gq->dw gq 2 es->∀(q:Int),0 < q->q+aT es<=4611686018427387904->dM T 21 [.val J [.d (.list 3 J (iV es q))],.val J [.d (E q)]]=Z ([.val J [.d (E (q+aT es))]],[]):=by
 induction n with
 |zero=>intro es h;omega
 |succ n g=>
  intro es f hB ok q j i;refine Kj es hB ok (λx a=>?_) q j i;obtain⟨e,b,a⟩:=a;have c:=bR (pj a b) (iN f);obtain⟨p,o,m,rfl,s,r,⟨l,k⟩⟩:=mK (ok.mem e b);simp -implicitDefEqProofs only [aL,ei,reduceCtorEq,false_or,or_false,D.list.injEq,true_and]at a
  subst a;exact g _ c l k
theorem qR(es:M (M D))(hB:es.length<=gq)(ok:dw gq 2 es)(q:Int)(b:0 < q)(a:q+aT es<=4611686018427387904):dM T 21 [.val J [.d (.list 3 J (iV es q))],.val J [.d (E q)]]=Z ([.val J [.d (E (q+aT es))]],[]):=NP (aw es+1) es (by omega) hB ok q b a
theorem Kh(es:M (M D))(hB:es.length<=gq)(ok:dw gq 3 es)(h:∀x,(∃e∈es,D.list 4 J x∈e)->∀(q:Int),0 < q->q+aT x<=4611686018427387904->dM T 22 [.val J [.d (.list 4 J (iV x q))],.val J [.d (E q)]]=Z ([.val J [.d (E (q+aT x))]],[]))(q:Int)(A:0 < q)(y:q+aT es<=4611686018427387904) :
  dM T 22 [.val J [.d (.list 4 J (iV es q))],.val J [.d (E q)]]=Z ([.val J [.d (E (q+aT es))]],[]):=by
 rw[lj (f:=22) rfl rfl];have k:=yp (T:=T) (mf:=tN) (body:=Lq) (λi=>⟨[(0,.d (.list 4 J (iV es q))),(1,.d (E (q+aT (es.take i)))),(5,.d (E i))],[],[]⟩) es.length (e:=.exit 0) (by simp)
  (by simp -implicitDefEqProofs only [Lq,cx,LH,aR,go_sem,aA];rfl)
  (by
   intro i c;have b:=cI c;have t1:=eA es (i+1);have t2:=dG b;obtain⟨w,v,t,a,j,_,G,F,⟨C,B⟩⟩:=mI (ok.uT b);have t3:rf es[i]=0+1+1+1+aT a:=by rw[j];simp -implicitDefEqProofs only [rf,D.mn]<;>omega
   have r:=eW (q+(aT (es.take i):Int)+1) (by omega) (by omega);have p:=eW (q+(aT (es.take i):Int)+1+1) (by omega) (by omega);have o:=h a ⟨_,qk b,by rw[j];simp -implicitDefEqProofs only [aL,true_or,or_true]⟩ (q+(aT (es.take i):Int)+1+1+1) (by omega) (by omega);obtain⟨n,m,l,s,t4⟩:(IntKind.i64.wrap (q+(aT (es.take i):Int)+1)=q+(aT (es.take i):Int)+1)/\(IntKind.i64.wrap (q+(aT (es.take i):Int)+1+1)=q+(aT (es.take i):Int)+1+1)/\(IntKind.i64.wrap (q+(aT (es.take i):Int)+1+1+1)=q+(aT (es.take i):Int)+1+1+1)/\(¬(q+(aT (es.take i):Int)+1+1+1+(aT a:Int) < 0))/\(q+(aT (es.take (i+1)):Int)=q+(aT (es.take i):Int)+1+1+1+(aT a:Int)):=⟨bH (by omega),bH (by omega),bH (by omega),by omega,by omega⟩
   have g:=oT es q i _ b;rw[j]at g;simp -implicitDefEqProofs only [Gq,D.mk,D.mn,ed]at g
   have i3:(1:Int)<=3:=by omega
   simp -implicitDefEqProofs only [Lq,r,p,o,n,m,l,s,t4,cx,g,Ks c,wi c (aG hB (by simp[maxLen,gq])),ch,go_sem,bF,aA,bl])
 simp -implicitDefEqProofs only [bU,aV,aT,dh]at k
 simp -implicitDefEqProofs only [k,go_sem,aA]
theorem NN(n:Nat):∀(es:M (M D)),aw es < n->es.length<=gq->dw gq 3 es->∀(q:Int),0 < q->q+aT es<=4611686018427387904->dM T 22 [.val J [.d (.list 4 J (iV es q))],.val J [.d (E q)]]=Z ([.val J [.d (E (q+aT es))]],[]):=by
 induction n with
 |zero=>intro es h;omega
 |succ n g=>
  intro es f hB ok q j i;refine Kh es hB ok (λx a=>?_) q j i;obtain⟨e,b,a⟩:=a;have c:=bR (pj a b) (iN f);obtain⟨r,p,o,m,rfl,_,t,s,⟨l,k⟩⟩:=mI (ok.mem e b);simp -implicitDefEqProofs only [aL,ei,reduceCtorEq,false_or,or_false,D.list.injEq,true_and]at a
  subst a;exact g _ c l k
theorem QA(es:M (M D))(hB:es.length<=gq)(ok:dw gq 3 es)(q:Int)(b:0 < q)(a:q+aT es<=4611686018427387904):dM T 22 [.val J [.d (.list 4 J (iV es q))],.val J [.d (E q)]]=Z ([.val J [.d (E (q+aT es))]],[]):=NN (aw es+1) es (by omega) hB ok q b a
theorem HQ(es:M (M D))(hB:es.length<=gq)(ok:dw gq 13 es)(q:Int)(t:0 < q)(s:q+aT es<=4611686018427387904) :
  dM T 163 [.val J [.d (.list 3 J (iV es q))],.val J [.d (E q)]]=Z ([.val J [.d (E (q+aT es))]],[]):=by
 rw[lj (f:=163) rfl rfl];have h:=yp (T:=T) (mf:=tN) (body:=Ea) (λi=>⟨[(0,.d (.list 3 J (iV es q))),(1,.d (E (q+aT (es.take i)))),(5,.d (E i))],[],[]⟩) es.length (e:=.exit 0) (by simp)
  (by simp -implicitDefEqProofs only [Ea,cx,LH,aR,go_sem,aA];rfl)
  (by
   intro i c;have b:=cI c;have t1:=eA es (i+1);have t2:=dG b;obtain⟨a,r,p,j,⟨o,n⟩,_,_⟩:=lT (ok.uT b);have t3:rf es[i]=0+aT a+1+1:=by rw[j];simp -implicitDefEqProofs only [rf,D.mn]<;>omega
   have m:=qR a o n (q+(aT (es.take i):Int)) (by omega) (by omega);obtain⟨d0,l,k,t4⟩:(¬(q+(aT (es.take i):Int)+(aT a:Int) < 0))/\(IntKind.i64.wrap (q+(aT (es.take i):Int)+(aT a:Int)+1)=q+(aT (es.take i):Int)+(aT a:Int)+1)/\(IntKind.i64.wrap (q+(aT (es.take i):Int)+(aT a:Int)+1+1)=q+(aT (es.take i):Int)+(aT a:Int)+1+1)/\(q+(aT (es.take (i+1)):Int)=q+(aT (es.take i):Int)+(aT a:Int)+1+1):=⟨by omega,bH (by omega),bH (by omega),by omega⟩
   have g:=oT es q i _ b;rw[j]at g;simp -implicitDefEqProofs only [Gq,D.mk,D.mn,ed]at g
   have i3:(1:Int)<=3:=by omega
   simp -implicitDefEqProofs only [Ea,m,d0,l,k,t4,cx,g,Ks c,wi c (aG hB (by simp[maxLen,gq])),ch,go_sem,bF,aA,bl])
 simp -implicitDefEqProofs only [bU,aV,aT,dh]at h
 simp -implicitDefEqProofs only [h,go_sem,aA]
theorem Kk(e:M D)(ok:eu gq (lay 14) e)(q:Int)(n:0 < q)(c:q+ox e<=4611686018427387904) :
  dM T 164 [.val I ((Bd e q).map .d),.val J [.d (E q)]]=Z ([.val J [.d (E (q+ox e))]],[]):=by
 obtain⟨m,l,k,j,a,rfl,_,_,_,o,⟨i,h⟩⟩:=pa ok;simp -implicitDefEqProofs only [ox,D.ox,bo,cd]at c
 have b:=qR a i h (q) (by omega) (by omega);have g:¬(q+(aT a:Int) < 0):=by omega
 have t:q+((aT a:Nat):Int)=q+(aT a:Int):=by omega
 simp -implicitDefEqProofs only [Bd,D.Bd,ox,D.ox,bo,cd,bU,dh,aW,bD]
 rw[lj (f:=164) rfl rfl];simp -implicitDefEqProofs only [b,g,go_sem,bF,aA,bl]
theorem QC(e:M D)(ok:eu gq (lay 15) e)(q:Int)(N:0 < q)(n:q+ox e<=4611686018427387904) :
  dM T 165 [.val I ((Bd e q).map .d),.val J [.d (E q)]]=Z ([.val J [.d (E (q+ox e))]],[]):=by
 obtain⟨a,b,c,L,g,K,H,G,F,h,rfl,⟨C,x⟩,⟨B,c1⟩,⟨A,w⟩,_,⟨y,v⟩,_,_,_,R,⟨Q,P⟩⟩:=qx ok;simp -implicitDefEqProofs only [ox,D.ox,bo,cd]at n
 have m:=Kl a C x (q) (by omega) (by omega);have d0:¬(q+(aT a:Int) < 0):=by omega
 have l:=qR b B c1 (q+(aT a:Int)) (by omega) (by omega);have s:¬(q+(aT a:Int)+(aT b:Int) < 0):=by omega
 have k:=qR c A w (q+(aT a:Int)+(aT b:Int)) (by omega) (by omega);have r:¬(q+(aT a:Int)+(aT b:Int)+(aT c:Int) < 0):=by omega
 have j:=HQ g y v (q+(aT a:Int)+(aT b:Int)+(aT c:Int)) (by omega) (by omega);have p:¬(q+(aT a:Int)+(aT b:Int)+(aT c:Int)+(aT g:Int) < 0):=by omega
 have i:=Kk _ (eu.sub 5 5 ok) (q+(aT a:Int)+(aT b:Int)+(aT c:Int)+(aT g:Int)) (by omega) (by simp -implicitDefEqProofs only [dJ,bm,cn,aV,ox,D.ox,bo,cd];omega);simp -implicitDefEqProofs only [dJ,bm,cn,aV,aW,bD,Bd,D.Bd,ox,D.ox,bo,cd,bU,dh]at i
 have o:¬(q+(aT a:Int)+(aT b:Int)+(aT c:Int)+(aT g:Int)+(aT h:Int) < 0):=by omega
 have t:q+((aT a+(aT b+(aT c+(aT g+(aT h)))):Nat):Int)=q+(aT a:Int)+(aT b:Int)+(aT c:Int)+(aT g:Int)+(aT h:Int):=by omega
 simp -implicitDefEqProofs only [Bd,D.Bd,ox,D.ox,bo,cd,bU,dh,t,aW,bD]
 rw[lj (f:=165) rfl rfl];simp -implicitDefEqProofs only [m,d0,l,s,k,r,j,p,i,o,go_sem,bF,aA,bl]
end
section
section
variable {B:Nat}
theorem JY{es:M (M D)}(ok:dw B 0 es):∃a:M z,es=a.map fe:=nK λe b=>by
 obtain⟨x,h,_⟩:=xy (ok.mem e b);exact⟨x,h⟩
theorem UD{es:M (M D)}(ok:dw B 6 es):∃a:M j6,es=a.map k9:=nK λe b=>by
 obtain⟨x,y,h,_⟩:=oD (ok.mem e b);exact⟨⟨x,y⟩,h⟩
theorem Xm{es:M (M D)}(ok:dw B 8 es):∃a:M mC,es=a.map pP:=nK λe b=>by
 obtain⟨x,y,h,_⟩:=qU (ok.mem e b);exact⟨⟨x,y⟩,h⟩
theorem Xl{es:M (M D)}(ok:dw B 9 es):∃a:M pN,es=a.map iO:=nK λe d=>by
 obtain⟨x,y,h,_,_,c⟩:=qT (ok.mem e d);obtain⟨b,rfl⟩:=Xm c;exact⟨⟨x,b⟩,h⟩
theorem Qc(m:Nat):∀es:M (M D),aw es < m->dw B 11 es->∃xs:M dv,es=xs.map cu:=by
 induction m with
 |zero=>intro es h;omega
 |succ m n=>
  intro es r ok;refine nK λe b=>?_;obtain⟨i,g,f,d,c,q,a,h,_,_,_,_,_,⟨_,p⟩,⟨_,o⟩⟩:=mJ (ok.mem e b);obtain⟨j,rfl⟩:=Xl p;obtain⟨l,rfl⟩:=n a (by have:=iE (k:=7) (fl:=J) (xs:=a) b (by rw[h];simp only[aL,true_or,or_true]);omega) o;exact⟨⟨i,g,f,⟨d,c,j⟩,l⟩,by rw[h,bT]⟩
theorem M8{es:M (M D)}(ok:dw B 11 es):∃a:M dv,es=a.map cu:=Qc _ es (aP _) ok
theorem JX(m:Nat):∀es:M (M D),aw es < m->dw B 12 es->∃xs:M ah,es=xs.map ax:=by
 induction m with
 |zero=>intro es h;omega
 |succ m y=>
  intro es S ok;refine nK λe o=>?_;obtain⟨x,w,s,R,Q,r,q,P,N,p,n,l,j,i,g,f,v,t,a,h,_,_,_,⟨_,G⟩,⟨_,F⟩,_,_,⟨_,C⟩,⟨_,A⟩,_,_,_,_,_,_,_,⟨_,L⟩,⟨_,K⟩,⟨_,H⟩⟩:=jM (ok.mem e o);obtain⟨y3,rfl⟩:=UD G;obtain⟨y4,rfl⟩:=JY F;obtain⟨y7,rfl⟩:=JY C;obtain⟨y8,rfl⟩:=JY A;obtain⟨d,rfl⟩:=M8 L;obtain⟨c,rfl⟩:=M8 K;obtain⟨b,rfl⟩:=y a (by have:=iE (k:=19) (fl:=J) (xs:=a) o (by rw[h];simp only[aL,true_or,or_true]);omega) H;exact⟨⟨x,w,⟨s,y3,y4,r,q⟩,y7,y8,p,n,l,j,i,g,f,d,c,b⟩,by rw[h,af]⟩
theorem yA{es:M (M D)}(ok:dw B 12 es):∃a:M ah,es=a.map ax:=JX _ es (aP _) ok
theorem Qd(m:Nat):∀es:M (M D),aw es < m->dw B 2 es->∃xs:M az,es=xs.map aU:=by
 induction m with
 |zero=>intro es h;omega
 |succ m i=>
  intro es j ok;refine nK λe b=>?_;obtain⟨f,d,a,h,_,_,_,c⟩:=mK (ok.mem e b);obtain⟨g,rfl⟩:=i a (by have:=iE (k:=3) (fl:=J) (xs:=a) b (by rw[h];simp only[aL,true_or,or_true]);omega) c;exact⟨⟨f,d,g⟩,by rw[h,aN]⟩
theorem tz{es:M (M D)}(ok:dw B 2 es):∃a:M az,es=a.map aU:=Qd _ es (aP _) ok
end
end
section
theorem L9{es:M (M D)}(hB:es.length<=maxLen)(ok:dw maxLen 0 es):∀l:Int,0<=l->l<=1048576->∃r,G 46 [.list 1 I es,E l]=Z (0,[E r])/\Lz (es.length+oM es) l r:=by
 intro l s o;have w:IntKind.i64.wrap (l - (es.length:Int))=l - (es.length:Int):=wrap_i64 (by simp only[maxLen]at hB;omega);by_cases c:l - (es.length:Int) < 0
 ·exact⟨-1,ct t46 rfl (by simp only[go_sem,t46,w,c]),.inl rfl⟩
 have m:es.length<=mg:=by simp only[mg];omega
 have h:=Yk (b:=lB G N_) es (λn i=>(0,[.list 1 I es,E n,E (i:Int)])) (0,[E (-1)]) (λn=>(1,[.list 1 I es,E n,E es.length,.bool J])) (by
  intro i e n d s o;have f:=bp d;have k:=wj f m;have j:=ok.mem e (bc d);obtain⟨a,rfl,t⟩:=xy j;have w:IntKind.i64.wrap (n - (a.size:Int))=n - (a.size:Int):=wrap_i64 (by simp only[maxLen]at t;omega);by_cases c:n - (a.size:Int) < 0
  ·exact .inl (by simp only[go_sem,bG,N_,f,d,w,c])
  ·exact .inr ⟨n - (a.size:Int),by omega,by simp only[ee,D.sz];omega,by simp only[go_sem,bG,N_,f,d,k,w,c]⟩
  ) (by
  intro n;simp only[go_sem,bG,N_,aC]) es.length 0 (l - (es.length:Int)) (by omega) (by omega) (by omega)
 rw[n0]at h;rcases h with g|⟨r,p,q,g⟩
 ·exact⟨-1,ct t46 rfl (by simp only[go_sem,t46,w,c,g]),.inl rfl⟩
 ·rw[bm]at q;exact⟨r,ct t46 rfl (by simp only[go_sem,t46,w,c,g]),.inr ⟨p,by omega⟩⟩
theorem aag{e:M D}(ok:eu maxLen (lay 2) e)(m:∀b,.list 3 J b∈e->∀l:Int,0<=l->l<=1048576->∃r,G 4 [.list 3 J b,E l]=Z (0,[E r])/\Lz (b.length+oM b) l r):∀l:Int,0<=l->l<=1048576->∃r,G 3 (e++[E l])=Z (0,[E r])/\Lz (ee e) l r:=by
 intro l t s;obtain⟨a,c,k,rfl,p,o,⟨v,j⟩⟩:=mK ok;have d:IntKind.i64.wrap (l - (a.size:Int))=l - (a.size:Int):=wrap_i64 (by simp only[maxLen]at p;omega);by_cases f:l - (a.size:Int) < 0
 ·exact⟨-1,ct t3 rfl (by simp only[go_sem,t3,d,f]),.inl rfl⟩
 have g:IntKind.i64.wrap ((l - (a.size:Int)) - (c.size:Int))=(l - (a.size:Int)) - (c.size:Int):=wrap_i64 (by simp only[maxLen]at o;omega);by_cases c1:(l - (a.size:Int)) - (c.size:Int) < 0
 ·exact⟨-1,ct t3 rfl (by simp only[go_sem,t3,d,f,g,c1]),.inl rfl⟩
 obtain⟨h,i,n⟩:=m k (by simp only[aL,true_or,or_true]) ((l - (a.size:Int)) - (c.size:Int)) (by omega) (by omega);rcases n with rfl|⟨q,q2⟩
 ·exact⟨-1,ct t3 rfl (by simp only[go_sem,t3,d,f,g,c1,i]),.inl rfl⟩
 have j:¬h < 0:=by omega
 exact⟨h,ct t3 rfl (by simp only[go_sem,t3,d,f,g,c1,i,j]),.inr ⟨by omega,by simp only[ee,D.sz];omega⟩⟩
theorem RE{es:M (M D)}(hB:es.length<=maxLen)(ok:dw maxLen 2 es)(a:∀e∈es,∀l:Int,0<=l->l<=1048576->∃r,G 3 (e++[E l])=Z (0,[E r])/\Lz (ee e) l r):∀l:Int,0<=l->l<=1048576->∃r,G 4 [.list 3 J es,E l]=Z (0,[E r])/\Lz (es.length+oM es) l r:=by
 intro l c b;obtain⟨r,h,p⟩:=sf (F:=G) (k:=3) (g:=3) (fl:=J) hB (λe h=>ji (ok.mem e h)) a c b;exact⟨r,ct t4 rfl h,p⟩
theorem RD(m:Nat):∀es:M (M D),aw es < m->es.length<=maxLen->dw maxLen 2 es->∀l:Int,0<=l->l<=1048576->∃r,G 4 [.list 3 J es,E l]=Z (0,[E r])/\Lz (es.length+oM es) l r:=by
 induction m with
 |zero=>intro es h;omega
 |succ m g=>
  intro es i hB ok;refine RE hB ok λe a=>aag (ok.mem e a) λf d=>?_;obtain⟨b,c⟩:=Fv (ok.mem e a) d;exact g f (by have:=iE a d;omega) b c
theorem tW{es:M (M D)}(hB:es.length<=maxLen)(ok:dw maxLen 2 es):∀l:Int,0<=l->l<=1048576->∃r,G 4 [.list 3 J es,E l]=Z (0,[E r])/\Lz (es.length+oM es) l r:=RD _ es (aP _) hB ok
theorem aae{e:M D}(ok:eu maxLen (lay 3) e)(m:∀b,.list 4 J b∈e->∀l:Int,0<=l->l<=1048576->∃r,G 27 [.list 4 J b,E l]=Z (0,[E r])/\Lz (b.length+oM b) l r):∀l:Int,0<=l->l<=1048576->∃r,G 26 (e++[E l])=Z (0,[E r])/\Lz (ee e) l r:=by
 intro l w v;obtain⟨q,a,c,k,rfl,_,p,o,⟨x,j⟩⟩:=mI ok;have d:IntKind.i64.wrap (l - (a.size:Int))=l - (a.size:Int):=wrap_i64 (by simp only[maxLen]at p;omega);by_cases c1:l - (a.size:Int) < 0
 ·exact⟨-1,ct t26 rfl (by simp only[go_sem,t26,d,c1]),.inl rfl⟩
 have f:IntKind.i64.wrap ((l - (a.size:Int)) - (c.size:Int))=(l - (a.size:Int)) - (c.size:Int):=wrap_i64 (by simp only[maxLen]at o;omega);by_cases g:(l - (a.size:Int)) - (c.size:Int) < 0
 ·exact⟨-1,ct t26 rfl (by simp only[go_sem,t26,d,c1,f,g]),.inl rfl⟩
 obtain⟨h,i,n⟩:=m k (by simp only[aL,true_or,or_true]) ((l - (a.size:Int)) - (c.size:Int)) (by omega) (by omega);rcases n with rfl|⟨t,s⟩
 ·exact⟨-1,ct t26 rfl (by simp only[go_sem,t26,d,c1,f,g,i]),.inl rfl⟩
 have j:¬h < 0:=by omega
 exact⟨h,ct t26 rfl (by simp only[go_sem,t26,d,c1,f,g,i,j]),.inr ⟨by omega,by simp only[ee,D.sz];omega⟩⟩
theorem RA{es:M (M D)}(hB:es.length<=maxLen)(ok:dw maxLen 3 es)(a:∀e∈es,∀l:Int,0<=l->l<=1048576->∃r,G 26 (e++[E l])=Z (0,[E r])/\Lz (ee e) l r):∀l:Int,0<=l->l<=1048576->∃r,G 27 [.list 4 J es,E l]=Z (0,[E r])/\Lz (es.length+oM es) l r:=by
 intro l c b;obtain⟨r,h,p⟩:=sf (F:=G) (k:=4) (g:=26) (fl:=J) hB (λe h=>ji (ok.mem e h)) a c b;exact⟨r,ct t27 rfl h,p⟩
theorem Rz(m:Nat):∀es:M (M D),aw es < m->es.length<=maxLen->dw maxLen 3 es->∀l:Int,0<=l->l<=1048576->∃r,G 27 [.list 4 J es,E l]=Z (0,[E r])/\Lz (es.length+oM es) l r:=by
 induction m with
 |zero=>intro es h;omega
 |succ m g=>
  intro es i hB ok;refine RA hB ok λe a=>aae (ok.mem e a) λf d=>?_;obtain⟨b,c⟩:=Ft (ok.mem e a) d;exact g f (by have:=iE a d;omega) b c
theorem Hi{es:M (M D)}(hB:es.length<=maxLen)(ok:dw maxLen 3 es):∀l:Int,0<=l->l<=1048576->∃r,G 27 [.list 4 J es,E l]=Z (0,[E r])/\Lz (es.length+oM es) l r:=Rz _ es (aP _) hB ok
theorem Rw{e:M D}(ok:eu maxLen (lay 4) e):∀l:Int,0<=l->l<=1048576->∃r,G 28 (e++[E l])=Z (0,[E r])/\Lz (ee e) l r:=by
 intro l m k;obtain⟨i,h,g,rfl,_,_,⟨f,a⟩⟩:=oC ok;obtain⟨b,c,d⟩:=Hi f a l (by omega) (by omega);rcases d with rfl|⟨j,q2⟩
 ·exact⟨-1,ct t28 rfl (by simp only[go_sem,t28,c]),.inl rfl⟩
 have a:¬b < 0:=by omega
 exact⟨b,ct t28 rfl (by simp only[go_sem,t28,c,a]),.inr ⟨by omega,by simp only[ee,D.sz];omega⟩⟩
theorem L6{es:M (M D)}(hB:es.length<=maxLen)(ok:dw maxLen 4 es)(a:∀e∈es,∀l:Int,0<=l->l<=1048576->∃r,G 28 (e++[E l])=Z (0,[E r])/\Lz (ee e) l r):∀l:Int,0<=l->l<=1048576->∃r,G 29 [.list 3 J es,E l]=Z (0,[E r])/\Lz (es.length+oM es) l r:=by
 intro l c b;obtain⟨r,h,p⟩:=sf (F:=G) (k:=3) (g:=28) (fl:=J) hB (λe h=>ji (ok.mem e h)) a c b;exact⟨r,ct t29 rfl h,p⟩
theorem Ry{es:M (M D)}(hB:es.length<=maxLen)(ok:dw maxLen 4 es):∀l:Int,0<=l->l<=1048576->∃r,G 29 [.list 3 J es,E l]=Z (0,[E r])/\Lz (es.length+oM es) l r:=L6 hB ok λe a=>Rw (ok.mem e a)
theorem O4{e:M D}(ok:eu maxLen (lay 5) e):∀l:Int,0<=l->l<=1048576->∃r,G 30 (e++[E l])=Z (0,[E r])/\Lz (ee e) l r:=by
 intro l g f;obtain⟨m,k,rfl,⟨j,a⟩,⟨i,c1⟩⟩:=o9 ok;obtain⟨d,b,g⟩:=tW j a l (by omega) (by omega);rcases g with rfl|⟨p,n⟩
 ·exact⟨-1,ct t30 rfl (by simp only[go_sem,t30,b]),.inl rfl⟩
 have a:¬d < 0:=by omega
 obtain⟨c,h,f⟩:=Ry i c1 d (by omega) (by omega);rcases f with rfl|⟨o,q1⟩
 ·exact⟨-1,ct t30 rfl (by simp only[go_sem,t30,b,a,h]),.inl rfl⟩
 have c1:¬c < 0:=by omega
 exact⟨c,ct t30 rfl (by simp only[go_sem,t30,b,a,h,c1]),.inr ⟨by omega,by simp only[ee,D.sz];omega⟩⟩
theorem V3{es:M (M D)}(hB:es.length<=maxLen)(ok:dw maxLen 6 es):∀l:Int,0<=l->l<=1048576->∃r,G 45 [.list 2 I es,E l]=Z (0,[E r])/\Lz (es.length+oM es) l r:=by
 intro l j i;have w:IntKind.i64.wrap (l - (es.length:Int))=l - (es.length:Int):=wrap_i64 (by simp only[maxLen]at hB;omega);by_cases c:l - (es.length:Int) < 0
 ·exact⟨-1,ct t45 rfl (by simp only[go_sem,t45,w,c]),.inl rfl⟩
 have a:oM es=0:=by
  clear hB w c
  induction es with
  |nil=>rfl
  |cons e es f=>
   simp only[dw]at ok;obtain⟨d,b⟩:=ok;obtain⟨h,g,rfl,_,_⟩:=oD d;simp only[oM,ee,D.sz,f b]
 exact⟨l - (es.length:Int),ct t45 rfl (by simp only[go_sem,t45,w,c]),.inr ⟨by omega,by omega⟩⟩
theorem aak{e:M D}(ok:eu maxLen (lay 7) e):∀l:Int,0<=l->l<=1048576->∃r,G 47 (e++[E l])=Z (0,[E r])/\Lz (ee e) l r:=by
 intro l B m;obtain⟨x,w,v,b,f,rfl,_,⟨t,c1⟩,⟨s,d⟩,q,p⟩:=Ff ok;obtain⟨k,c,m⟩:=V3 t c1 l (by omega) (by omega);rcases m with rfl|⟨A,q1⟩
 ·exact⟨-1,ct t47 rfl (by simp only[go_sem,t47,c]),.inl rfl⟩
 have c1:¬k < 0:=by omega
 obtain⟨a,g,o⟩:=L9 s d k (by omega) (by omega);rcases o with rfl|⟨y,q2⟩
 ·exact⟨-1,ct t47 rfl (by simp only[go_sem,t47,c,c1,g]),.inl rfl⟩
 have d:¬a < 0:=by omega
 have h:IntKind.i64.wrap (a - (b.size:Int))=a - (b.size:Int):=wrap_i64 (by simp only[maxLen]at q;omega);by_cases i:a - (b.size:Int) < 0
 ·exact⟨-1,ct t47 rfl (by simp only[go_sem,t47,c,c1,g,d,h,i]),.inl rfl⟩
 have j:IntKind.i64.wrap ((a - (b.size:Int)) - (f.size:Int))=(a - (b.size:Int)) - (f.size:Int):=wrap_i64 (by simp only[maxLen]at p;omega);by_cases n:(a - (b.size:Int)) - (f.size:Int) < 0
 ·exact⟨-1,ct t47 rfl (by simp only[go_sem,t47,c,c1,g,d,h,i,j,n]),.inl rfl⟩
 exact⟨((a - (b.size:Int)) - (f.size:Int)),ct t47 rfl (by simp only[go_sem,t47,c,c1,g,d,h,i,j,n]),.inr ⟨by omega,by simp only[ee,D.sz];omega⟩⟩
theorem aaj{e:M D}(ok:eu maxLen (lay 8) e):∀l:Int,0<=l->l<=1048576->∃r,G 48 (e++[E l])=Z (0,[E r])/\Lz (ee e) l r:=by
 intro l j i;obtain⟨a,b,rfl,h,g⟩:=qU ok;have c:IntKind.i64.wrap (l - (a.size:Int))=l - (a.size:Int):=wrap_i64 (by simp only[maxLen]at h;omega);by_cases d:l - (a.size:Int) < 0
 ·exact⟨-1,ct t48 rfl (by simp only[go_sem,t48,c,d]),.inl rfl⟩
 have f:IntKind.i64.wrap ((l - (a.size:Int)) - (b.size:Int))=(l - (a.size:Int)) - (b.size:Int):=wrap_i64 (by simp only[maxLen]at g;omega);by_cases c1:(l - (a.size:Int)) - (b.size:Int) < 0
 ·exact⟨-1,ct t48 rfl (by simp only[go_sem,t48,c,d,f,c1]),.inl rfl⟩
 exact⟨((l - (a.size:Int)) - (b.size:Int)),ct t48 rfl (by simp only[go_sem,t48,c,d,f,c1]),.inr ⟨by omega,by simp only[ee,D.sz];omega⟩⟩
theorem RG{es:M (M D)}(hB:es.length<=maxLen)(ok:dw maxLen 8 es)(a:∀e∈es,∀l:Int,0<=l->l<=1048576->∃r,G 48 (e++[E l])=Z (0,[E r])/\Lz (ee e) l r):∀l:Int,0<=l->l<=1048576->∃r,G 49 [.list 2 I es,E l]=Z (0,[E r])/\Lz (es.length+oM es) l r:=by
 intro l c b;obtain⟨r,h,p⟩:=sf (F:=G) (k:=2) (g:=48) (fl:=I) hB (λe h=>ji (ok.mem e h)) a c b;exact⟨r,ct t49 rfl h,p⟩
theorem aam{es:M (M D)}(hB:es.length<=maxLen)(ok:dw maxLen 8 es):∀l:Int,0<=l->l<=1048576->∃r,G 49 [.list 2 I es,E l]=Z (0,[E r])/\Lz (es.length+oM es) l r:=RG hB ok λe a=>aaj (ok.mem e a)
theorem aai{e:M D}(ok:eu maxLen (lay 9) e):∀l:Int,0<=l->l<=1048576->∃r,G 50 (e++[E l])=Z (0,[E r])/\Lz (ee e) l r:=by
 intro l m f;obtain⟨a,j,rfl,i,⟨h,c1⟩⟩:=qT ok;have b:IntKind.i64.wrap (l - (a.size:Int))=l - (a.size:Int):=wrap_i64 (by simp only[maxLen]at i;omega);by_cases c:l - (a.size:Int) < 0
 ·exact⟨-1,ct t50 rfl (by simp only[go_sem,t50,b,c]),.inl rfl⟩
 obtain⟨d,g,f⟩:=aam h c1 (l - (a.size:Int)) (by omega) (by omega);rcases f with rfl|⟨k,q1⟩
 ·exact⟨-1,ct t50 rfl (by simp only[go_sem,t50,b,c,g]),.inl rfl⟩
 have c1:¬d < 0:=by omega
 exact⟨d,ct t50 rfl (by simp only[go_sem,t50,b,c,g,c1]),.inr ⟨by omega,by simp only[ee,D.sz];omega⟩⟩
theorem RF{es:M (M D)}(hB:es.length<=maxLen)(ok:dw maxLen 9 es)(a:∀e∈es,∀l:Int,0<=l->l<=1048576->∃r,G 50 (e++[E l])=Z (0,[E r])/\Lz (ee e) l r):∀l:Int,0<=l->l<=1048576->∃r,G 51 [.list 2 J es,E l]=Z (0,[E r])/\Lz (es.length+oM es) l r:=by
 intro l c b;obtain⟨r,h,p⟩:=sf (F:=G) (k:=2) (g:=50) (fl:=J) hB (λe h=>ji (ok.mem e h)) a c b;exact⟨r,ct t51 rfl h,p⟩
theorem aal{es:M (M D)}(hB:es.length<=maxLen)(ok:dw maxLen 9 es):∀l:Int,0<=l->l<=1048576->∃r,G 51 [.list 2 J es,E l]=Z (0,[E r])/\Lz (es.length+oM es) l r:=RF hB ok λe a=>aai (ok.mem e a)
theorem aah{e:M D}(ok:eu maxLen (lay 10) e):∀l:Int,0<=l->l<=1048576->∃r,G 52 (e++[E l])=Z (0,[E r])/\Lz (ee e) l r:=by
 intro l m k;obtain⟨i,h,g,rfl,_,_,⟨f,a⟩⟩:=Fe ok;obtain⟨b,c,d⟩:=aal f a l (by omega) (by omega);rcases d with rfl|⟨j,q2⟩
 ·exact⟨-1,ct t52 rfl (by simp only[go_sem,t52,c]),.inl rfl⟩
 have a:¬b < 0:=by omega
 exact⟨b,ct t52 rfl (by simp only[go_sem,t52,c,a]),.inr ⟨by omega,by simp only[ee,D.sz];omega⟩⟩
theorem aaf{e:M D}(ok:eu maxLen (lay 11) e)(p:∀a,.list 7 J a∈e->∀l:Int,0<=l->l<=1048576->∃r,G 54 [.list 7 J a,E l]=Z (0,[E r])/\Lz (a.length+oM a) l r):∀l:Int,0<=l->l<=1048576->∃r,G 53 (e++[E l])=Z (0,[E r])/\Lz (ee e) l r:=by
 intro l H F;obtain⟨y,x,b,w,v,t,n,rfl,_,_,s,_,_,⟨N,K⟩,⟨L,k⟩⟩:=mJ ok;have c:IntKind.i64.wrap (l - (b.size:Int))=l - (b.size:Int):=wrap_i64 (by simp only[maxLen]at s;omega);by_cases f:l - (b.size:Int) < 0
 ·exact⟨-1,ct t53 rfl (by simp only[go_sem,t53,c,f]),.inl rfl⟩
 obtain⟨h,d,i⟩:=aah (eu.sub 3 3 ok) (l - (b.size:Int)) (by omega) (by omega);simp only[dJ,bm,cn,aV,au,av]at d i;rcases i with rfl|⟨C,o⟩
 ·exact⟨-1,ct t53 rfl (by simp only[go_sem,t53,c,f,d]),.inl rfl⟩
 have m:¬h < 0:=by omega
 simp only[ee,D.sz]at o;obtain⟨g,j,q⟩:=p n (by simp only[aL,true_or,or_true]) h (by omega) (by omega);rcases q with rfl|⟨B,A⟩
 ·exact⟨-1,ct t53 rfl (by simp only[go_sem,t53,c,f,d,m,j]),.inl rfl⟩
 have k:¬g < 0:=by omega
 exact⟨g,ct t53 rfl (by simp only[go_sem,t53,c,f,d,m,j,k]),.inr ⟨by omega,by simp only[ee,D.sz];omega⟩⟩
theorem RC{es:M (M D)}(hB:es.length<=maxLen)(ok:dw maxLen 11 es)(a:∀e∈es,∀l:Int,0<=l->l<=1048576->∃r,G 53 (e++[E l])=Z (0,[E r])/\Lz (ee e) l r):∀l:Int,0<=l->l<=1048576->∃r,G 54 [.list 7 J es,E l]=Z (0,[E r])/\Lz (es.length+oM es) l r:=by
 intro l c b;obtain⟨r,h,p⟩:=sf (F:=G) (k:=7) (g:=53) (fl:=J) hB (λe h=>ji (ok.mem e h)) a c b;exact⟨r,ct t54 rfl h,p⟩
theorem RB(m:Nat):∀es:M (M D),aw es < m->es.length<=maxLen->dw maxLen 11 es->∀l:Int,0<=l->l<=1048576->∃r,G 54 [.list 7 J es,E l]=Z (0,[E r])/\Lz (es.length+oM es) l r:=by
 induction m with
 |zero=>intro es h;omega
 |succ m g=>
  intro es i hB ok;refine RC hB ok λe a=>aaf (ok.mem e a) λf d=>?_;obtain⟨b,c⟩:=Fu (ok.mem e a) d;exact g f (by have:=iE a d;omega) b c
theorem O8{es:M (M D)}(hB:es.length<=maxLen)(ok:dw maxLen 11 es):∀l:Int,0<=l->l<=1048576->∃r,G 54 [.list 7 J es,E l]=Z (0,[E r])/\Lz (es.length+oM es) l r:=RB _ es (aP _) hB ok
theorem Rx{e:M D}(ok:eu maxLen (lay 12) e)(ih:∀v,.list 19 J v∈e->∀l:Int,0<=l->l<=1048576->∃r,G 56 [.list 19 J v,E l]=Z (0,[E r])/\Lz (v.length+oM v) l r):∀l:Int,0<=l->l<=1048576->∃r,G 55 (e++[E l])=Z (0,[E r])/\Lz (ee e) l r:=by
 intro l h0 h1;obtain⟨x0,x,x2,x3,x4,x5,x6,x7,x8,w,W,V,U,T,S,R,Q,P,A,rfl,_,b1,_,⟨b3,c3⟩,⟨b4,c4⟩,b5,b6,⟨b7,d⟩,⟨b8,h⟩,b9,_,_,_,_,_,_,⟨PU,t⟩,⟨PV,y⟩,⟨Uu,N⟩⟩:=jM ok;have a:IntKind.i64.wrap (l - (x.size:Int))=l - (x.size:Int):=wrap_i64 (by simp only[maxLen]at b1;omega);by_cases c1:l - (x.size:Int) < 0
 ·exact⟨-1,ct t55 rfl (by simp only[go_sem,t55,a,c1]),.inl rfl⟩
 obtain⟨K,b,L⟩:=aak (eu.sub 2 5 ok) (l - (x.size:Int)) (by omega) (by omega);simp only[dJ,bm,cn,aV,au,av]at b L;rcases L with rfl|⟨p2,q2⟩
 ·exact⟨-1,ct t55 rfl (by simp only[go_sem,t55,a,c1,b]),.inl rfl⟩
 have i:¬K < 0:=by omega
 simp only[ee,D.sz]at q2;obtain⟨H,f,h7⟩:=L9 b7 d K (by omega) (by omega);rcases h7 with rfl|⟨p7,q7⟩
 ·exact⟨-1,ct t55 rfl (by simp only[go_sem,t55,a,c1,b,i,f]),.inl rfl⟩
 have d:¬H < 0:=by omega
 obtain⟨m,j,h8⟩:=L9 b8 h H (by omega) (by omega);rcases h8 with rfl|⟨p8,q8⟩
 ·exact⟨-1,ct t55 rfl (by simp only[go_sem,t55,a,c1,b,i,f,d,j]),.inl rfl⟩
 have h:¬m < 0:=by omega
 have k:IntKind.i64.wrap (m - (w.size:Int))=m - (w.size:Int):=wrap_i64 (by simp only[maxLen]at b9;omega);by_cases s:m - (w.size:Int) < 0
 ·exact⟨-1,ct t55 rfl (by simp only[go_sem,t55,a,c1,b,i,f,d,j,h,k,s]),.inl rfl⟩
 obtain⟨p,c,F⟩:=O8 PU t (m - (w.size:Int)) (by omega) (by omega);rcases F with rfl|⟨p16,q16⟩
 ·exact⟨-1,ct t55 rfl (by simp only[go_sem,t55,a,c1,b,i,f,d,j,h,k,s,c]),.inl rfl⟩
 have t:¬p < 0:=by omega
 obtain⟨o,g,C⟩:=O8 PV y p (by omega) (by omega);rcases C with rfl|⟨p17,Y⟩
 ·exact⟨-1,ct t55 rfl (by simp only[go_sem,t55,a,c1,b,i,f,d,j,h,k,s,c,t,g]),.inl rfl⟩
 have y:¬o < 0:=by omega
 obtain⟨n,q,B⟩:=ih A (by simp only[aL,true_or,or_true]) o (by omega) (by omega);rcases B with rfl|⟨p18,X⟩
 ·exact⟨-1,ct t55 rfl (by simp only[go_sem,t55,a,c1,b,i,f,d,j,h,k,s,c,t,g,y,q]),.inl rfl⟩
 have N:¬n < 0:=by omega
 exact⟨n,ct t55 rfl (by simp only[go_sem,t55,a,c1,b,i,f,d,j,h,k,s,c,t,g,y,q,N]),.inr ⟨by omega,by simp only[ee,D.sz];omega⟩⟩
theorem L8{es:M (M D)}(hB:es.length<=maxLen)(ok:dw maxLen 12 es)(a:∀e∈es,∀l:Int,0<=l->l<=1048576->∃r,G 55 (e++[E l])=Z (0,[E r])/\Lz (ee e) l r):∀l:Int,0<=l->l<=1048576->∃r,G 56 [.list 19 J es,E l]=Z (0,[E r])/\Lz (es.length+oM es) l r:=by
 intro l c b;obtain⟨r,h,p⟩:=sf (F:=G) (k:=19) (g:=55) (fl:=J) hB (λe h=>ji (ok.mem e h)) a c b;exact⟨r,ct t56 rfl h,p⟩
theorem L7(m:Nat):∀es:M (M D),aw es < m->es.length<=maxLen->dw maxLen 12 es->∀l:Int,0<=l->l<=1048576->∃r,G 56 [.list 19 J es,E l]=Z (0,[E r])/\Lz (es.length+oM es) l r:=by
 induction m with
 |zero=>intro es h;omega
 |succ m g=>
  intro es i hB ok;refine L8 hB ok λe a=>Rx (ok.mem e a) λf d=>?_;obtain⟨b,c⟩:=yO (ok.mem e a) d;exact g f (by have:=iE a d;omega) b c
theorem zh{es:M (M D)}(hB:es.length<=maxLen)(ok:dw maxLen 12 es):∀l:Int,0<=l->l<=1048576->∃r,G 56 [.list 19 J es,E l]=Z (0,[E r])/\Lz (es.length+oM es) l r:=L7 _ es (aP _) hB ok
theorem O6{e:M D}(ok:eu maxLen (lay 13) e):∀l:Int,0<=l->l<=1048576->∃r,G 124 (e++[E l])=Z (0,[E r])/\Lz (ee e) l r:=by
 intro l c m;obtain⟨i,h,g,rfl,⟨f,a⟩,_,_⟩:=lT ok;obtain⟨b,d,c⟩:=tW f a l (by omega) (by omega);rcases c with rfl|⟨k,j⟩
 ·exact⟨-1,ct t124 rfl (by simp only[go_sem,t124,d]),.inl rfl⟩
 have a:¬b < 0:=by omega
 exact⟨b,ct t124 rfl (by simp only[go_sem,t124,d,a]),.inr ⟨by omega,by simp only[ee,D.sz];omega⟩⟩
theorem HZ{es:M (M D)}(hB:es.length<=maxLen)(ok:dw maxLen 13 es)(a:∀e∈es,∀l:Int,0<=l->l<=1048576->∃r,G 124 (e++[E l])=Z (0,[E r])/\Lz (ee e) l r):∀l:Int,0<=l->l<=1048576->∃r,G 125 [.list 3 J es,E l]=Z (0,[E r])/\Lz (es.length+oM es) l r:=by
 intro l c b;obtain⟨r,h,p⟩:=sf (F:=G) (k:=3) (g:=124) (fl:=J) hB (λe h=>ji (ok.mem e h)) a c b;exact⟨r,ct t125 rfl h,p⟩
theorem O9{es:M (M D)}(hB:es.length<=maxLen)(ok:dw maxLen 13 es):∀l:Int,0<=l->l<=1048576->∃r,G 125 [.list 3 J es,E l]=Z (0,[E r])/\Lz (es.length+oM es) l r:=HZ hB ok λe a=>O6 (ok.mem e a)
theorem O5{e:M D}(ok:eu maxLen (lay 14) e):∀l:Int,0<=l->l<=1048576->∃r,G 126 (e++[E l])=Z (0,[E r])/\Lz (ee e) l r:=by
 intro l t s;obtain⟨o,n,m,a,k,rfl,_,_,_,j,⟨i,c⟩⟩:=pa ok;have b:IntKind.i64.wrap (l - (a.size:Int))=l - (a.size:Int):=wrap_i64 (by simp only[maxLen]at j;omega);by_cases d:l - (a.size:Int) < 0
 ·exact⟨-1,ct t126 rfl (by simp only[go_sem,t126,b,d]),.inl rfl⟩
 obtain⟨f,g,h⟩:=tW i c (l - (a.size:Int)) (by omega) (by omega);rcases h with rfl|⟨q,p⟩
 ·exact⟨-1,ct t126 rfl (by simp only[go_sem,t126,b,d,g]),.inl rfl⟩
 have c:¬f < 0:=by omega
 exact⟨f,ct t126 rfl (by simp only[go_sem,t126,b,d,g,c]),.inr ⟨by omega,by simp only[ee,D.sz];omega⟩⟩
theorem V2{e:M D}(ok:eu maxLen (lay 15) e):∀l:Int,0<=l->l<=1048576->∃r,G 127 (e++[E l])=Z (0,[E r])/\Lz (ee e) l r:=by
 intro l s q;obtain⟨T,S,R,Q,P,N,L,K,H,F,rfl,⟨C,a⟩,⟨B,c1⟩,⟨A,d⟩,_,⟨y,g⟩,_,_,_,b8,⟨b9,c9⟩⟩:=qx ok;obtain⟨o,b,s⟩:=zh C a l (by omega) (by omega);rcases s with rfl|⟨p0,V⟩
 ·exact⟨-1,ct t127 rfl (by simp only[go_sem,t127,b]),.inl rfl⟩
 have a:¬o < 0:=by omega
 obtain⟨n,c,q⟩:=tW B c1 o (by omega) (by omega);rcases q with rfl|⟨p1,q1⟩
 ·exact⟨-1,ct t127 rfl (by simp only[go_sem,t127,b,a,c]),.inl rfl⟩
 have c1:¬n < 0:=by omega
 obtain⟨m,f,w⟩:=tW A d n (by omega) (by omega);rcases w with rfl|⟨Y,q2⟩
 ·exact⟨-1,ct t127 rfl (by simp only[go_sem,t127,b,a,c,c1,f]),.inl rfl⟩
 have d:¬m < 0:=by omega
 obtain⟨k,i,v⟩:=O9 y g m (by omega) (by omega);rcases v with rfl|⟨X,U⟩
 ·exact⟨-1,ct t127 rfl (by simp only[go_sem,t127,b,a,c,c1,f,d,i]),.inl rfl⟩
 have g:¬k < 0:=by omega
 obtain⟨j,h,p⟩:=O5 (eu.sub 5 5 ok) k (by omega) (by omega);simp only[dJ,bm,cn,aV,au,av]at h p;rcases p with rfl|⟨W,t⟩
 ·exact⟨-1,ct t127 rfl (by simp only[go_sem,t127,b,a,c,c1,f,d,i,g,h]),.inl rfl⟩
 have x:¬j < 0:=by omega
 simp only[ee,D.sz]at t;exact⟨j,ct t127 rfl (by simp only[go_sem,t127,b,a,c,c1,f,d,i,g,h,x]),.inr ⟨by omega,by simp only[ee,D.sz];omega⟩⟩
end
section
theorem Mi{es:M (M D)}(l:es.length<=mg)(ok:dw mg 0 es):G 61 [.list 1 I es]=Z (0,[.list 1 I es]):=by
 have h:=ym (b:=lB G Tq) es (([zS []]:M SK).map SK.d) (λi a=>(0,[.list 1 I es,E (i:Int),.list 1 I a])) (λa=>(0,[.list 1 I es,E es.length,.bool J,.list 1 I a])) (by
  intro i e a f j;have m:=bp f;have o:=wj m l;have n:=ok.mem e (bc f);obtain⟨c,rfl,v⟩:=xy n;have q:=jd 1 I a i (bp j);have p:=sZ (fl:=I) (k:=1) (ds:=[.str c]) j rfl rfl (λ_=>rfl);have t:aZ (.has 1) [.list 0 J [[.str c]]]=Z (.bool J):=rfl;have s:aZ .pl [.str c]=Z (.bool J):=rfl;simp only[go_sem,bG,Tq,m,f,o,q,p]) (by
  intro a;simp only[go_sem,bG,Tq,aC])
 have g:=λby_ r=>oU (k:=1) (fl:=I) (by_:=by_) (zs:=[zS []]) l r;have g:=g 16 (by omega);rw[n0]at h;simp only[go_sem]at h;exact ct t61 rfl (by simp only[go_sem,t61,g,h])
theorem J7{es:M (M D)}(j:es.length<=mg)(ok:dw mg 0 es):G 110 [.list 1 I es,.list 1 I es]=Z (0,[.bool I]):=by
 have h:=nb (b:=lB G Ky) es (λi=>(0,[.list 1 I es,.list 1 I es,E (i:Int)])) (λ_=>I) (1,[.list 1 I es,.list 1 I es,E es.length,.bool J]) (0,[.bool J]) (by
  intro i e a;have c:=bp a;have g:=wj c j;have f:=ok.mem e (bc a);obtain⟨d,rfl,m⟩:=xy f;have l:aZ (.has 1) [.list 0 J [[.str d]]]=Z (.bool J):=rfl;simp only[go_sem,bG,Ky,c,a,g]) (by simp only[go_sem,bG,Ky,aC])
 rw[n0]at h;have k:(es.all λ_=>I)=I:=by simp
 rw[k]at h;simp only[go_sem]at h;exact ct t110 rfl (by simp only[go_sem,t110,h])
theorem aau{e:M D}(ok:eu mg (lay 2) e)(c:∀a,.list 3 J a∈e->G 6 [.list 3 J a]=Z (0,[.list 3 J a])):G 5 e=Z (0,e):=by
 obtain⟨g,f,b,rfl,k,j,⟨i,h⟩⟩:=mK ok;have d:=c b (by simp only[aL,true_or,or_true]);exact ct t5 rfl (by simp only[go_sem,t5,d])
theorem RU{es:M (M D)}(o:es.length<=mg)(ok:dw mg 2 es)(w:∀e∈es,G 5 e=Z (0,e)):G 6 [.list 3 J es]=Z (0,[.list 3 J es]):=by
 have h:=ym (b:=lB G ab4) es (([zS [],zS [],zL 3 J]:M SK).map SK.d) (λi a=>(0,[.list 3 J es,E (i:Int),.list 3 J a])) (λa=>(0,[.list 3 J es,E es.length,.bool J,.list 3 J a])) (by
  intro i e a c n;have p:=bp c;have r:=wj p o;have q:=ok.mem e (bc c);have f:=w e (bc c);obtain⟨j,g,m,rfl,F,C,⟨B,A⟩⟩:=mK q;have x:=jd 3 J a i (bp n);have s:=sZ (fl:=J) (k:=3) (ds:=[.str j,.str g,.list 3 J m]) n rfl rfl (λh=>by cases h);have v:aZ (.has 3) [.list 0 J [[.str j,.str g,.list 3 J m]]]=Z (.bool J):=rfl;have t:aZ .pl [.str j,.str g]=Z (.bool J):=rfl;simp only[go_sem,bG,ab4,p,c,v,f,r,x,s,t]) (by
  intro a;simp only[go_sem,bG,ab4,aC])
 have l:=λby_ y=>oU (k:=3) (fl:=J) (by_:=by_) (zs:=[zS [],zS [],zL 3 J]) o y;have l:=l 56 (by omega);rw[n0]at h;simp only[go_sem]at h;exact ct t6 rfl (by simp only[go_sem,t6,l,h])
theorem RT(m:Nat):∀es:M (M D),aw es < m->es.length<=mg->dw mg 2 es->G 6 [.list 3 J es]=Z (0,[.list 3 J es]):=by
 induction m with
 |zero=>intro es h;omega
 |succ m g=>
  intro es i hB ok;refine RU hB ok λe a=>aau (ok.mem e a) λf d=>?_;obtain⟨b,c⟩:=Fv (ok.mem e a) d;exact g f (by have:=iE a d;omega) b c
theorem tY{es:M (M D)}(hB:es.length<=mg)(ok:dw mg 2 es):G 6 [.list 3 J es]=Z (0,[.list 3 J es]):=RT _ es (aP _) hB ok
theorem XL{e:M D}(ok:eu mg (lay 2) e)(c:∀a,.list 3 J a∈e->G 10 [.list 3 J a,.list 3 J a]=Z (0,[.bool I])):G 9 (e++e)=Z (0,[.bool I]):=by
 obtain⟨g,f,b,rfl,k,j,⟨i,h⟩⟩:=mK ok;have d:=c b (by simp only[aL,true_or,or_true]);exact ct t9 rfl (by simp only[go_sem,t9,d])
theorem Qn{es:M (M D)}(a:es.length<=mg)(ok:dw mg 2 es)(b:∀e∈es,G 9 (e++e)=Z (0,[.bool I])):G 10 [.list 3 J es,.list 3 J es]=Z (0,[.bool I]):=by
 exact ct t10 rfl (qa (k:=3) (g:=9) (fl:=J) a (λe h=>ji (ok.mem e h)) b)
theorem Qm(m:Nat):∀es:M (M D),aw es < m->es.length<=mg->dw mg 2 es->G 10 [.list 3 J es,.list 3 J es]=Z (0,[.bool I]):=by
 induction m with
 |zero=>intro es h;omega
 |succ m g=>
  intro es i hB ok;refine Qn hB ok λe a=>XL (ok.mem e a) λf d=>?_;obtain⟨b,c⟩:=Fv (ok.mem e a) d;exact g f (by have:=iE a d;omega) b c
theorem qM{es:M (M D)}(hB:es.length<=mg)(ok:dw mg 2 es):G 10 [.list 3 J es,.list 3 J es]=Z (0,[.bool I]):=Qm _ es (aP _) hB ok
theorem aas{e:M D}(ok:eu mg (lay 3) e)(c:∀a,.list 4 J a∈e->G 32 [.list 4 J a]=Z (0,[.list 4 J a])):G 31 e=Z (0,e):=by
 obtain⟨h,g,f,b,rfl,_,l,k,⟨j,i⟩⟩:=mI ok;have d:=c b (by simp only[aL,true_or,or_true]);exact ct t31 rfl (by simp only[go_sem,t31,d])
theorem RQ{es:M (M D)}(p:es.length<=mg)(ok:dw mg 3 es)(x:∀e∈es,G 31 e=Z (0,e)):G 32 [.list 4 J es]=Z (0,[.list 4 J es]):=by
 have h:=ym (b:=lB G Tn) es (([zI 0,zS [],zS [],zL 4 J]:M SK).map SK.d) (λi a=>(0,[.list 4 J es,E (i:Int),.list 4 J a])) (λa=>(0,[.list 4 J es,E es.length,.bool J,.list 4 J a])) (by
  intro i e a c o;have q:=bp c;have s:=wj q p;have r:=ok.mem e (bc c);have f:=x e (bc c);obtain⟨l,j,g,n,rfl,_,H,F,⟨C,B⟩⟩:=mI r;have y:=jd 4 J a i (bp o);have t:=sZ (fl:=J) (k:=4) (ds:=[E l,.str j,.str g,.list 4 J n]) o rfl rfl (λh=>by cases h);have w:aZ (.has 4) [.list 0 J [[E l,.str j,.str g,.list 4 J n]]]=Z (.bool J):=rfl;have v:aZ .pl [E l,.str j,.str g]=Z (.bool J):=rfl;simp only[go_sem,bG,Tn,q,c,w,f,s,y,t,v]) (by
  intro a;simp only[go_sem,bG,Tn,aC])
 have m:=λby_ A=>oU (k:=4) (fl:=J) (by_:=by_) (zs:=[zI 0,zS [],zS [],zL 4 J]) p A;have m:=m 64 (by omega);rw[n0]at h;simp only[go_sem]at h;exact ct t32 rfl (by simp only[go_sem,t32,m,h])
theorem RP(m:Nat):∀es:M (M D),aw es < m->es.length<=mg->dw mg 3 es->G 32 [.list 4 J es]=Z (0,[.list 4 J es]):=by
 induction m with
 |zero=>intro es h;omega
 |succ m g=>
  intro es i hB ok;refine RQ hB ok λe a=>aas (ok.mem e a) λf d=>?_;obtain⟨b,c⟩:=Ft (ok.mem e a) d;exact g f (by have:=iE a d;omega) b c
theorem Hk{es:M (M D)}(hB:es.length<=mg)(ok:dw mg 3 es):G 32 [.list 4 J es]=Z (0,[.list 4 J es]):=RP _ es (aP _) hB ok
theorem XJ{e:M D}(ok:eu mg (lay 3) e)(c:∀a,.list 4 J a∈e->G 12 [.list 4 J a,.list 4 J a]=Z (0,[.bool I])):G 11 (e++e)=Z (0,[.bool I]):=by
 obtain⟨h,g,f,b,rfl,_,l,k,⟨j,i⟩⟩:=mI ok;have d:=c b (by simp only[aL,true_or,or_true]);exact ct t11 rfl (by simp only[go_sem,t11,d])
theorem Qj{es:M (M D)}(a:es.length<=mg)(ok:dw mg 3 es)(b:∀e∈es,G 11 (e++e)=Z (0,[.bool I])):G 12 [.list 4 J es,.list 4 J es]=Z (0,[.bool I]):=by
 exact ct t12 rfl (qa (k:=4) (g:=11) (fl:=J) a (λe h=>ji (ok.mem e h)) b)
theorem Qi(m:Nat):∀es:M (M D),aw es < m->es.length<=mg->dw mg 3 es->G 12 [.list 4 J es,.list 4 J es]=Z (0,[.bool I]):=by
 induction m with
 |zero=>intro es h;omega
 |succ m g=>
  intro es i hB ok;refine Qj hB ok λe a=>XJ (ok.mem e a) λf d=>?_;obtain⟨b,c⟩:=Ft (ok.mem e a) d;exact g f (by have:=iE a d;omega) b c
theorem Ae{es:M (M D)}(hB:es.length<=mg)(ok:dw mg 3 es):G 12 [.list 4 J es,.list 4 J es]=Z (0,[.bool I]):=Qi _ es (aP _) hB ok
theorem RM{e:M D}(ok:eu mg (lay 4) e):G 33 e=Z (0,e):=by
 obtain⟨g,f,d,rfl,_,_,⟨c,b⟩⟩:=oC ok;have a:=Hk c b;exact ct t33 rfl (by simp only[go_sem,t33,a])
theorem Me{es:M (M D)}(o:es.length<=mg)(ok:dw mg 4 es)(w:∀e∈es,G 33 e=Z (0,e)):G 34 [.list 3 J es]=Z (0,[.list 3 J es]):=by
 have h:=ym (b:=lB G To) es (([zI 0,zI 0,zL 4 J]:M SK).map SK.d) (λi a=>(0,[.list 3 J es,E (i:Int),.list 3 J a])) (λa=>(0,[.list 3 J es,E es.length,.bool J,.list 3 J a])) (by
  intro i e a c n;have p:=bp c;have r:=wj p o;have q:=ok.mem e (bc c);have f:=w e (bc c);obtain⟨j,g,m,rfl,_,_,⟨B,A⟩⟩:=oC q;have x:=jd 3 J a i (bp n);have s:=sZ (fl:=J) (k:=3) (ds:=[E j,E g,.list 4 J m]) n rfl rfl (λh=>by cases h);have v:aZ (.has 3) [.list 0 J [[E j,E g,.list 4 J m]]]=Z (.bool J):=rfl;have t:aZ .pl [E j,E g]=Z (.bool J):=rfl;simp only[go_sem,bG,To,p,c,v,f,r,x,s,t]) (by
  intro a;simp only[go_sem,bG,To,aC])
 have l:=λby_ y=>oU (k:=3) (fl:=J) (by_:=by_) (zs:=[zI 0,zI 0,zL 4 J]) o y;have l:=l 40 (by omega);rw[n0]at h;simp only[go_sem]at h;exact ct t34 rfl (by simp only[go_sem,t34,l,h])
theorem RO{es:M (M D)}(hB:es.length<=mg)(ok:dw mg 4 es):G 34 [.list 3 J es]=Z (0,[.list 3 J es]):=Me hB ok λe a=>RM (ok.mem e a)
theorem Qf{e:M D}(ok:eu mg (lay 4) e):G 13 (e++e)=Z (0,[.bool I]):=by
 obtain⟨g,f,d,rfl,_,_,⟨c,b⟩⟩:=oC ok;have a:=Ae c b;exact ct t13 rfl (by simp only[go_sem,t13,a])
theorem J4{es:M (M D)}(a:es.length<=mg)(ok:dw mg 4 es)(b:∀e∈es,G 13 (e++e)=Z (0,[.bool I])):G 14 [.list 3 J es,.list 3 J es]=Z (0,[.bool I]):=by
 exact ct t14 rfl (qa (k:=3) (g:=13) (fl:=J) a (λe h=>ji (ok.mem e h)) b)
theorem Qh{es:M (M D)}(hB:es.length<=mg)(ok:dw mg 4 es):G 14 [.list 3 J es,.list 3 J es]=Z (0,[.bool I]):=J4 hB ok λe a=>Qf (ok.mem e a)
theorem Pa{e:M D}(ok:eu mg (lay 5) e):G 35 e=Z (0,e):=by
 obtain⟨h,g,rfl,⟨f,c⟩,⟨d,c1⟩⟩:=o9 ok;have b:=tY f c;have a:=RO d c1;exact ct t35 rfl (by simp only[go_sem,t35,b,a])
theorem Nn{e:M D}(ok:eu mg (lay 5) e):G 15 (e++e)=Z (0,[.bool I]):=by
 obtain⟨h,g,rfl,⟨f,c⟩,⟨d,c1⟩⟩:=o9 ok;have b:=qM f c;have a:=Qh d c1;exact ct t15 rfl (by simp only[go_sem,t15,b,a])
theorem V9{e:M D}(ok:eu mg (lay 6) e):G 59 e=Z (0,e):=by
 obtain⟨b,a,rfl,_,_⟩:=oD ok;exact ct t59 rfl (by simp only[go_sem,t59,])
theorem Pe{es:M (M D)}(n:es.length<=mg)(ok:dw mg 6 es)(t:∀e∈es,G 59 e=Z (0,e)):G 60 [.list 2 I es]=Z (0,[.list 2 I es]):=by
 have h:=ym (b:=lB G Tp) es (([zI 0,zI 0]:M SK).map SK.d) (λi a=>(0,[.list 2 I es,E (i:Int),.list 2 I a])) (λa=>(0,[.list 2 I es,E es.length,.bool J,.list 2 I a])) (by
  intro i e a c m;have o:=bp c;have q:=wj o n;have p:=ok.mem e (bc c);have f:=t e (bc c);obtain⟨j,g,rfl,_,_⟩:=oD p;have v:=jd 2 I a i (bp m);have r:=sZ (fl:=I) (k:=2) (ds:=[E j,E g]) m rfl rfl (λ_=>rfl);have s:aZ (.has 2) [.list 0 J [[E j,E g]]]=Z (.bool J):=rfl;have x:aZ .pl [E j,E g]=Z (.bool J):=rfl;simp only[go_sem,bG,Tp,o,c,s,f,q,v,r]) (by
  intro a;simp only[go_sem,bG,Tp,aC])
 have l:=λby_ w=>oU (k:=2) (fl:=I) (by_:=by_) (zs:=[zI 0,zI 0]) n w;have l:=l 16 (by omega);rw[n0]at h;simp only[go_sem]at h;exact ct t60 rfl (by simp only[go_sem,t60,l,h])
theorem Wa{es:M (M D)}(hB:es.length<=mg)(ok:dw mg 6 es):G 60 [.list 2 I es]=Z (0,[.list 2 I es]):=Pe hB ok λe a=>V9 (ok.mem e a)
theorem UH{e:M D}(ok:eu mg (lay 6) e):G 108 (e++e)=Z (0,[.bool I]):=by
 obtain⟨b,a,rfl,_,_⟩:=oD ok;exact ct t108 rfl (by simp only[go_sem,t108])
theorem Nr{es:M (M D)}(a:es.length<=mg)(ok:dw mg 6 es)(b:∀e∈es,G 108 (e++e)=Z (0,[.bool I])):G 109 [.list 2 I es,.list 2 I es]=Z (0,[.bool I]):=by
 exact ct t109 rfl (qa (k:=2) (g:=108) (fl:=I) a (λe h=>ji (ok.mem e h)) b)
theorem UI{es:M (M D)}(hB:es.length<=mg)(ok:dw mg 6 es):G 109 [.list 2 I es,.list 2 I es]=Z (0,[.bool I]):=Nr hB ok λe a=>UH (ok.mem e a)
theorem aay{e:M D}(ok:eu mg (lay 7) e):G 62 e=Z (0,e):=by
 obtain⟨k,j,i,h,g,rfl,_,⟨f,c1⟩,⟨d,c⟩,m,l⟩:=Ff ok;have b:=Wa f c1;have a:=Mi d c;exact ct t62 rfl (by simp only[go_sem,t62,b,a])
theorem XP{e:M D}(ok:eu mg (lay 7) e):G 111 (e++e)=Z (0,[.bool I]):=by
 obtain⟨k,j,i,h,g,rfl,_,⟨f,c1⟩,⟨d,c⟩,m,l⟩:=Ff ok;have b:=UI f c1;have a:=J7 d c;exact ct t111 rfl (by simp only[go_sem,t111,b,a])
theorem aax{e:M D}(ok:eu mg (lay 8) e):G 63 e=Z (0,e):=by
 obtain⟨b,a,rfl,d,c⟩:=qU ok;exact ct t63 rfl (by simp only[go_sem,t63,])
theorem RX{es:M (M D)}(n:es.length<=mg)(ok:dw mg 8 es)(t:∀e∈es,G 63 e=Z (0,e)):G 64 [.list 2 I es]=Z (0,[.list 2 I es]):=by
 have h:=ym (b:=lB G Ts) es (([zS [],zS []]:M SK).map SK.d) (λi a=>(0,[.list 2 I es,E (i:Int),.list 2 I a])) (λa=>(0,[.list 2 I es,E es.length,.bool J,.list 2 I a])) (by
  intro i e a c m;have o:=bp c;have q:=wj o n;have p:=ok.mem e (bc c);have f:=t e (bc c);obtain⟨j,g,rfl,A,y⟩:=qU p;have v:=jd 2 I a i (bp m);have r:=sZ (fl:=I) (k:=2) (ds:=[.str j,.str g]) m rfl rfl (λ_=>rfl);have s:aZ (.has 2) [.list 0 J [[.str j,.str g]]]=Z (.bool J):=rfl;have x:aZ .pl [.str j,.str g]=Z (.bool J):=rfl;simp only[go_sem,bG,Ts,o,c,s,f,q,v,r]) (by
  intro a;simp only[go_sem,bG,Ts,aC])
 have l:=λby_ w=>oU (k:=2) (fl:=I) (by_:=by_) (zs:=[zS [],zS []]) n w;have l:=l 32 (by omega);rw[n0]at h;simp only[go_sem]at h;exact ct t64 rfl (by simp only[go_sem,t64,l,h])
theorem aaA{es:M (M D)}(hB:es.length<=mg)(ok:dw mg 8 es):G 64 [.list 2 I es]=Z (0,[.list 2 I es]):=RX hB ok λe a=>aax (ok.mem e a)
theorem XO{e:M D}(ok:eu mg (lay 8) e):G 112 (e++e)=Z (0,[.bool I]):=by
 obtain⟨b,a,rfl,d,c⟩:=qU ok;exact ct t112 rfl (by simp only[go_sem,t112])
theorem Qp{es:M (M D)}(a:es.length<=mg)(ok:dw mg 8 es)(b:∀e∈es,G 112 (e++e)=Z (0,[.bool I])):G 113 [.list 2 I es,.list 2 I es]=Z (0,[.bool I]):=by
 exact ct t113 rfl (qa (k:=2) (g:=112) (fl:=I) a (λe h=>ji (ok.mem e h)) b)
theorem XR{es:M (M D)}(hB:es.length<=mg)(ok:dw mg 8 es):G 113 [.list 2 I es,.list 2 I es]=Z (0,[.bool I]):=Qp hB ok λe a=>XO (ok.mem e a)
theorem aaw{e:M D}(ok:eu mg (lay 9) e):G 65 e=Z (0,e):=by
 obtain⟨d,c,rfl,f,⟨b,c1⟩⟩:=qT ok;have a:=aaA b c1;exact ct t65 rfl (by simp only[go_sem,t65,a])
theorem RW{es:M (M D)}(n:es.length<=mg)(ok:dw mg 9 es)(v:∀e∈es,G 65 e=Z (0,e)):G 66 [.list 2 J es]=Z (0,[.list 2 J es]):=by
 have h:=ym (b:=lB G Tt) es (([zS [],zL 2 I]:M SK).map SK.d) (λi a=>(0,[.list 2 J es,E (i:Int),.list 2 J a])) (λa=>(0,[.list 2 J es,E es.length,.bool J,.list 2 J a])) (by
  intro i e a c m;have o:=bp c;have q:=wj o n;have p:=ok.mem e (bc c);have f:=v e (bc c);obtain⟨g,l,rfl,A,⟨y,c1⟩⟩:=qT p;have w:=jd 2 J a i (bp m);have r:=sZ (fl:=J) (k:=2) (ds:=[.str g,.list 2 I l]) m rfl rfl (λh=>by cases h);have t:aZ (.has 2) [.list 0 J [[.str g,.list 2 I l]]]=Z (.bool J):=rfl;have s:aZ .pl [.str g]=Z (.bool J):=rfl;simp only[go_sem,bG,Tt,o,c,t,f,q,w,r,s]) (by
  intro a;simp only[go_sem,bG,Tt,aC])
 have j:=λby_ x=>oU (k:=2) (fl:=J) (by_:=by_) (zs:=[zS [],zL 2 I]) n x;have j:=j 40 (by omega);rw[n0]at h;simp only[go_sem]at h;exact ct t66 rfl (by simp only[go_sem,t66,j,h])
theorem aaz{es:M (M D)}(hB:es.length<=mg)(ok:dw mg 9 es):G 66 [.list 2 J es]=Z (0,[.list 2 J es]):=RW hB ok λe a=>aaw (ok.mem e a)
theorem XN{e:M D}(ok:eu mg (lay 9) e):G 114 (e++e)=Z (0,[.bool I]):=by
 obtain⟨d,c,rfl,f,⟨b,c1⟩⟩:=qT ok;have a:=XR b c1;exact ct t114 rfl (by simp only[go_sem,t114,a])
theorem Qo{es:M (M D)}(a:es.length<=mg)(ok:dw mg 9 es)(b:∀e∈es,G 114 (e++e)=Z (0,[.bool I])):G 115 [.list 2 J es,.list 2 J es]=Z (0,[.bool I]):=by
 exact ct t115 rfl (qa (k:=2) (g:=114) (fl:=J) a (λe h=>ji (ok.mem e h)) b)
theorem XQ{es:M (M D)}(hB:es.length<=mg)(ok:dw mg 9 es):G 115 [.list 2 J es,.list 2 J es]=Z (0,[.bool I]):=Qo hB ok λe a=>XN (ok.mem e a)
theorem aav{e:M D}(ok:eu mg (lay 10) e):G 67 e=Z (0,e):=by
 obtain⟨g,f,d,rfl,_,_,⟨c,b⟩⟩:=Fe ok;have a:=aaz c b;exact ct t67 rfl (by simp only[go_sem,t67,a])
theorem XM{e:M D}(ok:eu mg (lay 10) e):G 116 (e++e)=Z (0,[.bool I]):=by
 obtain⟨g,f,d,rfl,_,_,⟨c,b⟩⟩:=Fe ok;have a:=XQ c b;exact ct t116 rfl (by simp only[go_sem,t116,a])
theorem aat{e:M D}(ok:eu mg (lay 11) e)(d:∀a,.list 7 J a∈e->G 69 [.list 7 J a]=Z (0,[.list 7 J a])):G 68 e=Z (0,e):=by
 obtain⟨l,k,j,i,h,g,c,rfl,_,_,q,_,_,⟨p,n⟩,⟨o,m⟩⟩:=mJ ok;have b:=aav (eu.sub 3 3 ok);simp only[dJ,bm,cn,aV]at b;have f:=d c (by simp only[aL,true_or,or_true]);exact ct t68 rfl (by simp only[go_sem,t68,b,f])
theorem RS{es:M (M D)}(s:es.length<=mg)(ok:dw mg 11 es)(B:∀e∈es,G 68 e=Z (0,e)):G 69 [.list 7 J es]=Z (0,[.list 7 J es]):=by
 have h:=ym (b:=lB G Tu) es (([zI 0,zI 0,zS [],zB J,zI 0,zL 2 J,zL 7 J]:M SK).map SK.d) (λi a=>(0,[.list 7 J es,E (i:Int),.list 7 J a])) (λa=>(0,[.list 7 J es,E es.length,.bool J,.list 7 J a])) (by
  intro i e a c r;have t:=bp c;have w:=wj t s;have v:=ok.mem e (bc c);have f:=B e (bc c);obtain⟨n,m,l,j,g,q,p,rfl,_,_,P,_,_,⟨N,K⟩,⟨L,H⟩⟩:=mJ v;have C:=jd 7 J a i (bp r);have x:=sZ (fl:=J) (k:=7) (ds:=[E n,E m,.str l,.bool j,E g,.list 2 J q,.list 7 J p]) r rfl rfl (λh=>by cases h);have A:aZ (.has 7) [.list 0 J [[E n,E m,.str l,.bool j,E g,.list 2 J q,.list 7 J p]]]=Z (.bool J):=rfl;have y:aZ .pl [E n,E m,.str l,.bool j,E g]=Z (.bool J):=rfl;simp only[go_sem,bG,Tu,t,c,A,f,w,C,x,y]) (by
  intro a;simp only[go_sem,bG,Tu,aC])
 have o:=λby_ F=>oU (k:=7) (fl:=J) (by_:=by_) (zs:=[zI 0,zI 0,zS [],zB J,zI 0,zL 2 J,zL 7 J]) s F;have o:=o 96 (by omega);rw[n0]at h;simp only[go_sem]at h;exact ct t69 rfl (by simp only[go_sem,t69,o,h])
theorem RR(m:Nat):∀es:M (M D),aw es < m->es.length<=mg->dw mg 11 es->G 69 [.list 7 J es]=Z (0,[.list 7 J es]):=by
 induction m with
 |zero=>intro es h;omega
 |succ m g=>
  intro es i hB ok;refine RS hB ok λe a=>aat (ok.mem e a) λf d=>?_;obtain⟨b,c⟩:=Fu (ok.mem e a) d;exact g f (by have:=iE a d;omega) b c
theorem Pd{es:M (M D)}(hB:es.length<=mg)(ok:dw mg 11 es):G 69 [.list 7 J es]=Z (0,[.list 7 J es]):=RR _ es (aP _) hB ok
theorem XK{e:M D}(ok:eu mg (lay 11) e)(d:∀a,.list 7 J a∈e->G 118 [.list 7 J a,.list 7 J a]=Z (0,[.bool I])):G 117 (e++e)=Z (0,[.bool I]):=by
 obtain⟨l,k,j,i,h,g,c,rfl,_,_,q,_,_,⟨p,n⟩,⟨o,m⟩⟩:=mJ ok;have b:=XM (eu.sub 3 3 ok);simp only[dJ,bm,cn,aV,au,av]at b;have f:=d c (by simp only[aL,true_or,or_true]);exact ct t117 rfl (by simp only[go_sem,t117,b,f])
theorem Ql{es:M (M D)}(a:es.length<=mg)(ok:dw mg 11 es)(b:∀e∈es,G 117 (e++e)=Z (0,[.bool I])):G 118 [.list 7 J es,.list 7 J es]=Z (0,[.bool I]):=by
 exact ct t118 rfl (qa (k:=7) (g:=117) (fl:=J) a (λe h=>ji (ok.mem e h)) b)
theorem Qk(m:Nat):∀es:M (M D),aw es < m->es.length<=mg->dw mg 11 es->G 118 [.list 7 J es,.list 7 J es]=Z (0,[.bool I]):=by
 induction m with
 |zero=>intro es h;omega
 |succ m g=>
  intro es i hB ok;refine Ql hB ok λe a=>XK (ok.mem e a) λf d=>?_;obtain⟨b,c⟩:=Fu (ok.mem e a) d;exact g f (by have:=iE a d;omega) b c
theorem Nq{es:M (M D)}(hB:es.length<=mg)(ok:dw mg 11 es):G 118 [.list 7 J es,.list 7 J es]=Z (0,[.bool I]):=Qk _ es (aP _) hB ok
theorem RN{e:M D}(ok:eu mg (lay 12) e)(p:∀a,.list 19 J a∈e->G 71 [.list 19 J a]=Z (0,[.list 19 J a])):G 70 e=Z (0,e):=by
 obtain⟨S,R,Q,P,N,L,K,H,F,C,o,n,m,l,k,j,i,h,b,rfl,_,b1,_,⟨b3,U⟩,⟨Y,T⟩,X,W,⟨w,t⟩,⟨v,s⟩,V,_,_,_,_,_,_,⟨y,B⟩,⟨x,A⟩,⟨Uu,MX⟩⟩:=jM ok;have g:=aay (eu.sub 2 5 ok);simp only[dJ,bm,cn,aV]at g;have r:=Mi w t;have q:=Mi v s;have f:=Pd y B;have d:=Pd x A;have c:=p b (by simp only[aL,true_or,or_true]);exact ct t70 rfl (by simp only[go_sem,t70,g,r,q,f,d,c])
theorem Mh{es:M (M D)}(L:es.length<=mg)(ok:dw mg 12 es)(U:∀e∈es,G 70 e=Z (0,e)):G 71 [.list 19 J es]=Z (0,[.list 19 J es]):=by
 have h:=ym (b:=lB G Tv) es (([zI 0,zS [],zI 0,zL 2 I,zL 1 I,zS [],zS [],zL 1 I,zL 1 I,zS [],zB J,zB J,zB J,zB J,zI 0,zI 0,zL 7 J,zL 7 J,zL 19 J]:M SK).map SK.d) (λi a=>(0,[.list 19 J es,E (i:Int),.list 19 J a])) (λa=>(0,[.list 19 J es,E es.length,.bool J,.list 19 J a])) (by
  intro i e a r K;have N:=bp r;have Q:=wj N L;have P:=ok.mem e (bc r);have f:=U e (bc r);obtain⟨y,x,w,H,F,v,t,C,B,s,n,m,l,j,g,c,q,p,o,rfl,_,b1,_,⟨b3,c3⟩,⟨b4,c4⟩,b5,b6,⟨b7,Y⟩,⟨b8,X⟩,b9,_,_,_,_,_,_,⟨PU,HJ⟩,⟨PV,Is⟩,⟨Uu,MX⟩⟩:=jM P;have V:=jd 19 J a i (bp K);have R:=sZ (fl:=J) (k:=19) (ds:=[E y,.str x,E w,.list 2 I H,.list 1 I F,.str v,.str t,.list 1 I C,.list 1 I B,.str s,.bool n,.bool m,.bool l,.bool j,E g,E c,.list 7 J q,.list 7 J p,.list 19 J o]) K rfl rfl (λh=>by cases h);have T:aZ (.has 19) [.list 0 J [[E y,.str x,E w,.list 2 I H,.list 1 I F,.str v,.str t,.list 1 I C,.list 1 I B,.str s,.bool n,.bool m,.bool l,.bool j,E g,E c,.list 7 J q,.list 7 J p,.list 19 J o]]]=Z (.bool J):=rfl;have S:aZ .pl [E y,.str x,E w,.str v,.str t,.str s,.bool n,.bool m,.bool l,.bool j,E g,E c]=Z (.bool J):=rfl;simp only[go_sem,bG,Tv,N,r,T,f,Q,V,R,S]) (by
  intro a;simp only[go_sem,bG,Tv,aC])
 have A:=λby_ W=>oU (k:=19) (fl:=J) (by_:=by_) (zs:=[zI 0,zS [],zI 0,zL 2 I,zL 1 I,zS [],zS [],zL 1 I,zL 1 I,zS [],zB J,zB J,zB J,zB J,zI 0,zI 0,zL 7 J,zL 7 J,zL 19 J]) L W;have A:=A 272 (by omega);rw[n0]at h;simp only[go_sem]at h;exact ct t71 rfl (by simp only[go_sem,t71,A,h])
theorem Mg(m:Nat):∀es:M (M D),aw es < m->es.length<=mg->dw mg 12 es->G 71 [.list 19 J es]=Z (0,[.list 19 J es]):=by
 induction m with
 |zero=>intro es h;omega
 |succ m g=>
  intro es i hB ok;refine Mh hB ok λe a=>RN (ok.mem e a) λf d=>?_;obtain⟨b,c⟩:=yO (ok.mem e a) d;exact g f (by have:=iE a d;omega) b c
theorem zj{es:M (M D)}(hB:es.length<=mg)(ok:dw mg 12 es):G 71 [.list 19 J es]=Z (0,[.list 19 J es]):=Mg _ es (aP _) hB ok
theorem Qg{e:M D}(ok:eu mg (lay 12) e)(p:∀a,.list 19 J a∈e->G 120 [.list 19 J a,.list 19 J a]=Z (0,[.bool I])):G 119 (e++e)=Z (0,[.bool I]):=by
 obtain⟨S,R,Q,P,N,L,K,H,F,C,o,n,m,l,k,j,i,h,b,rfl,_,b1,_,⟨b3,U⟩,⟨Y,T⟩,X,W,⟨w,t⟩,⟨v,s⟩,V,_,_,_,_,_,_,⟨y,B⟩,⟨x,A⟩,⟨Uu,MX⟩⟩:=jM ok;have g:=XP (eu.sub 2 5 ok);simp only[dJ,bm,cn,aV,au,av]at g;have r:=J7 w t;have q:=J7 v s;have f:=Nq y B;have d:=Nq x A;have c:=p b (by simp only[aL,true_or,or_true]);exact ct t119 rfl (by simp only[go_sem,t119,g,r,q,f,d,c])
theorem J6{es:M (M D)}(a:es.length<=mg)(ok:dw mg 12 es)(b:∀e∈es,G 119 (e++e)=Z (0,[.bool I])):G 120 [.list 19 J es,.list 19 J es]=Z (0,[.bool I]):=by
 exact ct t120 rfl (qa (k:=19) (g:=119) (fl:=J) a (λe h=>ji (ok.mem e h)) b)
theorem J5(m:Nat):∀es:M (M D),aw es < m->es.length<=mg->dw mg 12 es->G 120 [.list 19 J es,.list 19 J es]=Z (0,[.bool I]):=by
 induction m with
 |zero=>intro es h;omega
 |succ m g=>
  intro es i hB ok;refine J6 hB ok λe a=>Qg (ok.mem e a) λf d=>?_;obtain⟨b,c⟩:=yO (ok.mem e a) d;exact g f (by have:=iE a d;omega) b c
theorem yD{es:M (M D)}(hB:es.length<=mg)(ok:dw mg 12 es):G 120 [.list 19 J es,.list 19 J es]=Z (0,[.bool I]):=J5 _ es (aP _) hB ok
theorem Pc{e:M D}(ok:eu mg (lay 13) e):G 128 e=Z (0,e):=by
 obtain⟨g,f,d,rfl,⟨c,b⟩,_,_⟩:=lT ok;have a:=tY c b;exact ct t128 rfl (by simp only[go_sem,t128,a])
theorem H_{es:M (M D)}(o:es.length<=mg)(ok:dw mg 13 es)(w:∀e∈es,G 128 e=Z (0,e)):G 129 [.list 3 J es]=Z (0,[.list 3 J es]):=by
 have h:=ym (b:=lB G Kz) es (([zL 3 J,zI 0,zI 0]:M SK).map SK.d) (λi a=>(0,[.list 3 J es,E (i:Int),.list 3 J a])) (λa=>(0,[.list 3 J es,E es.length,.bool J,.list 3 J a])) (by
  intro i e a c n;have p:=bp c;have r:=wj p o;have q:=ok.mem e (bc c);have f:=w e (bc c);obtain⟨m,j,g,rfl,⟨B,A⟩,_,_⟩:=lT q;have x:=jd 3 J a i (bp n);have s:=sZ (fl:=J) (k:=3) (ds:=[.list 3 J m,E j,E g]) n rfl rfl (λh=>by cases h);have v:aZ (.has 3) [.list 0 J [[.list 3 J m,E j,E g]]]=Z (.bool J):=rfl;have t:aZ .pl [E j,E g]=Z (.bool J):=rfl;simp only[go_sem,bG,Kz,p,c,v,f,r,x,s,t]) (by
  intro a;simp only[go_sem,bG,Kz,aC])
 have l:=λby_ y=>oU (k:=3) (fl:=J) (by_:=by_) (zs:=[zL 3 J,zI 0,zI 0]) o y;have l:=l 40 (by omega);rw[n0]at h;simp only[go_sem]at h;exact ct t129 rfl (by simp only[go_sem,t129,l,h])
theorem Pf{es:M (M D)}(hB:es.length<=mg)(ok:dw mg 13 es):G 129 [.list 3 J es]=Z (0,[.list 3 J es]):=H_ hB ok λe a=>Pc (ok.mem e a)
theorem Np{e:M D}(ok:eu mg (lay 13) e):G 144 (e++e)=Z (0,[.bool I]):=by
 obtain⟨g,f,d,rfl,⟨c,b⟩,_,_⟩:=lT ok;have a:=qM c b;exact ct t144 rfl (by simp only[go_sem,t144,a])
theorem HK{es:M (M D)}(a:es.length<=mg)(ok:dw mg 13 es)(b:∀e∈es,G 144 (e++e)=Z (0,[.bool I])):G 145 [.list 3 J es,.list 3 J es]=Z (0,[.bool I]):=by
 exact ct t145 rfl (qa (k:=3) (g:=144) (fl:=J) a (λe h=>ji (ok.mem e h)) b)
theorem Ns{es:M (M D)}(hB:es.length<=mg)(ok:dw mg 13 es):G 145 [.list 3 J es,.list 3 J es]=Z (0,[.bool I]):=HK hB ok λe a=>Np (ok.mem e a)
theorem Pb{e:M D}(ok:eu mg (lay 14) e):G 130 e=Z (0,e):=by
 obtain⟨i,h,g,f,d,rfl,_,_,_,j,⟨c,b⟩⟩:=pa ok;have a:=tY c b;exact ct t130 rfl (by simp only[go_sem,t130,a])
theorem No{e:M D}(ok:eu mg (lay 14) e):G 146 (e++e)=Z (0,[.bool I]):=by
 obtain⟨i,h,g,f,d,rfl,_,_,_,j,⟨c,b⟩⟩:=pa ok;have a:=qM c b;exact ct t146 rfl (by simp only[go_sem,t146,a])
theorem V_{e:M D}(ok:eu mg (lay 15) e):G 131 e=Z (0,e):=by
 obtain⟨x,w,v,t,s,r,q,p,o,n,rfl,⟨m,i⟩,⟨l,c1⟩,⟨k,h⟩,_,⟨j,g⟩,_,_,_,B,⟨A,y⟩⟩:=qx ok;have f:=zj m i;have d:=tY l c1;have c:=tY k h;have b:=Pf j g;have a:=Pb (eu.sub 5 5 ok);simp only[dJ,bm,cn,aV]at a;exact ct t131 rfl (by simp only[go_sem,t131,f,d,c,b,a])
theorem IG{e:M D}(ok:eu mg (lay 15) e):G 147 (e++e)=Z (0,[.bool I]):=by
 obtain⟨x,w,v,t,s,r,q,p,o,n,rfl,⟨m,i⟩,⟨l,c1⟩,⟨k,h⟩,_,⟨j,g⟩,_,_,_,B,⟨A,y⟩⟩:=qx ok;have f:=yD m i;have d:=qM l c1;have c:=qM k h;have b:=Ns j g;have a:=No (eu.sub 5 5 ok);simp only[dJ,bm,cn,aV,au,av]at a;exact ct t147 rfl (by simp only[go_sem,t147,f,d,c,b,a])
end
end Go.Proofs.YtnnjajingjfjiaaGreatDoor
