/- Part of the proof: a machine over plain data, its proof, the functions of the program run on symbols, what they answer. Condition: none. -/
import Derived.Test.YtcdjbelccndadaaGreatDoorZy06
set_option linter.unusedVariables false
set_option linter.unusedSimpArgs false
open Bool renaming false_eq_true->av
open ByteArray renaming size_append->gJ
open Int renaming toNat_natCast->cE,natCast_nonneg->cW,natCast_zero->dE,lt_irrefl->eA,natCast_one->iy,add_zero->jz
open List renaming cons_append->ai,nil_append->ao,mem_cons->ay,append_nil->aG,map_cons->aQ,take_length->aU,drop_zero->aV,take_zero->ba,drop_length->cu,take_succ_cons->cx,map_nil->dB,drop_succ_cons->gr,not_mem_nil->gM
open Nat renaming lt_irrefl->aq,reduceEqDiff->aw,le_trans->aA,lt_succ_self->aO,reduceLeDiff->aY,reduceBNe->aZ,lt_of_lt_of_le->bp,reduceAdd->bD,le_of_lt->kC,reduceLT->oL,le_of_lt_succ->qG
open SizeOf renaming sizeOf->ah
open UInt8 renaming ofNat->cL
namespace Go.Proofs.YtcdjbelccndadaaGreatDoor
set_option maxRecDepth 100000
set_option maxHeartbeats 4000000
section
open Go.RowKit
theorem RL:∀(f n:Nat) (out:ByteArray) (W:List (Nat×Row)),n < 10 ^ f->n<=9223372036854775807->out.size+f<=100->(W=[]\/∃r,W=[(12,r)])->
  ∃W',ev T tA (.loop sb) ⟨[(0,.d (.int .i64 n)),(3,.d (.str out))],[],W⟩=some (.exit 0,⟨[(0,.d (.int .i64 0)),(3,.d (.str (ym f n out))),(7,.d (.bool false))],[],W'⟩)
 |0,n,out,W,h,_,_,hW=>by
  obtain rfl:n=0:=by simp at h;omega
  rw[fI];rcases hW with rfl|⟨r,rfl⟩
  ·refine⟨[],?_⟩;simp -implicitDefEqProofs only [sb,ym,dE,eA,go_sem,aw]
  ·refine⟨[(12,r)],?_⟩;simp -implicitDefEqProofs only [sb,ym,dE,eA,go_sem,aw]
 |f+1,n,out,W,h,hb,ho,hW=>by
  by_cases h0:n=0
  ·subst h0;rw[fI];rcases hW with rfl|⟨r,rfl⟩
   ·refine⟨[],?_⟩;simp -implicitDefEqProofs only [sb,ym,dE,eA,go_sem,aw]
   ·refine⟨[(12,r)],?_⟩;simp -implicitDefEqProofs only [sb,ym,dE,eA,go_sem,aw]
  ·have hd:(0:Int) < (n:Int):=by omega
   have hr:(0:Int)<=(n:Int):=by omega
   have h1:IntKind.i64.wrap (48+(n:Int) % 10)=48+(n:Int) % 10:=bJ (by omega);have h2:IntKind.u8.wrap (48+(n:Int) % 10)=48+(n:Int) % 10:=by simp -implicitDefEqProofs only [IntKind.wrap,IntKind.bits,IntKind.signed];simp;omega
   have h3:(48+(n:Int) % 10).toNat=48+n % 10:=by omega
   have h4:(n:Int) / 10=((n / 10:Nat):Int):=by omega
   have h5:(⟨#[cL (48+n % 10)]⟩:ByteArray).size+out.size<=maxLen:=by rw[MP];simp -implicitDefEqProofs only [maxLen];omega
   obtain⟨W',ih⟩:=RL f (n / 10) (⟨#[cL (48+n % 10)]⟩++out) [(12,⟨[[.int .u8 (48+(n:Int) % 10)]],1,true,true,true,false⟩)] (by rw[Nat.pow_succ]at h;omega) (by omega) (by rw[gJ,MP];omega) (.inr ⟨_,rfl⟩);refine⟨W',?_⟩;have hi1:(1:Int)<=10:=by omega
   have h6:#[cL (48+n % 10)].size+out.size<=maxLen:=h5;have hb:ev T tA sb ⟨[(0,.d (.int .i64 n)),(3,.d (.str out))],[],W⟩=some (.norm,⟨[(0,.d (.int .i64 (n / 10:Nat))),(3,.d (.str (⟨#[cL (48+n % 10)]⟩++out)))],[],[(12,⟨[[.int .u8 (48+(n:Int) % 10)]],1,true,true,true,false⟩)]⟩):=by
    rcases hW with rfl|⟨r,rfl⟩<;>simp -implicitDefEqProofs only [sb,hd,hr,hi1,h1,h2,h3,h4,h6,bytesOf,aQ,dB,reduceCtorEq,go_sem,aw,oL]
   rw[fI,hb];simp -implicitDefEqProofs only [ym,h0,if_false]
   exact ih
theorem hH(q:Int)(h0:0 < q)(h1:q<=9223372036854775807):db T 16 [.val false [.d (.int .i64 q)]]=some ([.val false [.d (.str (Dq q))]],[]):=by
 obtain⟨n,rfl⟩:∃n:Nat,q=n:=⟨q.toNat,by omega⟩
 rw[rZ (f:=16) rfl rfl];obtain⟨W',hl⟩:=RL 20 n ⟨#[]⟩ [] (by omega) (by omega) (by decide) (.inl rfl);have hd:¬((n:Int)<=0):=by omega
 have hs:(Dq (n:Int)).size<=maxLen:=aA (HZ _) (by decide);simp -implicitDefEqProofs only [Dq,if_neg hd,cE]at hs ⊢
 rw[gJ]at hs;have hs2:#[(109:UInt8)].size+(ym 20 n ⟨#[]⟩).size<=maxLen:=hs;simp -implicitDefEqProofs only [hl,hd,hs2,go_sem,aw]
theorem lp(es:List (List D))(hB:es.length<=kZ)(ok:dL kZ 0 es)(q:Int)(h0:0 < q)(h1:q+bq es<=4611686018427387904) :
  gF T 149 false [.list 1 true es] q=some ([.list 1 true (kP es q)],q+bq es):=by
 rw[kO (f:=149) rfl];have hl:=sa (T:=T) (own:=true) (k:=1) (body:=yU) (λi=>⟨⟨[(1,.d (.int .i64 (q+bq (es.take i)))),(5,.d (.int .i64 i))],[],[]⟩,[(0,.lst)],kP (es.take i) q++es.drop i⟩) es.length
  (by simp -implicitDefEqProofs only [yU,df,aG,Vc,aU,cu,go_sem,aw,aZ];rfl)
  (by
   intro i hi;have hn:=dr hi;have t1:=hO es (i+1);have t2:=fK hn;obtain⟨x0,he,b0⟩:=vl (ok.Fy hn);have t3:yu es[i]=0+1:=by rw[he];simp -implicitDefEqProofs only [yu,D.mn]<;>omega
   have m0:=hH (q+(bq (es.take i):Int)) (by omega) (by omega);obtain⟨w0,t4⟩:(IntKind.i64.wrap (q+(bq (es.take i):Int)+1)=q+(bq (es.take i):Int)+1)/\(q+(bq (es.take (i+1)):Int)=q+(bq (es.take i):Int)+1):=⟨bJ (by omega),by omega⟩
   have g:=se q hn;rw[he]at hn g;simp -implicitDefEqProofs only [Om,D.mk]at g
   have i3:(1:Int)<=3:=by omega
   simp -implicitDefEqProofs only [yU,m0,w0,t4,sf q (kC hi),sh q hn,sj q hn,hi,UK hi,wi hi (aA hB (by simp[maxLen,kZ])),cW,go_sem,aw,aZ]
   exact congrArg (λz=>some (Ex.norm,MS.mk _ _ z)) g)
 simp -implicitDefEqProofs only [dE,ba,aV,kP,bq,ao,jz]at hl
 simp -implicitDefEqProofs only [hl,go_sem,aw,aZ]
theorem Ic(es:List (List D))(hB:es.length<=kZ)(ok:dL kZ 6 es)(q:Int)(h0:0 < q)(h1:q+bq es<=4611686018427387904) :
  gF T 148 false [.list 2 true es] q=some ([.list 2 true (kP es q)],q+bq es):=by
 rw[kO (f:=148) rfl];have hl:=sa (T:=T) (own:=true) (k:=2) (body:=yT) (λi=>⟨⟨[(1,.d (.int .i64 (q+bq (es.take i)))),(5,.d (.int .i64 i))],[],[]⟩,[(0,.lst)],kP (es.take i) q++es.drop i⟩) es.length
  (by simp -implicitDefEqProofs only [yT,df,aG,Vc,aU,cu,go_sem,aw,aZ];rfl)
  (by
   intro i hi;have hn:=dr hi;have t1:=hO es (i+1);have t2:=fK hn;obtain⟨x0,x1,he,_,_⟩:=lR (ok.Fy hn);have t3:yu es[i]=0+1+1:=by rw[he];simp -implicitDefEqProofs only [yu,D.mn]<;>omega
   obtain⟨w0,w1,t4⟩:(IntKind.i64.wrap (q+(bq (es.take i):Int)+1)=q+(bq (es.take i):Int)+1)/\(IntKind.i64.wrap (q+(bq (es.take i):Int)+1+1)=q+(bq (es.take i):Int)+1+1)/\(q+(bq (es.take (i+1)):Int)=q+(bq (es.take i):Int)+1+1):=⟨bJ (by omega),bJ (by omega),by omega⟩
   have g:=se q hn;rw[he]at hn g;simp -implicitDefEqProofs only [Om,D.mk,D.mn,iy]at g
   have i3:(1:Int)<=3:=by omega
   simp -implicitDefEqProofs only [yT,w0,w1,t4,sf q (kC hi),sh q hn,sj q hn,qo q hi,qn q hi,qp q hi,hi,UK hi,wi hi (aA hB (by simp[maxLen,kZ])),cW,go_sem,bD,aw,aZ]
   exact congrArg (λz=>some (Ex.norm,MS.mk _ _ z)) g)
 simp -implicitDefEqProofs only [dE,ba,aV,kP,bq,ao,jz]at hl
 simp -implicitDefEqProofs only [hl,go_sem,aw,aZ]
theorem J3(es:List (List D))(hB:es.length<=kZ)(ok:dL kZ 8 es)(q:Int)(h0:0 < q)(h1:q+bq es<=4611686018427387904) :
  gF T 150 false [.list 2 true es] q=some ([.list 2 true (kP es q)],q+bq es):=by
 rw[kO (f:=150) rfl];have hl:=sa (T:=T) (own:=true) (k:=2) (body:=yV) (λi=>⟨⟨[(1,.d (.int .i64 (q+bq (es.take i)))),(5,.d (.int .i64 i))],[],[]⟩,[(0,.lst)],kP (es.take i) q++es.drop i⟩) es.length
  (by simp -implicitDefEqProofs only [yV,df,aG,Vc,aU,cu,go_sem,aw,aZ];rfl)
  (by
   intro i hi;have hn:=dr hi;have t1:=hO es (i+1);have t2:=fK hn;obtain⟨x0,x1,he,b0,b1⟩:=mu (ok.Fy hn);have t3:yu es[i]=0+1+1:=by rw[he];simp -implicitDefEqProofs only [yu,D.mn]<;>omega
   have m0:=hH (q+(bq (es.take i):Int)) (by omega) (by omega);have m1:=hH (q+(bq (es.take i):Int)+1) (by omega) (by omega);obtain⟨w0,w1,t4⟩:(IntKind.i64.wrap (q+(bq (es.take i):Int)+1)=q+(bq (es.take i):Int)+1)/\(IntKind.i64.wrap (q+(bq (es.take i):Int)+1+1)=q+(bq (es.take i):Int)+1+1)/\(q+(bq (es.take (i+1)):Int)=q+(bq (es.take i):Int)+1+1):=⟨bJ (by omega),bJ (by omega),by omega⟩
   have g:=se q hn;rw[he]at hn g;simp -implicitDefEqProofs only [Om,D.mk,D.mn,iy]at g
   have i3:(1:Int)<=3:=by omega
   simp -implicitDefEqProofs only [yV,m0,m1,w0,w1,t4,sf q (kC hi),sh q hn,sj q hn,qo q hi,qn q hi,qp q hi,hi,UK hi,wi hi (aA hB (by simp[maxLen,kZ])),cW,go_sem,bD,aw,aZ]
   exact congrArg (λz=>some (Ex.norm,MS.mk _ _ z)) g)
 simp -implicitDefEqProofs only [dE,ba,aV,kP,bq,ao,jz]at hl
 simp -implicitDefEqProofs only [hl,go_sem,aw,aZ]
theorem J2(es:List (List D))(hB:es.length<=kZ)(ok:dL kZ 9 es)(q:Int)(h0:0 < q)(h1:q+bq es<=4611686018427387904) :
  gF T 151 false [.list 2 false es] q=some ([.list 2 false (kP es q)],q+bq es):=by
 rw[kO (f:=151) rfl];have hl:=sa (T:=T) (own:=true) (k:=2) (body:=yW) (λi=>⟨⟨[(1,.d (.int .i64 (q+bq (es.take i)))),(5,.d (.int .i64 i))],[],[]⟩,[(0,.lst)],kP (es.take i) q++es.drop i⟩) es.length
  (by simp -implicitDefEqProofs only [yW,df,aG,Vc,aU,cu,go_sem,aw,aZ];rfl)
  (by
   intro i hi;have hn:=dr hi;have t1:=hO es (i+1);have t2:=fK hn;obtain⟨x0,x1,he,b0,⟨b1,c1⟩⟩:=mr (ok.Fy hn);have t3:yu es[i]=0+1+bq x1:=by rw[he];simp -implicitDefEqProofs only [yu,D.mn]<;>omega
   have m0:=hH (q+(bq (es.take i):Int)) (by omega) (by omega);have m1:=J3 x1 b1 c1 (q+(bq (es.take i):Int)+1) (by omega) (by omega);obtain⟨w0,t4⟩:(IntKind.i64.wrap (q+(bq (es.take i):Int)+1)=q+(bq (es.take i):Int)+1)/\(q+(bq (es.take (i+1)):Int)=q+(bq (es.take i):Int)+1+(bq x1:Int)):=⟨bJ (by omega),by omega⟩
   have g:=se q hn;rw[he]at hn g;simp -implicitDefEqProofs only [Om,D.mk,D.mn,iy]at g
   have i3:(1:Int)<=3:=by omega
   simp -implicitDefEqProofs only [yW,m0,m1,w0,t4,sf q (kC hi),sh q hn,sj q hn,qo q hi,qn q hi,qp q hi,hi,UK hi,wi hi (aA hB (by simp[maxLen,kZ])),cW,go_sem,bD,aw,aY,aZ]
   exact congrArg (λz=>some (Ex.norm,MS.mk _ _ z)) g)
 simp -implicitDefEqProofs only [dE,ba,aV,kP,bq,ao,jz]at hl
 simp -implicitDefEqProofs only [hl,go_sem,aw,aZ]
theorem Ft(es:List (List D))(hB:es.length<=kZ)(ok:dL kZ 11 es)(h:∀x,(∃e∈es,D.list 7 false x∈e)->∀(q:Int),0 < q->q+bq x<=4611686018427387904->gF T 152 false [.list 7 false x] q=some ([.list 7 false (kP x q)],q+bq x))(q:Int)(h0:0 < q)(h1:q+bq es<=4611686018427387904) :
  gF T 152 false [.list 7 false es] q=some ([.list 7 false (kP es q)],q+bq es):=by
 rw[kO (f:=152) rfl];have hl:=sa (T:=T) (own:=true) (k:=7) (body:=yX) (λi=>⟨⟨[(1,.d (.int .i64 (q+bq (es.take i)))),(5,.d (.int .i64 i))],[],[]⟩,[(0,.lst)],kP (es.take i) q++es.drop i⟩) es.length
  (by simp -implicitDefEqProofs only [yX,df,aG,Vc,aU,cu,go_sem,aw,aZ];rfl)
  (by
   intro i hi;have hn:=dr hi;have t1:=hO es (i+1);have t2:=fK hn;obtain⟨x0,x1,x2,x3,x4,x5,x6,he,_,_,b2,_,_,⟨b5,c5⟩,⟨b6,c6⟩⟩:=ko (ok.Fy hn);have t3:yu es[i]=0+1+1+1+1+1+bq x5+bq x6:=by rw[he];simp -implicitDefEqProofs only [yu,D.mn]<;>omega
   have m2:=hH (q+(bq (es.take i):Int)+1+1) (by omega) (by omega);have m5:=J2 x5 b5 c5 (q+(bq (es.take i):Int)+1+1+1+1+1) (by omega) (by omega);have m6:=h x6 ⟨_,vw hn,by rw[he];simp -implicitDefEqProofs only [ay,true_or,or_true]⟩ (q+(bq (es.take i):Int)+1+1+1+1+1+(bq x5:Int)) (by omega) (by omega);obtain⟨w0,w1,w2,m3,w3,w4,t4⟩:(IntKind.i64.wrap (q+(bq (es.take i):Int)+1)=q+(bq (es.take i):Int)+1)/\(IntKind.i64.wrap (q+(bq (es.take i):Int)+1+1)=q+(bq (es.take i):Int)+1+1)/\(IntKind.i64.wrap (q+(bq (es.take i):Int)+1+1+1)=q+(bq (es.take i):Int)+1+1+1)/\((0:Int)<=q+(bq (es.take i):Int)+1+1+1)/\(IntKind.i64.wrap (q+(bq (es.take i):Int)+1+1+1+1)=q+(bq (es.take i):Int)+1+1+1+1)/\(IntKind.i64.wrap (q+(bq (es.take i):Int)+1+1+1+1+1)=q+(bq (es.take i):Int)+1+1+1+1+1)/\(q+(bq (es.take (i+1)):Int)=q+(bq (es.take i):Int)+1+1+1+1+1+(bq x5:Int)+(bq x6:Int)):=⟨bJ (by omega),bJ (by omega),bJ (by omega),by omega,bJ (by omega),bJ (by omega),by omega⟩
   have g:=se q hn;rw[he]at hn g;simp -implicitDefEqProofs only [Om,D.mk,D.mn,iy]at g
   have i3:(1:Int)<=3:=by omega
   simp -implicitDefEqProofs only [yX,m2,m5,m6,w0,w1,w2,m3,w3,w4,t4,i3,sf q (kC hi),sh q hn,sj q hn,qo q hi,qn q hi,qp q hi,hi,UK hi,wi hi (aA hB (by simp[maxLen,kZ])),cW,go_sem,bD,aw,aY,aZ]
   exact congrArg (λz=>some (Ex.norm,MS.mk _ _ z)) g)
 simp -implicitDefEqProofs only [dE,ba,aV,kP,bq,ao,jz]at hl
 simp -implicitDefEqProofs only [hl,go_sem,aw,aZ]
theorem Ia(n:Nat):∀(es:List (List D)),ah es < n->es.length<=kZ->dL kZ 11 es->∀(q:Int),0 < q->q+bq es<=4611686018427387904->gF T 152 false [.list 7 false es] q=some ([.list 7 false (kP es q)],q+bq es):=by
 induction n with
 |zero=>intro es h;omega
 |succ n hi=>
  intro es hn hB ok q h0 h1;refine Ft es hB ok (λx hx=>?_) q h0 h1;obtain⟨e,he,hx⟩:=hx;have hz:=bp (vG hx he) (qG hn);obtain⟨x0,x1,x2,x3,x4,x5,x6,rfl,_,_,b2,_,_,⟨b5,c5⟩,⟨b6,c6⟩⟩:=ko (ok.mem e he);simp -implicitDefEqProofs only [ay,gM,reduceCtorEq,false_or,or_false,D.list.injEq,aw,false_and,true_and]at hx
  subst hx;exact hi _ hz b6 c6
theorem A9(es:List (List D))(hB:es.length<=kZ)(ok:dL kZ 11 es)(q:Int)(h0:0 < q)(h1:q+bq es<=4611686018427387904):gF T 152 false [.list 7 false es] q=some ([.list 7 false (kP es q)],q+bq es):=Ia (ah es+1) es (by omega) hB ok q h0 h1
theorem Ba(es:List (List D))(hB:es.length<=kZ)(ok:dL kZ 12 es)(h:∀x,(∃e∈es,D.list 19 false x∈e)->∀(q:Int),0 < q->q+bq x<=4611686018427387904->gF T 153 false [.list 19 false x] q=some ([.list 19 false (kP x q)],q+bq x))(q:Int)(h0:0 < q)(h1:q+bq es<=4611686018427387904) :
  gF T 153 false [.list 19 false es] q=some ([.list 19 false (kP es q)],q+bq es):=by
 rw[kO (f:=153) rfl];have hl:=sa (T:=T) (own:=true) (k:=19) (body:=yY) (λi=>⟨⟨[(1,.d (.int .i64 (q+bq (es.take i)))),(5,.d (.int .i64 i))],[],[]⟩,[(0,.lst)],kP (es.take i) q++es.drop i⟩) es.length
  (by simp -implicitDefEqProofs only [yY,df,aG,Vc,aU,cu,go_sem,aw,aZ];rfl)
  (by
   intro i hi;have hn:=dr hi;have t1:=hO es (i+1);have t2:=fK hn;obtain⟨x0,x1,x2,x3,x4,x5,x6,x7,x8,x9,x10,x11,x12,x13,x14,x15,x16,x17,x18,he,_,b1,_,⟨b3,c3⟩,⟨b4,c4⟩,b5,b6,⟨b7,c7⟩,⟨b8,c8⟩,b9,_,_,_,_,_,_,⟨K9,CG⟩,⟨K_,D2⟩,⟨OV,IY⟩⟩:=ij (ok.Fy hn);have t3:yu es[i]=0+1+1+1+bq x3+bq x4+1+1+bq x7+bq x8+1+1+1+1+1+1+1+bq x16+bq x17+bq x18:=by rw[he];simp -implicitDefEqProofs only [yu,D.mn]<;>omega
   have m1:=hH (q+(bq (es.take i):Int)+1) (by omega) (by omega);have m3:=Ic x3 b3 c3 (q+(bq (es.take i):Int)+1+1+1) (by omega) (by omega);have m4:=lp x4 b4 c4 (q+(bq (es.take i):Int)+1+1+1+(bq x3:Int)) (by omega) (by omega);have m5:=hH (q+(bq (es.take i):Int)+1+1+1+(bq x3:Int)+(bq x4:Int)) (by omega) (by omega);have m6:=hH (q+(bq (es.take i):Int)+1+1+1+(bq x3:Int)+(bq x4:Int)+1) (by omega) (by omega);have m7:=lp x7 b7 c7 (q+(bq (es.take i):Int)+1+1+1+(bq x3:Int)+(bq x4:Int)+1+1) (by omega) (by omega);have m8:=lp x8 b8 c8 (q+(bq (es.take i):Int)+1+1+1+(bq x3:Int)+(bq x4:Int)+1+1+(bq x7:Int)) (by omega) (by omega);have m9:=hH (q+(bq (es.take i):Int)+1+1+1+(bq x3:Int)+(bq x4:Int)+1+1+(bq x7:Int)+(bq x8:Int)) (by omega) (by omega);have m16:=A9 x16 K9 CG (q+(bq (es.take i):Int)+1+1+1+(bq x3:Int)+(bq x4:Int)+1+1+(bq x7:Int)+(bq x8:Int)+1+1+1+1+1+1+1) (by omega) (by omega);have m17:=A9 x17 K_ D2 (q+(bq (es.take i):Int)+1+1+1+(bq x3:Int)+(bq x4:Int)+1+1+(bq x7:Int)+(bq x8:Int)+1+1+1+1+1+1+1+(bq x16:Int)) (by omega) (by omega);have m18:=h x18 ⟨_,vw hn,by rw[he];simp -implicitDefEqProofs only [ay,true_or,or_true]⟩ (q+(bq (es.take i):Int)+1+1+1+(bq x3:Int)+(bq x4:Int)+1+1+(bq x7:Int)+(bq x8:Int)+1+1+1+1+1+1+1+(bq x16:Int)+(bq x17:Int)) (by omega) (by omega)
   obtain⟨w0,w1,w2,w5,w6,w9,m10,w10,m11,w11,m12,w12,m13,w13,w14,w15,t4⟩:(IntKind.i64.wrap (q+(bq (es.take i):Int)+1)=q+(bq (es.take i):Int)+1)/\(IntKind.i64.wrap (q+(bq (es.take i):Int)+1+1)=q+(bq (es.take i):Int)+1+1)/\(IntKind.i64.wrap (q+(bq (es.take i):Int)+1+1+1)=q+(bq (es.take i):Int)+1+1+1)/\(IntKind.i64.wrap (q+(bq (es.take i):Int)+1+1+1+(bq x3:Int)+(bq x4:Int)+1)=q+(bq (es.take i):Int)+1+1+1+(bq x3:Int)+(bq x4:Int)+1)/\(IntKind.i64.wrap (q+(bq (es.take i):Int)+1+1+1+(bq x3:Int)+(bq x4:Int)+1+1)=q+(bq (es.take i):Int)+1+1+1+(bq x3:Int)+(bq x4:Int)+1+1)/\(IntKind.i64.wrap (q+(bq (es.take i):Int)+1+1+1+(bq x3:Int)+(bq x4:Int)+1+1+(bq x7:Int)+(bq x8:Int)+1)=q+(bq (es.take i):Int)+1+1+1+(bq x3:Int)+(bq x4:Int)+1+1+(bq x7:Int)+(bq x8:Int)+1)/\((0:Int)<=q+(bq (es.take i):Int)+1+1+1+(bq x3:Int)+(bq x4:Int)+1+1+(bq x7:Int)+(bq x8:Int)+1)/\(IntKind.i64.wrap (q+(bq (es.take i):Int)+1+1+1+(bq x3:Int)+(bq x4:Int)+1+1+(bq x7:Int)+(bq x8:Int)+1+1)=q+(bq (es.take i):Int)+1+1+1+(bq x3:Int)+(bq x4:Int)+1+1+(bq x7:Int)+(bq x8:Int)+1+1)/\((0:Int)<=q+(bq (es.take i):Int)+1+1+1+(bq x3:Int)+(bq x4:Int)+1+1+(bq x7:Int)+(bq x8:Int)+1+1)/\(IntKind.i64.wrap (q+(bq (es.take i):Int)+1+1+1+(bq x3:Int)+(bq x4:Int)+1+1+(bq x7:Int)+(bq x8:Int)+1+1+1)=q+(bq (es.take i):Int)+1+1+1+(bq x3:Int)+(bq x4:Int)+1+1+(bq x7:Int)+(bq x8:Int)+1+1+1)/\((0:Int)<=q+(bq (es.take i):Int)+1+1+1+(bq x3:Int)+(bq x4:Int)+1+1+(bq x7:Int)+(bq x8:Int)+1+1+1)/\(IntKind.i64.wrap (q+(bq (es.take i):Int)+1+1+1+(bq x3:Int)+(bq x4:Int)+1+1+(bq x7:Int)+(bq x8:Int)+1+1+1+1)=q+(bq (es.take i):Int)+1+1+1+(bq x3:Int)+(bq x4:Int)+1+1+(bq x7:Int)+(bq x8:Int)+1+1+1+1)/\((0:Int)<=q+(bq (es.take i):Int)+1+1+1+(bq x3:Int)+(bq x4:Int)+1+1+(bq x7:Int)+(bq x8:Int)+1+1+1+1)/\(IntKind.i64.wrap (q+(bq (es.take i):Int)+1+1+1+(bq x3:Int)+(bq x4:Int)+1+1+(bq x7:Int)+(bq x8:Int)+1+1+1+1+1)=q+(bq (es.take i):Int)+1+1+1+(bq x3:Int)+(bq x4:Int)+1+1+(bq x7:Int)+(bq x8:Int)+1+1+1+1+1)/\(IntKind.i64.wrap (q+(bq (es.take i):Int)+1+1+1+(bq x3:Int)+(bq x4:Int)+1+1+(bq x7:Int)+(bq x8:Int)+1+1+1+1+1+1)=q+(bq (es.take i):Int)+1+1+1+(bq x3:Int)+(bq x4:Int)+1+1+(bq x7:Int)+(bq x8:Int)+1+1+1+1+1+1)/\(IntKind.i64.wrap (q+(bq (es.take i):Int)+1+1+1+(bq x3:Int)+(bq x4:Int)+1+1+(bq x7:Int)+(bq x8:Int)+1+1+1+1+1+1+1)=q+(bq (es.take i):Int)+1+1+1+(bq x3:Int)+(bq x4:Int)+1+1+(bq x7:Int)+(bq x8:Int)+1+1+1+1+1+1+1)/\(q+(bq (es.take (i+1)):Int)=q+(bq (es.take i):Int)+1+1+1+(bq x3:Int)+(bq x4:Int)+1+1+(bq x7:Int)+(bq x8:Int)+1+1+1+1+1+1+1+(bq x16:Int)+(bq x17:Int)+(bq x18:Int)):=⟨bJ (by omega),bJ (by omega),bJ (by omega),bJ (by omega),bJ (by omega),bJ (by omega),by omega,bJ (by omega),by omega,bJ (by omega),by omega,bJ (by omega),by omega,bJ (by omega),bJ (by omega),bJ (by omega),by omega⟩
   have g:=se q hn;rw[he]at hn g;simp -implicitDefEqProofs only [Om,D.mk,D.mn,iy]at g
   have i3:(1:Int)<=3:=by omega
   simp -implicitDefEqProofs only [yY,m1,m3,m4,m5,m6,m7,m8,m9,m16,m17,m18,w0,w1,w2,w5,w6,w9,m10,w10,m11,w11,m12,w12,m13,w13,w14,w15,t4,i3,sf q (kC hi),sh q hn,sj q hn,qo q hi,qn q hi,qp q hi,hi,UK hi,wi hi (aA hB (by simp[maxLen,kZ])),cW,go_sem,bD,aw,aY,aZ]
   exact congrArg (λz=>some (Ex.norm,MS.mk _ _ z)) g)
 simp -implicitDefEqProofs only [dE,ba,aV,kP,bq,ao,jz]at hl
 simp -implicitDefEqProofs only [hl,go_sem,aw,aZ]
theorem Cp(n:Nat):∀(es:List (List D)),ah es < n->es.length<=kZ->dL kZ 12 es->∀(q:Int),0 < q->q+bq es<=4611686018427387904->gF T 153 false [.list 19 false es] q=some ([.list 19 false (kP es q)],q+bq es):=by
 induction n with
 |zero=>intro es h;omega
 |succ n hi=>
  intro es hn hB ok q h0 h1;refine Ba es hB ok (λx hx=>?_) q h0 h1;obtain⟨e,he,hx⟩:=hx;have hz:=bp (vG hx he) (qG hn);obtain⟨x0,x1,x2,x3,x4,x5,x6,x7,x8,x9,x10,x11,x12,x13,x14,x15,x16,x17,x18,rfl,_,b1,_,⟨b3,c3⟩,⟨b4,c4⟩,b5,b6,⟨b7,c7⟩,⟨b8,c8⟩,b9,_,_,_,_,_,_,⟨K9,CG⟩,⟨K_,D2⟩,⟨OV,IY⟩⟩:=ij (ok.mem e he);simp -implicitDefEqProofs only [ay,gM,reduceCtorEq,false_or,or_false,D.list.injEq,aw,av,false_and,and_false,true_and]at hx
  subst hx;exact hi _ hz OV IY
theorem Fv(es:List (List D))(hB:es.length<=kZ)(ok:dL kZ 12 es)(q:Int)(h0:0 < q)(h1:q+bq es<=4611686018427387904):gF T 153 false [.list 19 false es] q=some ([.list 19 false (kP es q)],q+bq es):=Cp (ah es+1) es (by omega) hB ok q h0 h1
theorem Fu(es:List (List D))(hB:es.length<=kZ)(ok:dL kZ 2 es)(h:∀x,(∃e∈es,D.list 3 false x∈e)->∀(q:Int),0 < q->q+bq x<=4611686018427387904->gF T 17 false [.list 3 false x] q=some ([.list 3 false (kP x q)],q+bq x))(q:Int)(h0:0 < q)(h1:q+bq es<=4611686018427387904) :
  gF T 17 false [.list 3 false es] q=some ([.list 3 false (kP es q)],q+bq es):=by
 rw[kO (f:=17) rfl];have hl:=sa (T:=T) (own:=true) (k:=3) (body:=Fk) (λi=>⟨⟨[(1,.d (.int .i64 (q+bq (es.take i)))),(5,.d (.int .i64 i))],[],[]⟩,[(0,.lst)],kP (es.take i) q++es.drop i⟩) es.length
  (by simp -implicitDefEqProofs only [Fk,df,aG,Vc,aU,cu,go_sem,aw,aZ];rfl)
  (by
   intro i hi;have hn:=dr hi;have t1:=hO es (i+1);have t2:=fK hn;obtain⟨x0,x1,x2,he,b0,b1,⟨b2,c2⟩⟩:=je (ok.Fy hn);have t3:yu es[i]=0+1+1+bq x2:=by rw[he];simp -implicitDefEqProofs only [yu,D.mn]<;>omega
   have m0:=hH (q+(bq (es.take i):Int)) (by omega) (by omega);have m1:=hH (q+(bq (es.take i):Int)+1) (by omega) (by omega);have m2:=h x2 ⟨_,vw hn,by rw[he];simp -implicitDefEqProofs only [ay,true_or,or_true]⟩ (q+(bq (es.take i):Int)+1+1) (by omega) (by omega);obtain⟨w0,w1,t4⟩:(IntKind.i64.wrap (q+(bq (es.take i):Int)+1)=q+(bq (es.take i):Int)+1)/\(IntKind.i64.wrap (q+(bq (es.take i):Int)+1+1)=q+(bq (es.take i):Int)+1+1)/\(q+(bq (es.take (i+1)):Int)=q+(bq (es.take i):Int)+1+1+(bq x2:Int)):=⟨bJ (by omega),bJ (by omega),by omega⟩
   have g:=se q hn;rw[he]at hn g;simp -implicitDefEqProofs only [Om,D.mk,D.mn,iy]at g
   have i3:(1:Int)<=3:=by omega
   simp -implicitDefEqProofs only [Fk,m0,m1,m2,w0,w1,t4,sf q (kC hi),sh q hn,sj q hn,qo q hi,qn q hi,qp q hi,hi,UK hi,wi hi (aA hB (by simp[maxLen,kZ])),cW,go_sem,bD,aw,aY,aZ]
   exact congrArg (λz=>some (Ex.norm,MS.mk _ _ z)) g)
 simp -implicitDefEqProofs only [dE,ba,aV,kP,bq,ao,jz]at hl
 simp -implicitDefEqProofs only [hl,go_sem,aw,aZ]
theorem Ib(n:Nat):∀(es:List (List D)),ah es < n->es.length<=kZ->dL kZ 2 es->∀(q:Int),0 < q->q+bq es<=4611686018427387904->gF T 17 false [.list 3 false es] q=some ([.list 3 false (kP es q)],q+bq es):=by
 induction n with
 |zero=>intro es h;omega
 |succ n hi=>
  intro es hn hB ok q h0 h1;refine Fu es hB ok (λx hx=>?_) q h0 h1;obtain⟨e,he,hx⟩:=hx;have hz:=bp (vG hx he) (qG hn);obtain⟨x0,x1,x2,rfl,b0,b1,⟨b2,c2⟩⟩:=je (ok.mem e he);simp -implicitDefEqProofs only [ay,gM,reduceCtorEq,false_or,or_false,D.list.injEq,true_and]at hx
  subst hx;exact hi _ hz b2 c2
theorem A_(es:List (List D))(hB:es.length<=kZ)(ok:dL kZ 2 es)(q:Int)(h0:0 < q)(h1:q+bq es<=4611686018427387904):gF T 17 false [.list 3 false es] q=some ([.list 3 false (kP es q)],q+bq es):=Ib (ah es+1) es (by omega) hB ok q h0 h1
theorem J1(es:List (List D))(hB:es.length<=kZ)(ok:dL kZ 1 es)(q:Int)(h0:0 < q)(h1:q+bq es<=4611686018427387904) :
  gF T 344 false [.list 4 false es] q=some ([.list 4 false (kP es q)],q+bq es):=by
 rw[kO (f:=344) rfl];have hl:=sa (T:=T) (own:=true) (k:=4) (body:=yZ) (λi=>⟨⟨[(1,.d (.int .i64 (q+bq (es.take i)))),(5,.d (.int .i64 i))],[],[]⟩,[(0,.lst)],kP (es.take i) q++es.drop i⟩) es.length
  (by simp -implicitDefEqProofs only [yZ,df,aG,Vc,aU,cu,go_sem,aw,aZ];rfl)
  (by
   intro i hi;have hn:=dr hi;have t1:=hO es (i+1);have t2:=fK hn;obtain⟨x0,x1,x2,x3,he,b0,⟨b1,c1⟩,_,_⟩:=mq (ok.Fy hn);have t3:yu es[i]=0+1+bq x1+1+1:=by rw[he];simp -implicitDefEqProofs only [yu,D.mn]<;>omega
   have m0:=hH (q+(bq (es.take i):Int)) (by omega) (by omega);have m1:=lp x1 b1 c1 (q+(bq (es.take i):Int)+1) (by omega) (by omega);obtain⟨w0,w2,m3,w3,t4⟩:(IntKind.i64.wrap (q+(bq (es.take i):Int)+1)=q+(bq (es.take i):Int)+1)/\(IntKind.i64.wrap (q+(bq (es.take i):Int)+1+(bq x1:Int)+1)=q+(bq (es.take i):Int)+1+(bq x1:Int)+1)/\((0:Int)<=q+(bq (es.take i):Int)+1+(bq x1:Int)+1)/\(IntKind.i64.wrap (q+(bq (es.take i):Int)+1+(bq x1:Int)+1+1)=q+(bq (es.take i):Int)+1+(bq x1:Int)+1+1)/\(q+(bq (es.take (i+1)):Int)=q+(bq (es.take i):Int)+1+(bq x1:Int)+1+1):=⟨bJ (by omega),bJ (by omega),by omega,bJ (by omega),by omega⟩
   have g:=se q hn;rw[he]at hn g;simp -implicitDefEqProofs only [Om,D.mk,D.mn,iy]at g
   have i3:(1:Int)<=3:=by omega
   simp -implicitDefEqProofs only [yZ,m0,m1,w0,w2,m3,w3,t4,i3,sf q (kC hi),sh q hn,sj q hn,qo q hi,qn q hi,qp q hi,hi,UK hi,wi hi (aA hB (by simp[maxLen,kZ])),cW,go_sem,bD,aw,aY,aZ]
   exact congrArg (λz=>some (Ex.norm,MS.mk _ _ z)) g)
 simp -implicitDefEqProofs only [dE,ba,aV,kP,bq,ao,jz]at hl
 simp -implicitDefEqProofs only [hl,go_sem,aw,aZ]
end
section
open Go.RowKit
theorem Er(es:List (List D))(hB:es.length<=kZ)(ok:dL kZ 2 es)(h:∀x,(∃e∈es,D.list 3 false x∈e)->∀(q:Int),0 < q->q+bq x<=4611686018427387904->db T 21 [.val false [.d (.list 3 false (kP x q))],.val false [.d (.int .i64 q)]]=some ([.val false [.d (.int .i64 (q+bq x))]],[]))(q:Int)(h0:0 < q)(h1:q+bq es<=4611686018427387904) :
  db T 21 [.val false [.d (.list 3 false (kP es q))],.val false [.d (.int .i64 q)]]=some ([.val false [.d (.int .i64 (q+bq es))]],[]):=by
 rw[rZ (f:=21) rfl rfl];have hl:=WR (T:=T) (mf:=tA) (body:=Fl) (λi=>⟨[(0,.d (.list 3 false (kP es q))),(1,.d (.int .i64 (q+bq (es.take i)))),(5,.d (.int .i64 i))],[],[]⟩) es.length (e:=.exit 0) (by simp)
  (by simp -implicitDefEqProofs only [Fl,df,Vc,aU,go_sem,aw];rfl)
  (by
   intro i hi;have hn:=dr hi;have t1:=hO es (i+1);have t2:=fK hn;obtain⟨x0,x1,x2,he,b0,b1,⟨b2,c2⟩⟩:=je (ok.Fy hn);have t3:yu es[i]=0+1+1+bq x2:=by rw[he];simp -implicitDefEqProofs only [yu,D.mn]<;>omega
   have m0:=hH (q+(bq (es.take i):Int)) (by omega) (by omega);have m1:=hH (q+(bq (es.take i):Int)+1) (by omega) (by omega);have m2:=h x2 ⟨_,vw hn,by rw[he];simp -implicitDefEqProofs only [ay,true_or,or_true]⟩ (q+(bq (es.take i):Int)+1+1) (by omega) (by omega);obtain⟨w0,w1,d2,t4⟩:(IntKind.i64.wrap (q+(bq (es.take i):Int)+1)=q+(bq (es.take i):Int)+1)/\(IntKind.i64.wrap (q+(bq (es.take i):Int)+1+1)=q+(bq (es.take i):Int)+1+1)/\(¬(q+(bq (es.take i):Int)+1+1+(bq x2:Int) < 0))/\(q+(bq (es.take (i+1)):Int)=q+(bq (es.take i):Int)+1+1+(bq x2:Int)):=⟨bJ (by omega),bJ (by omega),by omega,by omega⟩
   have g:=My es q i _ hn;rw[he]at g;simp -implicitDefEqProofs only [Om,D.mk,D.mn,iy]at g
   have i3:(1:Int)<=3:=by omega
   simp -implicitDefEqProofs only [Fl,m0,m1,m2,w0,w1,d2,t4,df,g,UK hi,wi hi (aA hB (by simp[maxLen,kZ])),cW,go_sem,bD,aw,aY])
 simp -implicitDefEqProofs only [dE,ba,bq,jz]at hl
 simp -implicitDefEqProofs only [hl,go_sem,aw]
theorem Hv(n:Nat):∀(es:List (List D)),ah es < n->es.length<=kZ->dL kZ 2 es->∀(q:Int),0 < q->q+bq es<=4611686018427387904->db T 21 [.val false [.d (.list 3 false (kP es q))],.val false [.d (.int .i64 q)]]=some ([.val false [.d (.int .i64 (q+bq es))]],[]):=by
 induction n with
 |zero=>intro es h;omega
 |succ n hi=>
  intro es hn hB ok q h0 h1;refine Er es hB ok (λx hx=>?_) q h0 h1;obtain⟨e,he,hx⟩:=hx;have hz:=bp (vG hx he) (qG hn);obtain⟨x0,x1,x2,rfl,b0,b1,⟨b2,c2⟩⟩:=je (ok.mem e he);simp -implicitDefEqProofs only [ay,gM,reduceCtorEq,false_or,or_false,D.list.injEq,true_and]at hx
  subst hx;exact hi _ hz b2 c2
theorem JN(es:List (List D))(hB:es.length<=kZ)(ok:dL kZ 2 es)(q:Int)(h0:0 < q)(h1:q+bq es<=4611686018427387904):db T 21 [.val false [.d (.list 3 false (kP es q))],.val false [.d (.int .i64 q)]]=some ([.val false [.d (.int .i64 (q+bq es))]],[]):=Hv (ah es+1) es (by omega) hB ok q h0 h1
end
section
section
variable {B:Nat}
theorem uW{es:List (List D)}(ok:dL B 0 es):∃xs:List ByteArray,es=xs.map fm:=ni λe he=>by
 obtain⟨x,h,_⟩:=vl (ok.mem e he);exact⟨x,h⟩
theorem Nj{es:List (List D)}(ok:dL B 6 es):∃xs:List iH,es=xs.map jG:=ni λe he=>by
 obtain⟨x,y,h,_⟩:=lR (ok.mem e he);exact⟨⟨x,y⟩,h⟩
theorem PM{es:List (List D)}(ok:dL B 8 es):∃xs:List kg,es=xs.map nL:=ni λe he=>by
 obtain⟨x,y,h,_⟩:=mu (ok.mem e he);exact⟨⟨x,y⟩,h⟩
theorem PL{es:List (List D)}(ok:dL B 9 es):∃xs:List uN,es=xs.map jY:=ni λe he=>by
 obtain⟨x,y,h,_,_,c⟩:=mr (ok.mem e he);obtain⟨ts,rfl⟩:=PM c;exact⟨⟨x,ts⟩,h⟩
theorem Js(m:Nat):∀es:List (List D),ah es < m->dL B 11 es->∃xs:List cN,es=xs.map bM:=by
 induction m with
 |zero=>intro es h;omega
 |succ m ih=>
  intro es hz ok;refine ni λe he=>?_;obtain⟨x0,x1,x2,x3,x4,x5,x6,h,_,_,_,_,_,⟨_,c5⟩,⟨_,c6⟩⟩:=ko (ok.mem e he);obtain⟨ss,rfl⟩:=PL c5;obtain⟨ks,rfl⟩:=ih x6 (by have:=jj (k:=7) (fl:=false) (xs:=x6) he (by rw[h];simp only[ay,true_or,or_true]);omega) c6;exact⟨⟨x0,x1,x2,⟨x3,x4,ss⟩,ks⟩,by rw[h,bg]⟩
theorem GV{es:List (List D)}(ok:dL B 11 es):∃xs:List cN,es=xs.map bM:=Js _ es (aO _) ok
theorem Eb(m:Nat):∀es:List (List D),ah es < m->dL B 12 es->∃xs:List af,es=xs.map ax:=by
 induction m with
 |zero=>intro es h;omega
 |succ m ih=>
  intro es hz ok;refine ni λe he=>?_;obtain⟨x0,x1,x2,x3,x4,x5,x6,x7,x8,x9,x10,x11,x12,x13,x14,x15,x16,x17,x18,h,_,_,_,⟨_,c3⟩,⟨_,c4⟩,_,_,⟨_,c7⟩,⟨_,c8⟩,_,_,_,_,_,_,_,⟨_,CG⟩,⟨_,D2⟩,⟨_,IY⟩⟩:=ij (ok.mem e he);obtain⟨y3,rfl⟩:=Nj c3;obtain⟨y4,rfl⟩:=uW c4;obtain⟨y7,rfl⟩:=uW c7;obtain⟨y8,rfl⟩:=uW c8;obtain⟨y16,rfl⟩:=GV CG;obtain⟨y17,rfl⟩:=GV D2;obtain⟨y18,rfl⟩:=ih x18 (by have:=jj (k:=19) (fl:=false) (xs:=x18) he (by rw[h];simp only[ay,true_or,or_true]);omega) IY;exact⟨⟨x0,x1,⟨x2,y3,y4,x5,x6⟩,y7,y8,x9,x10,x11,x12,x13,x14,x15,y16,y17,y18⟩,by rw[h,ae]⟩
theorem Ju{es:List (List D)}(ok:dL B 12 es):∃xs:List af,es=xs.map ax:=Eb _ es (aO _) ok
theorem Jt(m:Nat):∀es:List (List D),ah es < m->dL B 2 es->∃xs:List aR,es=xs.map bI:=by
 induction m with
 |zero=>intro es h;omega
 |succ m ih=>
  intro es hz ok;refine ni λe he=>?_;obtain⟨x0,x1,x2,h,_,_,_,c⟩:=je (ok.mem e he);obtain⟨ks,rfl⟩:=ih x2 (by have:=jj (k:=3) (fl:=false) (xs:=x2) he (by rw[h];simp only[ay,true_or,or_true]);omega) c;exact⟨⟨x0,x1,ks⟩,by rw[h,bu]⟩
theorem PJ{es:List (List D)}(ok:dL B 2 es):∃xs:List aR,es=xs.map bI:=Jt _ es (aO _) ok
end
end
section
theorem vJ{es:List (List D)}(hB:es.length<=maxLen)(ok:dL maxLen 0 es):∀l:Int,0<=l->l<=1048576->∃r,G 46 [.list 1 true es,.int .i64 l]=some (0,[.int .i64 r])/\Lz (es.length+nw es) l r:=by
 intro l h0 h1;have w:IntKind.i64.wrap (l - (es.length:Int))=l - (es.length:Int):=wrap_i64 (by simp only[maxLen]at hB;omega);by_cases c:l - (es.length:Int) < 0
 ·exact⟨-1,bY s46 rfl (by simp only[go_sem,t46,w,c]),.inl rfl⟩
 have hl:es.length<=mg:=by simp only[mg];omega
 have hg:=xQ (b:=lB G HM) es (λn i=>(0,[.list 1 true es,.int .i64 n,.int .i64 (i:Int)])) (0,[.int .i64 (-1)]) (λn=>(1,[.list 1 true es,.int .i64 n,.int .i64 es.length,.bool false])) (by
  intro i e n hn h0 h1;have hi:=aP hn;have hw:=wj hi hl;have oe:=ok.mem e (aT hn);obtain⟨x0,rfl,b0⟩:=vl oe;have w:IntKind.i64.wrap (n - (x0.size:Int))=n - (x0.size:Int):=wrap_i64 (by simp only[maxLen]at b0;omega);by_cases c:n - (x0.size:Int) < 0
  ·exact .inl (by simp only[go_sem,bl,HM,hi,hn,w,c])
  ·exact .inr ⟨n - (x0.size:Int),by omega,by simp only[eV,D.sz];omega,by simp only[go_sem,bl,HM,hi,hn,hw,w,c]⟩
  ) (by
  intro n;simp only[go_sem,bl,HM,aq]) es.length 0 (l - (es.length:Int)) (by omega) (by omega) (by omega)
 rw[n0]at hg;rcases hg with g|⟨r,p,q,g⟩
 ·exact⟨-1,bY s46 rfl (by simp only[go_sem,t46,w,c,g]),.inl rfl⟩
 ·rw[aV]at q;exact⟨r,bY s46 rfl (by simp only[go_sem,t46,w,c,g]),.inr ⟨p,by omega⟩⟩
theorem SF{e:List D}(ok:eE maxLen (lay 1) e):∀l:Int,0<=l->l<=1048576->∃r,G 57 (e++[.int .i64 l])=some (0,[.int .i64 r])/\Lz (eV e) l r:=by
 intro l h0 h1;obtain⟨x0,x1,x2,x3,rfl,b0,⟨b1,c1⟩,_,_⟩:=mq ok;have w0:IntKind.i64.wrap (l - (x0.size:Int))=l - (x0.size:Int):=wrap_i64 (by simp only[maxLen]at b0;omega);by_cases c0:l - (x0.size:Int) < 0
 ·exact⟨-1,bY s57 rfl (by simp only[go_sem,t57,w0,c0]),.inl rfl⟩
 obtain⟨r1,f1,h1⟩:=vJ b1 c1 (l - (x0.size:Int)) (by omega) (by omega);rcases h1 with rfl|⟨p1,q1⟩
 ·exact⟨-1,bY s57 rfl (by simp only[go_sem,t57,w0,c0,f1]),.inl rfl⟩
 have c1:¬r1 < 0:=by omega
 exact⟨r1,bY s57 rfl (by simp only[go_sem,t57,w0,c0,f1,c1]),.inr ⟨by omega,by simp only[eV,D.sz];omega⟩⟩
theorem KB{es:List (List D)}(hB:es.length<=maxLen)(ok:dL maxLen 1 es)(he:∀e∈es,∀l:Int,0<=l->l<=1048576->∃r,G 57 (e++[.int .i64 l])=some (0,[.int .i64 r])/\Lz (eV e) l r):∀l:Int,0<=l->l<=1048576->∃r,G 58 [.list 4 false es,.int .i64 l]=some (0,[.int .i64 r])/\Lz (es.length+nw es) l r:=by
 intro l h0 h1;have w:IntKind.i64.wrap (l - (es.length:Int))=l - (es.length:Int):=wrap_i64 (by simp only[maxLen]at hB;omega);by_cases c:l - (es.length:Int) < 0
 ·exact⟨-1,bY s58 rfl (by simp only[go_sem,t58,w,c]),.inl rfl⟩
 have hl:es.length<=mg:=by simp only[mg];omega
 have hg:=xQ (b:=lB G HR) es (λn i=>(0,[.list 4 false es,.int .i64 n,.int .i64 (i:Int)])) (0,[.int .i64 (-1)]) (λn=>(1,[.list 4 false es,.int .i64 n,.int .i64 es.length,.bool false])) (by
  intro i e n hn h0 h1;have hi:=aP hn;have hw:=wj hi hl;have oe:=ok.mem e (aT hn);obtain⟨r,f,h⟩:=he e (aT hn) n h0 h1;obtain⟨x0,x1,x2,x3,rfl,b0,⟨b1,c1⟩,_,_⟩:=mq oe;have hh:aJ (.has 4) [.list 0 false [[.str x0,.list 1 true x1,.int .i64 x2,.bool x3]]]=some (.bool false):=rfl;simp only[ai,ao]at f;rcases h with rfl|⟨p,q⟩
  ·exact .inl (by simp only[go_sem,bl,HR,hi,hn,hh,f])
  ·have c:¬r < 0:=by omega
   exact .inr ⟨r,p,q,by simp only[go_sem,bl,HR,hi,hn,hh,f,hw,c]⟩
  ) (by
  intro n;simp only[go_sem,bl,HR,aq]) es.length 0 (l - (es.length:Int)) (by omega) (by omega) (by omega)
 rw[n0]at hg;rcases hg with g|⟨r,p,q,g⟩
 ·exact⟨-1,bY s58 rfl (by simp only[go_sem,t58,w,c,g]),.inl rfl⟩
 ·rw[aV]at q;exact⟨r,bY s58 rfl (by simp only[go_sem,t58,w,c,g]),.inr ⟨p,by omega⟩⟩
theorem SM{es:List (List D)}(hB:es.length<=maxLen)(ok:dL maxLen 1 es):∀l:Int,0<=l->l<=1048576->∃r,G 58 [.list 4 false es,.int .i64 l]=some (0,[.int .i64 r])/\Lz (es.length+nw es) l r:=KB hB ok λe he=>SF (ok.mem e he)
theorem Sz{e:List D}(ok:eE maxLen (lay 2) e)(ih:∀xs,.list 3 false xs∈e->∀l:Int,0<=l->l<=1048576->∃r,G 4 [.list 3 false xs,.int .i64 l]=some (0,[.int .i64 r])/\Lz (xs.length+nw xs) l r):∀l:Int,0<=l->l<=1048576->∃r,G 3 (e++[.int .i64 l])=some (0,[.int .i64 r])/\Lz (eV e) l r:=by
 intro l h0 h1;obtain⟨x0,x1,x2,rfl,b0,b1,⟨b2,c2⟩⟩:=je ok;have w0:IntKind.i64.wrap (l - (x0.size:Int))=l - (x0.size:Int):=wrap_i64 (by simp only[maxLen]at b0;omega);by_cases c0:l - (x0.size:Int) < 0
 ·exact⟨-1,bY s3 rfl (by simp only[go_sem,t3,w0,c0]),.inl rfl⟩
 have w1:IntKind.i64.wrap ((l - (x0.size:Int)) - (x1.size:Int))=(l - (x0.size:Int)) - (x1.size:Int):=wrap_i64 (by simp only[maxLen]at b1;omega);by_cases c1:(l - (x0.size:Int)) - (x1.size:Int) < 0
 ·exact⟨-1,bY s3 rfl (by simp only[go_sem,t3,w0,c0,w1,c1]),.inl rfl⟩
 obtain⟨r2,f2,h2⟩:=ih x2 (by simp only[ay,true_or,or_true]) ((l - (x0.size:Int)) - (x1.size:Int)) (by omega) (by omega);rcases h2 with rfl|⟨p2,q2⟩
 ·exact⟨-1,bY s3 rfl (by simp only[go_sem,t3,w0,c0,w1,c1,f2]),.inl rfl⟩
 have c2:¬r2 < 0:=by omega
 exact⟨r2,bY s3 rfl (by simp only[go_sem,t3,w0,c0,w1,c1,f2,c2]),.inr ⟨by omega,by simp only[eV,D.sz];omega⟩⟩
theorem KA{es:List (List D)}(hB:es.length<=maxLen)(ok:dL maxLen 2 es)(he:∀e∈es,∀l:Int,0<=l->l<=1048576->∃r,G 3 (e++[.int .i64 l])=some (0,[.int .i64 r])/\Lz (eV e) l r):∀l:Int,0<=l->l<=1048576->∃r,G 4 [.list 3 false es,.int .i64 l]=some (0,[.int .i64 r])/\Lz (es.length+nw es) l r:=by
 intro l h0 h1;have w:IntKind.i64.wrap (l - (es.length:Int))=l - (es.length:Int):=wrap_i64 (by simp only[maxLen]at hB;omega);by_cases c:l - (es.length:Int) < 0
 ·exact⟨-1,bY s4 rfl (by simp only[go_sem,t4,w,c]),.inl rfl⟩
 have hl:es.length<=mg:=by simp only[mg];omega
 have hg:=xQ (b:=lB G RB) es (λn i=>(0,[.list 3 false es,.int .i64 n,.int .i64 (i:Int)])) (0,[.int .i64 (-1)]) (λn=>(1,[.list 3 false es,.int .i64 n,.int .i64 es.length,.bool false])) (by
  intro i e n hn h0 h1;have hi:=aP hn;have hw:=wj hi hl;have oe:=ok.mem e (aT hn);obtain⟨r,f,h⟩:=he e (aT hn) n h0 h1;obtain⟨x0,x1,x2,rfl,b0,b1,⟨b2,c2⟩⟩:=je oe;have hh:aJ (.has 3) [.list 0 false [[.str x0,.str x1,.list 3 false x2]]]=some (.bool false):=rfl;simp only[ai,ao]at f;rcases h with rfl|⟨p,q⟩
  ·exact .inl (by simp only[go_sem,bl,RB,hi,hn,hh,f])
  ·have c:¬r < 0:=by omega
   exact .inr ⟨r,p,q,by simp only[go_sem,bl,RB,hi,hn,hh,f,hw,c]⟩
  ) (by
  intro n;simp only[go_sem,bl,RB,aq]) es.length 0 (l - (es.length:Int)) (by omega) (by omega) (by omega)
 rw[n0]at hg;rcases hg with g|⟨r,p,q,g⟩
 ·exact⟨-1,bY s4 rfl (by simp only[go_sem,t4,w,c,g]),.inl rfl⟩
 ·rw[aV]at q;exact⟨r,bY s4 rfl (by simp only[go_sem,t4,w,c,g]),.inr ⟨p,by omega⟩⟩
theorem Kz(m:Nat):∀es:List (List D),ah es < m->es.length<=maxLen->dL maxLen 2 es->∀l:Int,0<=l->l<=1048576->∃r,G 4 [.list 3 false es,.int .i64 l]=some (0,[.int .i64 r])/\Lz (es.length+nw es) l r:=by
 induction m with
 |zero=>intro es h;omega
 |succ m ih=>
  intro es hz hB ok;refine KA hB ok λe he=>Sz (ok.mem e he) λxs hx=>?_;obtain⟨b,c⟩:=As (ok.mem e he) hx;exact ih xs (by have:=jj he hx;omega) b c
theorem SL{es:List (List D)}(hB:es.length<=maxLen)(ok:dL maxLen 2 es):∀l:Int,0<=l->l<=1048576->∃r,G 4 [.list 3 false es,.int .i64 l]=some (0,[.int .i64 r])/\Lz (es.length+nw es) l r:=Kz _ es (aO _) hB ok
theorem OG{es:List (List D)}(hB:es.length<=maxLen)(ok:dL maxLen 6 es):∀l:Int,0<=l->l<=1048576->∃r,G 45 [.list 2 true es,.int .i64 l]=some (0,[.int .i64 r])/\Lz (es.length+nw es) l r:=by
 intro l h0 h1;have w:IntKind.i64.wrap (l - (es.length:Int))=l - (es.length:Int):=wrap_i64 (by simp only[maxLen]at hB;omega);by_cases c:l - (es.length:Int) < 0
 ·exact⟨-1,bY s45 rfl (by simp only[go_sem,t45,w,c]),.inl rfl⟩
 have z:nw es=0:=by
  clear hB w c
  induction es with
  |nil=>rfl
  |cons e es ih=>
   simp only[dL]at ok;obtain⟨o1,o2⟩:=ok;obtain⟨x0,x1,rfl,_,_⟩:=lR o1;simp only[nw,eV,D.sz,ih o2]
 exact⟨l - (es.length:Int),bY s45 rfl (by simp only[go_sem,t45,w,c]),.inr ⟨by omega,by omega⟩⟩
theorem SJ{e:List D}(ok:eE maxLen (lay 7) e):∀l:Int,0<=l->l<=1048576->∃r,G 47 (e++[.int .i64 l])=some (0,[.int .i64 r])/\Lz (eV e) l r:=by
 intro l h0 h1;obtain⟨x0,x1,x2,x3,x4,rfl,_,⟨b1,c1⟩,⟨b2,c2⟩,b3,b4⟩:=Ak ok;obtain⟨r1,f1,h1⟩:=OG b1 c1 l (by omega) (by omega);rcases h1 with rfl|⟨p1,q1⟩
 ·exact⟨-1,bY s47 rfl (by simp only[go_sem,t47,f1]),.inl rfl⟩
 have c1:¬r1 < 0:=by omega
 obtain⟨r2,f2,h2⟩:=vJ b2 c2 r1 (by omega) (by omega);rcases h2 with rfl|⟨p2,q2⟩
 ·exact⟨-1,bY s47 rfl (by simp only[go_sem,t47,f1,c1,f2]),.inl rfl⟩
 have c2:¬r2 < 0:=by omega
 have w3:IntKind.i64.wrap (r2 - (x3.size:Int))=r2 - (x3.size:Int):=wrap_i64 (by simp only[maxLen]at b3;omega);by_cases c3:r2 - (x3.size:Int) < 0
 ·exact⟨-1,bY s47 rfl (by simp only[go_sem,t47,f1,c1,f2,c2,w3,c3]),.inl rfl⟩
 have w4:IntKind.i64.wrap ((r2 - (x3.size:Int)) - (x4.size:Int))=(r2 - (x3.size:Int)) - (x4.size:Int):=wrap_i64 (by simp only[maxLen]at b4;omega);by_cases c4:(r2 - (x3.size:Int)) - (x4.size:Int) < 0
 ·exact⟨-1,bY s47 rfl (by simp only[go_sem,t47,f1,c1,f2,c2,w3,c3,w4,c4]),.inl rfl⟩
 exact⟨((r2 - (x3.size:Int)) - (x4.size:Int)),bY s47 rfl (by simp only[go_sem,t47,f1,c1,f2,c2,w3,c3,w4,c4]),.inr ⟨by omega,by simp only[eV,D.sz];omega⟩⟩
theorem SI{e:List D}(ok:eE maxLen (lay 8) e):∀l:Int,0<=l->l<=1048576->∃r,G 48 (e++[.int .i64 l])=some (0,[.int .i64 r])/\Lz (eV e) l r:=by
 intro l h0 h1;obtain⟨x0,x1,rfl,b0,b1⟩:=mu ok;have w0:IntKind.i64.wrap (l - (x0.size:Int))=l - (x0.size:Int):=wrap_i64 (by simp only[maxLen]at b0;omega);by_cases c0:l - (x0.size:Int) < 0
 ·exact⟨-1,bY s48 rfl (by simp only[go_sem,t48,w0,c0]),.inl rfl⟩
 have w1:IntKind.i64.wrap ((l - (x0.size:Int)) - (x1.size:Int))=(l - (x0.size:Int)) - (x1.size:Int):=wrap_i64 (by simp only[maxLen]at b1;omega);by_cases c1:(l - (x0.size:Int)) - (x1.size:Int) < 0
 ·exact⟨-1,bY s48 rfl (by simp only[go_sem,t48,w0,c0,w1,c1]),.inl rfl⟩
 exact⟨((l - (x0.size:Int)) - (x1.size:Int)),bY s48 rfl (by simp only[go_sem,t48,w0,c0,w1,c1]),.inr ⟨by omega,by simp only[eV,D.sz];omega⟩⟩
theorem KG{es:List (List D)}(hB:es.length<=maxLen)(ok:dL maxLen 8 es)(he:∀e∈es,∀l:Int,0<=l->l<=1048576->∃r,G 48 (e++[.int .i64 l])=some (0,[.int .i64 r])/\Lz (eV e) l r):∀l:Int,0<=l->l<=1048576->∃r,G 49 [.list 2 true es,.int .i64 l]=some (0,[.int .i64 r])/\Lz (es.length+nw es) l r:=by
 intro l h0 h1;have w:IntKind.i64.wrap (l - (es.length:Int))=l - (es.length:Int):=wrap_i64 (by simp only[maxLen]at hB;omega);by_cases c:l - (es.length:Int) < 0
 ·exact⟨-1,bY s49 rfl (by simp only[go_sem,t49,w,c]),.inl rfl⟩
 have hl:es.length<=mg:=by simp only[mg];omega
 have hg:=xQ (b:=lB G HN) es (λn i=>(0,[.list 2 true es,.int .i64 n,.int .i64 (i:Int)])) (0,[.int .i64 (-1)]) (λn=>(1,[.list 2 true es,.int .i64 n,.int .i64 es.length,.bool false])) (by
  intro i e n hn h0 h1;have hi:=aP hn;have hw:=wj hi hl;have oe:=ok.mem e (aT hn);obtain⟨r,f,h⟩:=he e (aT hn) n h0 h1;obtain⟨x0,x1,rfl,b0,b1⟩:=mu oe;have hh:aJ (.has 2) [.list 0 false [[.str x0,.str x1]]]=some (.bool false):=rfl;simp only[ai,ao]at f;rcases h with rfl|⟨p,q⟩
  ·exact .inl (by simp only[go_sem,bl,HN,hi,hn,hh,f])
  ·have c:¬r < 0:=by omega
   exact .inr ⟨r,p,q,by simp only[go_sem,bl,HN,hi,hn,hh,f,hw,c]⟩
  ) (by
  intro n;simp only[go_sem,bl,HN,aq]) es.length 0 (l - (es.length:Int)) (by omega) (by omega) (by omega)
 rw[n0]at hg;rcases hg with g|⟨r,p,q,g⟩
 ·exact⟨-1,bY s49 rfl (by simp only[go_sem,t49,w,c,g]),.inl rfl⟩
 ·rw[aV]at q;exact⟨r,bY s49 rfl (by simp only[go_sem,t49,w,c,g]),.inr ⟨p,by omega⟩⟩
theorem SP{es:List (List D)}(hB:es.length<=maxLen)(ok:dL maxLen 8 es):∀l:Int,0<=l->l<=1048576->∃r,G 49 [.list 2 true es,.int .i64 l]=some (0,[.int .i64 r])/\Lz (es.length+nw es) l r:=KG hB ok λe he=>SI (ok.mem e he)
theorem SH{e:List D}(ok:eE maxLen (lay 9) e):∀l:Int,0<=l->l<=1048576->∃r,G 50 (e++[.int .i64 l])=some (0,[.int .i64 r])/\Lz (eV e) l r:=by
 intro l h0 h1;obtain⟨x0,x1,rfl,b0,⟨b1,c1⟩⟩:=mr ok;have w0:IntKind.i64.wrap (l - (x0.size:Int))=l - (x0.size:Int):=wrap_i64 (by simp only[maxLen]at b0;omega);by_cases c0:l - (x0.size:Int) < 0
 ·exact⟨-1,bY s50 rfl (by simp only[go_sem,t50,w0,c0]),.inl rfl⟩
 obtain⟨r1,f1,h1⟩:=SP b1 c1 (l - (x0.size:Int)) (by omega) (by omega);rcases h1 with rfl|⟨p1,q1⟩
 ·exact⟨-1,bY s50 rfl (by simp only[go_sem,t50,w0,c0,f1]),.inl rfl⟩
 have c1:¬r1 < 0:=by omega
 exact⟨r1,bY s50 rfl (by simp only[go_sem,t50,w0,c0,f1,c1]),.inr ⟨by omega,by simp only[eV,D.sz];omega⟩⟩
theorem KE{es:List (List D)}(hB:es.length<=maxLen)(ok:dL maxLen 9 es)(he:∀e∈es,∀l:Int,0<=l->l<=1048576->∃r,G 50 (e++[.int .i64 l])=some (0,[.int .i64 r])/\Lz (eV e) l r):∀l:Int,0<=l->l<=1048576->∃r,G 51 [.list 2 false es,.int .i64 l]=some (0,[.int .i64 r])/\Lz (es.length+nw es) l r:=by
 intro l h0 h1;have w:IntKind.i64.wrap (l - (es.length:Int))=l - (es.length:Int):=wrap_i64 (by simp only[maxLen]at hB;omega);by_cases c:l - (es.length:Int) < 0
 ·exact⟨-1,bY s51 rfl (by simp only[go_sem,t51,w,c]),.inl rfl⟩
 have hl:es.length<=mg:=by simp only[mg];omega
 have hg:=xQ (b:=lB G HO) es (λn i=>(0,[.list 2 false es,.int .i64 n,.int .i64 (i:Int)])) (0,[.int .i64 (-1)]) (λn=>(1,[.list 2 false es,.int .i64 n,.int .i64 es.length,.bool false])) (by
  intro i e n hn h0 h1;have hi:=aP hn;have hw:=wj hi hl;have oe:=ok.mem e (aT hn);obtain⟨r,f,h⟩:=he e (aT hn) n h0 h1;obtain⟨x0,x1,rfl,b0,⟨b1,c1⟩⟩:=mr oe;have hh:aJ (.has 2) [.list 0 false [[.str x0,.list 2 true x1]]]=some (.bool false):=rfl;simp only[ai,ao]at f;rcases h with rfl|⟨p,q⟩
  ·exact .inl (by simp only[go_sem,bl,HO,hi,hn,hh,f])
  ·have c:¬r < 0:=by omega
   exact .inr ⟨r,p,q,by simp only[go_sem,bl,HO,hi,hn,hh,f,hw,c]⟩
  ) (by
  intro n;simp only[go_sem,bl,HO,aq]) es.length 0 (l - (es.length:Int)) (by omega) (by omega) (by omega)
 rw[n0]at hg;rcases hg with g|⟨r,p,q,g⟩
 ·exact⟨-1,bY s51 rfl (by simp only[go_sem,t51,w,c,g]),.inl rfl⟩
 ·rw[aV]at q;exact⟨r,bY s51 rfl (by simp only[go_sem,t51,w,c,g]),.inr ⟨p,by omega⟩⟩
theorem SN{es:List (List D)}(hB:es.length<=maxLen)(ok:dL maxLen 9 es):∀l:Int,0<=l->l<=1048576->∃r,G 51 [.list 2 false es,.int .i64 l]=some (0,[.int .i64 r])/\Lz (es.length+nw es) l r:=KE hB ok λe he=>SH (ok.mem e he)
theorem SD{e:List D}(ok:eE maxLen (lay 10) e):∀l:Int,0<=l->l<=1048576->∃r,G 52 (e++[.int .i64 l])=some (0,[.int .i64 r])/\Lz (eV e) l r:=by
 intro l h0 h1;obtain⟨x0,x1,x2,rfl,_,_,⟨b2,c2⟩⟩:=Aj ok;obtain⟨r2,f2,h2⟩:=SN b2 c2 l (by omega) (by omega);rcases h2 with rfl|⟨p2,q2⟩
 ·exact⟨-1,bY s52 rfl (by simp only[go_sem,t52,f2]),.inl rfl⟩
 have c2:¬r2 < 0:=by omega
 exact⟨r2,bY s52 rfl (by simp only[go_sem,t52,f2,c2]),.inr ⟨by omega,by simp only[eV,D.sz];omega⟩⟩
theorem Sy{e:List D}(ok:eE maxLen (lay 11) e)(ih:∀xs,.list 7 false xs∈e->∀l:Int,0<=l->l<=1048576->∃r,G 54 [.list 7 false xs,.int .i64 l]=some (0,[.int .i64 r])/\Lz (xs.length+nw xs) l r):∀l:Int,0<=l->l<=1048576->∃r,G 53 (e++[.int .i64 l])=some (0,[.int .i64 r])/\Lz (eV e) l r:=by
 intro l h0 h1;obtain⟨x0,x1,x2,x3,x4,x5,x6,rfl,_,_,b2,_,_,⟨b5,c5⟩,⟨b6,c6⟩⟩:=ko ok;have w2:IntKind.i64.wrap (l - (x2.size:Int))=l - (x2.size:Int):=wrap_i64 (by simp only[maxLen]at b2;omega);by_cases c2:l - (x2.size:Int) < 0
 ·exact⟨-1,bY s53 rfl (by simp only[go_sem,t53,w2,c2]),.inl rfl⟩
 obtain⟨r3,f3,h3⟩:=SD (eE.sub 3 3 ok) (l - (x2.size:Int)) (by omega) (by omega);simp only[gr,aV,cx,ba,ai,ao]at f3 h3;rcases h3 with rfl|⟨p3,q3⟩
 ·exact⟨-1,bY s53 rfl (by simp only[go_sem,t53,w2,c2,f3]),.inl rfl⟩
 have c3:¬r3 < 0:=by omega
 simp only[eV,D.sz]at q3;obtain⟨r6,f6,h6⟩:=ih x6 (by simp only[ay,true_or,or_true]) r3 (by omega) (by omega);rcases h6 with rfl|⟨p6,q6⟩
 ·exact⟨-1,bY s53 rfl (by simp only[go_sem,t53,w2,c2,f3,c3,f6]),.inl rfl⟩
 have c6:¬r6 < 0:=by omega
 exact⟨r6,bY s53 rfl (by simp only[go_sem,t53,w2,c2,f3,c3,f6,c6]),.inr ⟨by omega,by simp only[eV,D.sz];omega⟩⟩
theorem Ky{es:List (List D)}(hB:es.length<=maxLen)(ok:dL maxLen 11 es)(he:∀e∈es,∀l:Int,0<=l->l<=1048576->∃r,G 53 (e++[.int .i64 l])=some (0,[.int .i64 r])/\Lz (eV e) l r):∀l:Int,0<=l->l<=1048576->∃r,G 54 [.list 7 false es,.int .i64 l]=some (0,[.int .i64 r])/\Lz (es.length+nw es) l r:=by
 intro l h0 h1;have w:IntKind.i64.wrap (l - (es.length:Int))=l - (es.length:Int):=wrap_i64 (by simp only[maxLen]at hB;omega);by_cases c:l - (es.length:Int) < 0
 ·exact⟨-1,bY s54 rfl (by simp only[go_sem,t54,w,c]),.inl rfl⟩
 have hl:es.length<=mg:=by simp only[mg];omega
 have hg:=xQ (b:=lB G HP) es (λn i=>(0,[.list 7 false es,.int .i64 n,.int .i64 (i:Int)])) (0,[.int .i64 (-1)]) (λn=>(1,[.list 7 false es,.int .i64 n,.int .i64 es.length,.bool false])) (by
  intro i e n hn h0 h1;have hi:=aP hn;have hw:=wj hi hl;have oe:=ok.mem e (aT hn);obtain⟨r,f,h⟩:=he e (aT hn) n h0 h1;obtain⟨x0,x1,x2,x3,x4,x5,x6,rfl,_,_,b2,_,_,⟨b5,c5⟩,⟨b6,c6⟩⟩:=ko oe;have hh:aJ (.has 7) [.list 0 false [[.int .i64 x0,.int .i64 x1,.str x2,.bool x3,.int .i64 x4,.list 2 false x5,.list 7 false x6]]]=some (.bool false):=rfl;simp only[ai,ao]at f;rcases h with rfl|⟨p,q⟩
  ·exact .inl (by simp only[go_sem,bl,HP,hi,hn,hh,f])
  ·have c:¬r < 0:=by omega
   exact .inr ⟨r,p,q,by simp only[go_sem,bl,HP,hi,hn,hh,f,hw,c]⟩
  ) (by
  intro n;simp only[go_sem,bl,HP,aq]) es.length 0 (l - (es.length:Int)) (by omega) (by omega) (by omega)
 rw[n0]at hg;rcases hg with g|⟨r,p,q,g⟩
 ·exact⟨-1,bY s54 rfl (by simp only[go_sem,t54,w,c,g]),.inl rfl⟩
 ·rw[aV]at q;exact⟨r,bY s54 rfl (by simp only[go_sem,t54,w,c,g]),.inr ⟨p,by omega⟩⟩
theorem Kx(m:Nat):∀es:List (List D),ah es < m->es.length<=maxLen->dL maxLen 11 es->∀l:Int,0<=l->l<=1048576->∃r,G 54 [.list 7 false es,.int .i64 l]=some (0,[.int .i64 r])/\Lz (es.length+nw es) l r:=by
 induction m with
 |zero=>intro es h;omega
 |succ m ih=>
  intro es hz hB ok;refine Ky hB ok λe he=>Sy (ok.mem e he) λxs hx=>?_;obtain⟨b,c⟩:=Ar (ok.mem e he) hx;exact ih xs (by have:=jj he hx;omega) b c
theorem IH{es:List (List D)}(hB:es.length<=maxLen)(ok:dL maxLen 11 es):∀l:Int,0<=l->l<=1048576->∃r,G 54 [.list 7 false es,.int .i64 l]=some (0,[.int .i64 r])/\Lz (es.length+nw es) l r:=Kx _ es (aO _) hB ok
theorem Kw{e:List D}(ok:eE maxLen (lay 12) e)(ih:∀xs,.list 19 false xs∈e->∀l:Int,0<=l->l<=1048576->∃r,G 56 [.list 19 false xs,.int .i64 l]=some (0,[.int .i64 r])/\Lz (xs.length+nw xs) l r):∀l:Int,0<=l->l<=1048576->∃r,G 55 (e++[.int .i64 l])=some (0,[.int .i64 r])/\Lz (eV e) l r:=by
 intro l h0 h1;obtain⟨x0,x1,x2,x3,x4,x5,x6,x7,x8,x9,x10,x11,x12,x13,x14,x15,x16,x17,x18,rfl,_,b1,_,⟨b3,c3⟩,⟨b4,c4⟩,b5,b6,⟨b7,c7⟩,⟨b8,c8⟩,b9,_,_,_,_,_,_,⟨K9,CG⟩,⟨K_,D2⟩,⟨OV,IY⟩⟩:=ij ok;have w1:IntKind.i64.wrap (l - (x1.size:Int))=l - (x1.size:Int):=wrap_i64 (by simp only[maxLen]at b1;omega);by_cases c1:l - (x1.size:Int) < 0
 ·exact⟨-1,bY TN rfl (by simp only[go_sem,t55,w1,c1]),.inl rfl⟩
 obtain⟨r2,f2,h2⟩:=SJ (eE.sub 2 5 ok) (l - (x1.size:Int)) (by omega) (by omega);simp only[gr,aV,cx,ba,ai,ao]at f2 h2;rcases h2 with rfl|⟨p2,q2⟩
 ·exact⟨-1,bY TN rfl (by simp only[go_sem,t55,w1,c1,f2]),.inl rfl⟩
 have c2:¬r2 < 0:=by omega
 simp only[eV,D.sz]at q2;obtain⟨r7,f7,h7⟩:=vJ b7 c7 r2 (by omega) (by omega);rcases h7 with rfl|⟨p7,q7⟩
 ·exact⟨-1,bY TN rfl (by simp only[go_sem,t55,w1,c1,f2,c2,f7]),.inl rfl⟩
 have c7:¬r7 < 0:=by omega
 obtain⟨r8,f8,h8⟩:=vJ b8 c8 r7 (by omega) (by omega);rcases h8 with rfl|⟨p8,q8⟩
 ·exact⟨-1,bY TN rfl (by simp only[go_sem,t55,w1,c1,f2,c2,f7,c7,f8]),.inl rfl⟩
 have c8:¬r8 < 0:=by omega
 have w9:IntKind.i64.wrap (r8 - (x9.size:Int))=r8 - (x9.size:Int):=wrap_i64 (by simp only[maxLen]at b9;omega);by_cases c9:r8 - (x9.size:Int) < 0
 ·exact⟨-1,bY TN rfl (by simp only[go_sem,t55,w1,c1,f2,c2,f7,c7,f8,c8,w9,c9]),.inl rfl⟩
 obtain⟨r16,f16,h16⟩:=IH K9 CG (r8 - (x9.size:Int)) (by omega) (by omega);rcases h16 with rfl|⟨p16,q16⟩
 ·exact⟨-1,bY TN rfl (by simp only[go_sem,t55,w1,c1,f2,c2,f7,c7,f8,c8,w9,c9,f16]),.inl rfl⟩
 have CG:¬r16 < 0:=by omega
 obtain⟨r17,f17,h17⟩:=IH K_ D2 r16 (by omega) (by omega);rcases h17 with rfl|⟨p17,q17⟩
 ·exact⟨-1,bY TN rfl (by simp only[go_sem,t55,w1,c1,f2,c2,f7,c7,f8,c8,w9,c9,f16,CG,f17]),.inl rfl⟩
 have D2:¬r17 < 0:=by omega
 obtain⟨r18,f18,h18⟩:=ih x18 (by simp only[ay,true_or,or_true]) r17 (by omega) (by omega);rcases h18 with rfl|⟨p18,q18⟩
 ·exact⟨-1,bY TN rfl (by simp only[go_sem,t55,w1,c1,f2,c2,f7,c7,f8,c8,w9,c9,f16,CG,f17,D2,f18]),.inl rfl⟩
 have IY:¬r18 < 0:=by omega
 exact⟨r18,bY TN rfl (by simp only[go_sem,t55,w1,c1,f2,c2,f7,c7,f8,c8,w9,c9,f16,CG,f17,D2,f18,IY]),.inr ⟨by omega,by simp only[eV,D.sz];omega⟩⟩
theorem FX{es:List (List D)}(hB:es.length<=maxLen)(ok:dL maxLen 12 es)(he:∀e∈es,∀l:Int,0<=l->l<=1048576->∃r,G 55 (e++[.int .i64 l])=some (0,[.int .i64 r])/\Lz (eV e) l r):∀l:Int,0<=l->l<=1048576->∃r,G 56 [.list 19 false es,.int .i64 l]=some (0,[.int .i64 r])/\Lz (es.length+nw es) l r:=by
 intro l h0 h1;have w:IntKind.i64.wrap (l - (es.length:Int))=l - (es.length:Int):=wrap_i64 (by simp only[maxLen]at hB;omega);by_cases c:l - (es.length:Int) < 0
 ·exact⟨-1,bY s56 rfl (by simp only[go_sem,t56,w,c]),.inl rfl⟩
 have hl:es.length<=mg:=by simp only[mg];omega
 have hg:=xQ (b:=lB G HQ) es (λn i=>(0,[.list 19 false es,.int .i64 n,.int .i64 (i:Int)])) (0,[.int .i64 (-1)]) (λn=>(1,[.list 19 false es,.int .i64 n,.int .i64 es.length,.bool false])) (by
  intro i e n hn h0 h1;have hi:=aP hn;have hw:=wj hi hl;have oe:=ok.mem e (aT hn);obtain⟨r,f,h⟩:=he e (aT hn) n h0 h1;obtain⟨x0,x1,x2,x3,x4,x5,x6,x7,x8,x9,x10,x11,x12,x13,x14,x15,x16,x17,x18,rfl,_,b1,_,⟨b3,c3⟩,⟨b4,c4⟩,b5,b6,⟨b7,c7⟩,⟨b8,c8⟩,b9,_,_,_,_,_,_,⟨K9,CG⟩,⟨K_,D2⟩,⟨OV,IY⟩⟩:=ij oe;have hh:aJ (.has 19) [.list 0 false [[.int .i64 x0,.str x1,.int .i64 x2,.list 2 true x3,.list 1 true x4,.str x5,.str x6,.list 1 true x7,.list 1 true x8,.str x9,.bool x10,.bool x11,.bool x12,.bool x13,.int .i64 x14,.int .i64 x15,.list 7 false x16,.list 7 false x17,.list 19 false x18]]]=some (.bool false):=rfl;simp only[ai,ao]at f;rcases h with rfl|⟨p,q⟩
  ·exact .inl (by simp only[go_sem,bl,HQ,hi,hn,hh,f])
  ·have c:¬r < 0:=by omega
   exact .inr ⟨r,p,q,by simp only[go_sem,bl,HQ,hi,hn,hh,f,hw,c]⟩
  ) (by
  intro n;simp only[go_sem,bl,HQ,aq]) es.length 0 (l - (es.length:Int)) (by omega) (by omega) (by omega)
 rw[n0]at hg;rcases hg with g|⟨r,p,q,g⟩
 ·exact⟨-1,bY s56 rfl (by simp only[go_sem,t56,w,c,g]),.inl rfl⟩
 ·rw[aV]at q;exact⟨r,bY s56 rfl (by simp only[go_sem,t56,w,c,g]),.inr ⟨p,by omega⟩⟩
theorem FW(m:Nat):∀es:List (List D),ah es < m->es.length<=maxLen->dL maxLen 12 es->∀l:Int,0<=l->l<=1048576->∃r,G 56 [.list 19 false es,.int .i64 l]=some (0,[.int .i64 r])/\Lz (es.length+nw es) l r:=by
 induction m with
 |zero=>intro es h;omega
 |succ m ih=>
  intro es hz hB ok;refine FX hB ok λe he=>Kw (ok.mem e he) λxs hx=>?_;obtain⟨b,c⟩:=uf (ok.mem e he) hx;exact ih xs (by have:=jj he hx;omega) b c
theorem KC{es:List (List D)}(hB:es.length<=maxLen)(ok:dL maxLen 12 es):∀l:Int,0<=l->l<=1048576->∃r,G 56 [.list 19 false es,.int .i64 l]=some (0,[.int .i64 r])/\Lz (es.length+nw es) l r:=FW _ es (aO _) hB ok
end
section
theorem vL{es:List (List D)}(hl:es.length<=mg)(ok:dL mg 0 es):G 61 [.list 1 true es]=some (0,[.list 1 true es]):=by
 have h:=xR (b:=lB G L7) es (([zS []]:List SK).map SK.d) (λi acc=>(0,[.list 1 true es,.int .i64 (i:Int),.list 1 true acc])) (λacc=>(0,[.list 1 true es,.int .i64 es.length,.bool false,.list 1 true acc])) (by
  intro i e acc hn hz;have hi:=aP hn;have hw:=wj hi hl;have oe:=ok.mem e (aT hn);obtain⟨x0,rfl,b0⟩:=vl oe;have hc:=lu 1 true acc i (aP hz);have hs:=sx (fl:=true) (k:=1) (ds:=[.str x0]) hz rfl rfl (λ_=>rfl);have hh:aJ (.has 1) [.list 0 false [[.str x0]]]=some (.bool false):=rfl;have hp:aJ .pl [.str x0]=some (.bool false):=rfl;simp only[go_sem,bl,L7,hi,hn,hw,hc,hs]) (by
  intro acc;simp only[go_sem,bl,L7,aq])
 have hm:=λby_ hb=>oE (k:=1) (fl:=true) (by_:=by_) (zs:=[zS []]) hl hb;have hm:=hm 16 (by omega);rw[n0]at h;simp only[go_sem]at h;exact bY s61 rfl (by simp only[go_sem,t61,hm,h])
theorem u6{es:List (List D)}(hl:es.length<=mg)(ok:dL mg 0 es):G 110 [.list 1 true es,.list 1 true es]=some (0,[.bool true]):=by
 have h:=gT (b:=lB G EA) es (λi=>(0,[.list 1 true es,.list 1 true es,.int .i64 (i:Int)])) (λ_=>true) (1,[.list 1 true es,.list 1 true es,.int .i64 es.length,.bool false]) (0,[.bool false]) (by
  intro i e hn;have hi:=aP hn;have hw:=wj hi hl;have oe:=ok.mem e (aT hn);obtain⟨x0,rfl,b0⟩:=vl oe;have hh:aJ (.has 1) [.list 0 false [[.str x0]]]=some (.bool false):=rfl;simp only[go_sem,bl,EA,hi,hn,hw]) (by simp only[go_sem,bl,EA,aq])
 rw[n0]at h;have ha:(es.all λ_=>true)=true:=by simp
 rw[ha]at h;simp only[go_sem]at h;exact bY adJ rfl (by simp only[go_sem,t110,h])
theorem S5{e:List D}(ok:eE mg (lay 1) e):G 72 e=some (0,e):=by
 obtain⟨x0,x1,x2,x3,rfl,b0,⟨b1,c1⟩,_,_⟩:=mq ok;have f1:=vL b1 c1;exact bY s72 rfl (by simp only[go_sem,t72,f1])
theorem KS{es:List (List D)}(hl:es.length<=mg)(ok:dL mg 1 es)(he:∀e∈es,G 72 e=some (0,e)):G 73 [.list 4 false es]=some (0,[.list 4 false es]):=by
 have h:=xR (b:=lB G Mc) es (([zS [],zL 1 true,zI 0,zB false]:List SK).map SK.d) (λi acc=>(0,[.list 4 false es,.int .i64 (i:Int),.list 4 false acc])) (λacc=>(0,[.list 4 false es,.int .i64 es.length,.bool false,.list 4 false acc])) (by
  intro i e acc hn hz;have hi:=aP hn;have hw:=wj hi hl;have oe:=ok.mem e (aT hn);have f:=he e (aT hn);obtain⟨x0,x1,x2,x3,rfl,b0,⟨b1,c1⟩,_,_⟩:=mq oe;have hc:=lu 4 false acc i (aP hz);have hs:=sx (fl:=false) (k:=4) (ds:=[.str x0,.list 1 true x1,.int .i64 x2,.bool x3]) hz rfl rfl (λh=>by cases h);have hh:aJ (.has 4) [.list 0 false [[.str x0,.list 1 true x1,.int .i64 x2,.bool x3]]]=some (.bool false):=rfl;have hp:aJ .pl [.str x0,.int .i64 x2,.bool x3]=some (.bool false):=rfl;simp only[go_sem,bl,Mc,hi,hn,hh,f,hw,hc,hs,hp]) (by
  intro acc;simp only[go_sem,bl,Mc,aq])
 have hm:=λby_ hb=>oE (k:=4) (fl:=false) (by_:=by_) (zs:=[zS [],zL 1 true,zI 0,zB false]) hl hb;have hm:=hm 56 (by omega);rw[n0]at h;simp only[go_sem]at h;exact bY s73 rfl (by simp only[go_sem,t73,hm,h])
theorem Ta{es:List (List D)}(hB:es.length<=mg)(ok:dL mg 1 es):G 73 [.list 4 false es]=some (0,[.list 4 false es]):=KS hB ok λe he=>S5 (ok.mem e he)
theorem Qe{e:List D}(ok:eE mg (lay 1) e):G 121 (e++e)=some (0,[.bool true]):=by
 obtain⟨x0,x1,x2,x3,rfl,b0,⟨b1,c1⟩,_,_⟩:=mq ok;have f1:=u6 b1 c1;exact bY adU rfl (by simp only[go_sem,t121,f1])
theorem JA{es:List (List D)}(hl:es.length<=mg)(ok:dL mg 1 es)(he:∀e∈es,G 121 (e++e)=some (0,[.bool true])):G 122 [.list 4 false es,.list 4 false es]=some (0,[.bool true]):=by
 have h:=gT (b:=lB G EF) es (λi=>(0,[.list 4 false es,.list 4 false es,.int .i64 (i:Int)])) (λ_=>true) (1,[.list 4 false es,.list 4 false es,.int .i64 es.length,.bool false]) (0,[.bool false]) (by
  intro i e hn;have hi:=aP hn;have hw:=wj hi hl;have oe:=ok.mem e (aT hn);have f:=he e (aT hn);obtain⟨x0,x1,x2,x3,rfl,b0,⟨b1,c1⟩,_,_⟩:=mq oe;have hh:aJ (.has 4) [.list 0 false [[.str x0,.list 1 true x1,.int .i64 x2,.bool x3]]]=some (.bool false):=rfl;simp only[ai,ao]at f;simp only[go_sem,bl,EF,hi,hn,hh,f,hw]) (by simp only[go_sem,bl,EF,aq])
 rw[n0]at h;have ha:(es.all λ_=>true)=true:=by simp
 rw[ha]at h;simp only[go_sem]at h;exact bY adV rfl (by simp only[go_sem,t122,h])
theorem Qi{es:List (List D)}(hB:es.length<=mg)(ok:dL mg 1 es):G 122 [.list 4 false es,.list 4 false es]=some (0,[.bool true]):=JA hB ok λe he=>Qe (ok.mem e he)
theorem SZ{e:List D}(ok:eE mg (lay 2) e)(ih:∀xs,.list 3 false xs∈e->G 6 [.list 3 false xs]=some (0,[.list 3 false xs])):G 5 e=some (0,e):=by
 obtain⟨x0,x1,x2,rfl,b0,b1,⟨b2,c2⟩⟩:=je ok;have f2:=ih x2 (by simp only[ay,true_or,or_true]);exact bY s5 rfl (by simp only[go_sem,t5,f2])
theorem KQ{es:List (List D)}(hl:es.length<=mg)(ok:dL mg 2 es)(he:∀e∈es,G 5 e=some (0,e)):G 6 [.list 3 false es]=some (0,[.list 3 false es]):=by
 have h:=xR (b:=lB G U4) es (([zS [],zS [],zL 3 false]:List SK).map SK.d) (λi acc=>(0,[.list 3 false es,.int .i64 (i:Int),.list 3 false acc])) (λacc=>(0,[.list 3 false es,.int .i64 es.length,.bool false,.list 3 false acc])) (by
  intro i e acc hn hz;have hi:=aP hn;have hw:=wj hi hl;have oe:=ok.mem e (aT hn);have f:=he e (aT hn);obtain⟨x0,x1,x2,rfl,b0,b1,⟨b2,c2⟩⟩:=je oe;have hc:=lu 3 false acc i (aP hz);have hs:=sx (fl:=false) (k:=3) (ds:=[.str x0,.str x1,.list 3 false x2]) hz rfl rfl (λh=>by cases h);have hh:aJ (.has 3) [.list 0 false [[.str x0,.str x1,.list 3 false x2]]]=some (.bool false):=rfl;have hp:aJ .pl [.str x0,.str x1]=some (.bool false):=rfl;simp only[go_sem,bl,U4,hi,hn,hh,f,hw,hc,hs,hp]) (by
  intro acc;simp only[go_sem,bl,U4,aq])
 have hm:=λby_ hb=>oE (k:=3) (fl:=false) (by_:=by_) (zs:=[zS [],zS [],zL 3 false]) hl hb;have hm:=hm 56 (by omega);rw[n0]at h;simp only[go_sem]at h;exact bY s6 rfl (by simp only[go_sem,t6,hm,h])
theorem KP(m:Nat):∀es:List (List D),ah es < m->es.length<=mg->dL mg 2 es->G 6 [.list 3 false es]=some (0,[.list 3 false es]):=by
 induction m with
 |zero=>intro es h;omega
 |succ m ih=>
  intro es hz hB ok;refine KQ hB ok λe he=>SZ (ok.mem e he) λxs hx=>?_;obtain⟨b,c⟩:=As (ok.mem e he) hx;exact ih xs (by have:=jj he hx;omega) b c
theorem S9{es:List (List D)}(hB:es.length<=mg)(ok:dL mg 2 es):G 6 [.list 3 false es]=some (0,[.list 3 false es]):=KP _ es (aO _) hB ok
theorem Qc{e:List D}(ok:eE mg (lay 2) e)(ih:∀xs,.list 3 false xs∈e->G 10 [.list 3 false xs,.list 3 false xs]=some (0,[.bool true])):G 9 (e++e)=some (0,[.bool true]):=by
 obtain⟨x0,x1,x2,rfl,b0,b1,⟨b2,c2⟩⟩:=je ok;have f2:=ih x2 (by simp only[ay,true_or,or_true]);exact bY s9 rfl (by simp only[go_sem,t9,f2])
theorem Jz{es:List (List D)}(hl:es.length<=mg)(ok:dL mg 2 es)(he:∀e∈es,G 9 (e++e)=some (0,[.bool true])):G 10 [.list 3 false es,.list 3 false es]=some (0,[.bool true]):=by
 have h:=gT (b:=lB G LZ) es (λi=>(0,[.list 3 false es,.list 3 false es,.int .i64 (i:Int)])) (λ_=>true) (1,[.list 3 false es,.list 3 false es,.int .i64 es.length,.bool false]) (0,[.bool false]) (by
  intro i e hn;have hi:=aP hn;have hw:=wj hi hl;have oe:=ok.mem e (aT hn);have f:=he e (aT hn);obtain⟨x0,x1,x2,rfl,b0,b1,⟨b2,c2⟩⟩:=je oe;have hh:aJ (.has 3) [.list 0 false [[.str x0,.str x1,.list 3 false x2]]]=some (.bool false):=rfl;simp only[ai,ao]at f;simp only[go_sem,bl,LZ,hi,hn,hh,f,hw]) (by simp only[go_sem,bl,LZ,aq])
 rw[n0]at h;have ha:(es.all λ_=>true)=true:=by simp
 rw[ha]at h;simp only[go_sem]at h;exact bY s10 rfl (by simp only[go_sem,t10,h])
theorem Jy(m:Nat):∀es:List (List D),ah es < m->es.length<=mg->dL mg 2 es->G 10 [.list 3 false es,.list 3 false es]=some (0,[.bool true]):=by
 induction m with
 |zero=>intro es h;omega
 |succ m ih=>
  intro es hz hB ok;refine Jz hB ok λe he=>Qc (ok.mem e he) λxs hx=>?_;obtain⟨b,c⟩:=As (ok.mem e he) hx;exact ih xs (by have:=jj he hx;omega) b c
theorem Hb{es:List (List D)}(hB:es.length<=mg)(ok:dL mg 2 es):G 10 [.list 3 false es,.list 3 false es]=some (0,[.bool true]):=Jy _ es (aO _) hB ok
theorem OM{e:List D}(ok:eE mg (lay 6) e):G 59 e=some (0,e):=by
 obtain⟨x0,x1,rfl,_,_⟩:=lR ok;exact bY s59 rfl (by simp only[go_sem,t59,])
theorem IL{es:List (List D)}(hl:es.length<=mg)(ok:dL mg 6 es)(he:∀e∈es,G 59 e=some (0,e)):G 60 [.list 2 true es]=some (0,[.list 2 true es]):=by
 have h:=xR (b:=lB G L6) es (([zI 0,zI 0]:List SK).map SK.d) (λi acc=>(0,[.list 2 true es,.int .i64 (i:Int),.list 2 true acc])) (λacc=>(0,[.list 2 true es,.int .i64 es.length,.bool false,.list 2 true acc])) (by
  intro i e acc hn hz;have hi:=aP hn;have hw:=wj hi hl;have oe:=ok.mem e (aT hn);have f:=he e (aT hn);obtain⟨x0,x1,rfl,_,_⟩:=lR oe;have hc:=lu 2 true acc i (aP hz);have hs:=sx (fl:=true) (k:=2) (ds:=[.int .i64 x0,.int .i64 x1]) hz rfl rfl (λ_=>rfl);have hh:aJ (.has 2) [.list 0 false [[.int .i64 x0,.int .i64 x1]]]=some (.bool false):=rfl;have hp:aJ .pl [.int .i64 x0,.int .i64 x1]=some (.bool false):=rfl;simp only[go_sem,bl,L6,hi,hn,hh,f,hw,hc,hs]) (by
  intro acc;simp only[go_sem,bl,L6,aq])
 have hm:=λby_ hb=>oE (k:=2) (fl:=true) (by_:=by_) (zs:=[zI 0,zI 0]) hl hb;have hm:=hm 16 (by omega);rw[n0]at h;simp only[go_sem]at h;exact bY s60 rfl (by simp only[go_sem,t60,hm,h])
theorem ON{es:List (List D)}(hB:es.length<=mg)(ok:dL mg 6 es):G 60 [.list 2 true es]=some (0,[.list 2 true es]):=IL hB ok λe he=>OM (ok.mem e he)
theorem Np{e:List D}(ok:eE mg (lay 6) e):G 108 (e++e)=some (0,[.bool true]):=by
 obtain⟨x0,x1,rfl,_,_⟩:=lR ok;exact bY adH rfl (by simp only[go_sem,t108])
theorem Hc{es:List (List D)}(hl:es.length<=mg)(ok:dL mg 6 es)(he:∀e∈es,G 108 (e++e)=some (0,[.bool true])):G 109 [.list 2 true es,.list 2 true es]=some (0,[.bool true]):=by
 have h:=gT (b:=lB G Ez) es (λi=>(0,[.list 2 true es,.list 2 true es,.int .i64 (i:Int)])) (λ_=>true) (1,[.list 2 true es,.list 2 true es,.int .i64 es.length,.bool false]) (0,[.bool false]) (by
  intro i e hn;have hi:=aP hn;have hw:=wj hi hl;have oe:=ok.mem e (aT hn);have f:=he e (aT hn);obtain⟨x0,x1,rfl,_,_⟩:=lR oe;have hh:aJ (.has 2) [.list 0 false [[.int .i64 x0,.int .i64 x1]]]=some (.bool false):=rfl;simp only[ai,ao]at f;simp only[go_sem,bl,Ez,hi,hn,hh,f,hw]) (by simp only[go_sem,bl,Ez,aq])
 rw[n0]at h;have ha:(es.all λ_=>true)=true:=by simp
 rw[ha]at h;simp only[go_sem]at h;exact bY adI rfl (by simp only[go_sem,t109,h])
theorem Nq{es:List (List D)}(hB:es.length<=mg)(ok:dL mg 6 es):G 109 [.list 2 true es,.list 2 true es]=some (0,[.bool true]):=Hc hB ok λe he=>Np (ok.mem e he)
theorem S8{e:List D}(ok:eE mg (lay 7) e):G 62 e=some (0,e):=by
 obtain⟨x0,x1,x2,x3,x4,rfl,_,⟨b1,c1⟩,⟨b2,c2⟩,b3,b4⟩:=Ak ok;have f1:=ON b1 c1;have f2:=vL b2 c2;exact bY s62 rfl (by simp only[go_sem,t62,f1,f2])
theorem Qh{e:List D}(ok:eE mg (lay 7) e):G 111 (e++e)=some (0,[.bool true]):=by
 obtain⟨x0,x1,x2,x3,x4,rfl,_,⟨b1,c1⟩,⟨b2,c2⟩,b3,b4⟩:=Ak ok;have f1:=Nq b1 c1;have f2:=u6 b2 c2;exact bY adK rfl (by simp only[go_sem,t111,f1,f2])
theorem S7{e:List D}(ok:eE mg (lay 8) e):G 63 e=some (0,e):=by
 obtain⟨x0,x1,rfl,b0,b1⟩:=mu ok;exact bY s63 rfl (by simp only[go_sem,t63,])
theorem KW{es:List (List D)}(hl:es.length<=mg)(ok:dL mg 8 es)(he:∀e∈es,G 63 e=some (0,e)):G 64 [.list 2 true es]=some (0,[.list 2 true es]):=by
 have h:=xR (b:=lB G L8) es (([zS [],zS []]:List SK).map SK.d) (λi acc=>(0,[.list 2 true es,.int .i64 (i:Int),.list 2 true acc])) (λacc=>(0,[.list 2 true es,.int .i64 es.length,.bool false,.list 2 true acc])) (by
  intro i e acc hn hz;have hi:=aP hn;have hw:=wj hi hl;have oe:=ok.mem e (aT hn);have f:=he e (aT hn);obtain⟨x0,x1,rfl,b0,b1⟩:=mu oe;have hc:=lu 2 true acc i (aP hz);have hs:=sx (fl:=true) (k:=2) (ds:=[.str x0,.str x1]) hz rfl rfl (λ_=>rfl);have hh:aJ (.has 2) [.list 0 false [[.str x0,.str x1]]]=some (.bool false):=rfl;have hp:aJ .pl [.str x0,.str x1]=some (.bool false):=rfl;simp only[go_sem,bl,L8,hi,hn,hh,f,hw,hc,hs]) (by
  intro acc;simp only[go_sem,bl,L8,aq])
 have hm:=λby_ hb=>oE (k:=2) (fl:=true) (by_:=by_) (zs:=[zS [],zS []]) hl hb;have hm:=hm 32 (by omega);rw[n0]at h;simp only[go_sem]at h;exact bY s64 rfl (by simp only[go_sem,t64,hm,h])
theorem Tc{es:List (List D)}(hB:es.length<=mg)(ok:dL mg 8 es):G 64 [.list 2 true es]=some (0,[.list 2 true es]):=KW hB ok λe he=>S7 (ok.mem e he)
theorem Qg{e:List D}(ok:eE mg (lay 8) e):G 112 (e++e)=some (0,[.bool true]):=by
 obtain⟨x0,x1,rfl,b0,b1⟩:=mu ok;exact bY adL rfl (by simp only[go_sem,t112])
theorem JD{es:List (List D)}(hl:es.length<=mg)(ok:dL mg 8 es)(he:∀e∈es,G 112 (e++e)=some (0,[.bool true])):G 113 [.list 2 true es,.list 2 true es]=some (0,[.bool true]):=by
 have h:=gT (b:=lB G EB) es (λi=>(0,[.list 2 true es,.list 2 true es,.int .i64 (i:Int)])) (λ_=>true) (1,[.list 2 true es,.list 2 true es,.int .i64 es.length,.bool false]) (0,[.bool false]) (by
  intro i e hn;have hi:=aP hn;have hw:=wj hi hl;have oe:=ok.mem e (aT hn);have f:=he e (aT hn);obtain⟨x0,x1,rfl,b0,b1⟩:=mu oe;have hh:aJ (.has 2) [.list 0 false [[.str x0,.str x1]]]=some (.bool false):=rfl;simp only[ai,ao]at f;simp only[go_sem,bl,EB,hi,hn,hh,f,hw]) (by simp only[go_sem,bl,EB,aq])
 rw[n0]at h;have ha:(es.all λ_=>true)=true:=by simp
 rw[ha]at h;simp only[go_sem]at h;exact bY adM rfl (by simp only[go_sem,t113,h])
theorem Qk{es:List (List D)}(hB:es.length<=mg)(ok:dL mg 8 es):G 113 [.list 2 true es,.list 2 true es]=some (0,[.bool true]):=JD hB ok λe he=>Qg (ok.mem e he)
theorem S6{e:List D}(ok:eE mg (lay 9) e):G 65 e=some (0,e):=by
 obtain⟨x0,x1,rfl,b0,⟨b1,c1⟩⟩:=mr ok;have f1:=Tc b1 c1;exact bY s65 rfl (by simp only[go_sem,t65,f1])
theorem KV{es:List (List D)}(hl:es.length<=mg)(ok:dL mg 9 es)(he:∀e∈es,G 65 e=some (0,e)):G 66 [.list 2 false es]=some (0,[.list 2 false es]):=by
 have h:=xR (b:=lB G L9) es (([zS [],zL 2 true]:List SK).map SK.d) (λi acc=>(0,[.list 2 false es,.int .i64 (i:Int),.list 2 false acc])) (λacc=>(0,[.list 2 false es,.int .i64 es.length,.bool false,.list 2 false acc])) (by
  intro i e acc hn hz;have hi:=aP hn;have hw:=wj hi hl;have oe:=ok.mem e (aT hn);have f:=he e (aT hn);obtain⟨x0,x1,rfl,b0,⟨b1,c1⟩⟩:=mr oe;have hc:=lu 2 false acc i (aP hz);have hs:=sx (fl:=false) (k:=2) (ds:=[.str x0,.list 2 true x1]) hz rfl rfl (λh=>by cases h);have hh:aJ (.has 2) [.list 0 false [[.str x0,.list 2 true x1]]]=some (.bool false):=rfl;have hp:aJ .pl [.str x0]=some (.bool false):=rfl;simp only[go_sem,bl,L9,hi,hn,hh,f,hw,hc,hs,hp]) (by
  intro acc;simp only[go_sem,bl,L9,aq])
 have hm:=λby_ hb=>oE (k:=2) (fl:=false) (by_:=by_) (zs:=[zS [],zL 2 true]) hl hb;have hm:=hm 40 (by omega);rw[n0]at h;simp only[go_sem]at h;exact bY s66 rfl (by simp only[go_sem,t66,hm,h])
theorem Tb{es:List (List D)}(hB:es.length<=mg)(ok:dL mg 9 es):G 66 [.list 2 false es]=some (0,[.list 2 false es]):=KV hB ok λe he=>S6 (ok.mem e he)
theorem Qf{e:List D}(ok:eE mg (lay 9) e):G 114 (e++e)=some (0,[.bool true]):=by
 obtain⟨x0,x1,rfl,b0,⟨b1,c1⟩⟩:=mr ok;have f1:=Qk b1 c1;exact bY adN rfl (by simp only[go_sem,t114,f1])
theorem JC{es:List (List D)}(hl:es.length<=mg)(ok:dL mg 9 es)(he:∀e∈es,G 114 (e++e)=some (0,[.bool true])):G 115 [.list 2 false es,.list 2 false es]=some (0,[.bool true]):=by
 have h:=gT (b:=lB G EC) es (λi=>(0,[.list 2 false es,.list 2 false es,.int .i64 (i:Int)])) (λ_=>true) (1,[.list 2 false es,.list 2 false es,.int .i64 es.length,.bool false]) (0,[.bool false]) (by
  intro i e hn;have hi:=aP hn;have hw:=wj hi hl;have oe:=ok.mem e (aT hn);have f:=he e (aT hn);obtain⟨x0,x1,rfl,b0,⟨b1,c1⟩⟩:=mr oe;have hh:aJ (.has 2) [.list 0 false [[.str x0,.list 2 true x1]]]=some (.bool false):=rfl;simp only[ai,ao]at f;simp only[go_sem,bl,EC,hi,hn,hh,f,hw]) (by simp only[go_sem,bl,EC,aq])
 rw[n0]at h;have ha:(es.all λ_=>true)=true:=by simp
 rw[ha]at h;simp only[go_sem]at h;exact bY adO rfl (by simp only[go_sem,t115,h])
theorem Qj{es:List (List D)}(hB:es.length<=mg)(ok:dL mg 9 es):G 115 [.list 2 false es,.list 2 false es]=some (0,[.bool true]):=JC hB ok λe he=>Qf (ok.mem e he)
theorem S4{e:List D}(ok:eE mg (lay 10) e):G 67 e=some (0,e):=by
 obtain⟨x0,x1,x2,rfl,_,_,⟨b2,c2⟩⟩:=Aj ok;have f2:=Tb b2 c2;exact bY s67 rfl (by simp only[go_sem,t67,f2])
theorem Qd{e:List D}(ok:eE mg (lay 10) e):G 116 (e++e)=some (0,[.bool true]):=by
 obtain⟨x0,x1,x2,rfl,_,_,⟨b2,c2⟩⟩:=Aj ok;have f2:=Qj b2 c2;exact bY adP rfl (by simp only[go_sem,t116,f2])
theorem SY{e:List D}(ok:eE mg (lay 11) e)(ih:∀xs,.list 7 false xs∈e->G 69 [.list 7 false xs]=some (0,[.list 7 false xs])):G 68 e=some (0,e):=by
 obtain⟨x0,x1,x2,x3,x4,x5,x6,rfl,_,_,b2,_,_,⟨b5,c5⟩,⟨b6,c6⟩⟩:=ko ok;have f3:=S4 (eE.sub 3 3 ok);simp only[gr,aV,cx,ba]at f3;have f6:=ih x6 (by simp only[ay,true_or,or_true]);exact bY s68 rfl (by simp only[go_sem,t68,f3,f6])
theorem KN{es:List (List D)}(hl:es.length<=mg)(ok:dL mg 11 es)(he:∀e∈es,G 68 e=some (0,e)):G 69 [.list 7 false es]=some (0,[.list 7 false es]):=by
 have h:=xR (b:=lB G Ma) es (([zI 0,zI 0,zS [],zB false,zI 0,zL 2 false,zL 7 false]:List SK).map SK.d) (λi acc=>(0,[.list 7 false es,.int .i64 (i:Int),.list 7 false acc])) (λacc=>(0,[.list 7 false es,.int .i64 es.length,.bool false,.list 7 false acc])) (by
  intro i e acc hn hz;have hi:=aP hn;have hw:=wj hi hl;have oe:=ok.mem e (aT hn);have f:=he e (aT hn);obtain⟨x0,x1,x2,x3,x4,x5,x6,rfl,_,_,b2,_,_,⟨b5,c5⟩,⟨b6,c6⟩⟩:=ko oe;have hc:=lu 7 false acc i (aP hz);have hs:=sx (fl:=false) (k:=7) (ds:=[.int .i64 x0,.int .i64 x1,.str x2,.bool x3,.int .i64 x4,.list 2 false x5,.list 7 false x6]) hz rfl rfl (λh=>by cases h);have hh:aJ (.has 7) [.list 0 false [[.int .i64 x0,.int .i64 x1,.str x2,.bool x3,.int .i64 x4,.list 2 false x5,.list 7 false x6]]]=some (.bool false):=rfl;have hp:aJ .pl [.int .i64 x0,.int .i64 x1,.str x2,.bool x3,.int .i64 x4]=some (.bool false):=rfl;simp only[go_sem,bl,Ma,hi,hn,hh,f,hw,hc,hs,hp]) (by
  intro acc;simp only[go_sem,bl,Ma,aq])
 have hm:=λby_ hb=>oE (k:=7) (fl:=false) (by_:=by_) (zs:=[zI 0,zI 0,zS [],zB false,zI 0,zL 2 false,zL 7 false]) hl hb;have hm:=hm 96 (by omega);rw[n0]at h;simp only[go_sem]at h;exact bY s69 rfl (by simp only[go_sem,t69,hm,h])
theorem KM(m:Nat):∀es:List (List D),ah es < m->es.length<=mg->dL mg 11 es->G 69 [.list 7 false es]=some (0,[.list 7 false es]):=by
 induction m with
 |zero=>intro es h;omega
 |succ m ih=>
  intro es hz hB ok;refine KN hB ok λe he=>SY (ok.mem e he) λxs hx=>?_;obtain⟨b,c⟩:=Ar (ok.mem e he) hx;exact ih xs (by have:=jj he hx;omega) b c
theorem IK{es:List (List D)}(hB:es.length<=mg)(ok:dL mg 11 es):G 69 [.list 7 false es]=some (0,[.list 7 false es]):=KM _ es (aO _) hB ok
theorem Qb{e:List D}(ok:eE mg (lay 11) e)(ih:∀xs,.list 7 false xs∈e->G 118 [.list 7 false xs,.list 7 false xs]=some (0,[.bool true])):G 117 (e++e)=some (0,[.bool true]):=by
 obtain⟨x0,x1,x2,x3,x4,x5,x6,rfl,_,_,b2,_,_,⟨b5,c5⟩,⟨b6,c6⟩⟩:=ko ok;have f3:=Qd (eE.sub 3 3 ok);simp only[gr,aV,cx,ba,ai,ao]at f3;have f6:=ih x6 (by simp only[ay,true_or,or_true]);exact bY adQ rfl (by simp only[go_sem,t117,f3,f6])
theorem Jx{es:List (List D)}(hl:es.length<=mg)(ok:dL mg 11 es)(he:∀e∈es,G 117 (e++e)=some (0,[.bool true])):G 118 [.list 7 false es,.list 7 false es]=some (0,[.bool true]):=by
 have h:=gT (b:=lB G ED) es (λi=>(0,[.list 7 false es,.list 7 false es,.int .i64 (i:Int)])) (λ_=>true) (1,[.list 7 false es,.list 7 false es,.int .i64 es.length,.bool false]) (0,[.bool false]) (by
  intro i e hn;have hi:=aP hn;have hw:=wj hi hl;have oe:=ok.mem e (aT hn);have f:=he e (aT hn);obtain⟨x0,x1,x2,x3,x4,x5,x6,rfl,_,_,b2,_,_,⟨b5,c5⟩,⟨b6,c6⟩⟩:=ko oe;have hh:aJ (.has 7) [.list 0 false [[.int .i64 x0,.int .i64 x1,.str x2,.bool x3,.int .i64 x4,.list 2 false x5,.list 7 false x6]]]=some (.bool false):=rfl;simp only[ai,ao]at f;simp only[go_sem,bl,ED,hi,hn,hh,f,hw]) (by simp only[go_sem,bl,ED,aq])
 rw[n0]at h;have ha:(es.all λ_=>true)=true:=by simp
 rw[ha]at h;simp only[go_sem]at h;exact bY adR rfl (by simp only[go_sem,t118,h])
theorem Jw(m:Nat):∀es:List (List D),ah es < m->es.length<=mg->dL mg 11 es->G 118 [.list 7 false es,.list 7 false es]=some (0,[.bool true]):=by
 induction m with
 |zero=>intro es h;omega
 |succ m ih=>
  intro es hz hB ok;refine Jx hB ok λe he=>Qb (ok.mem e he) λxs hx=>?_;obtain⟨b,c⟩:=Ar (ok.mem e he) hx;exact ih xs (by have:=jj he hx;omega) b c
theorem Ha{es:List (List D)}(hB:es.length<=mg)(ok:dL mg 11 es):G 118 [.list 7 false es,.list 7 false es]=some (0,[.bool true]):=Jw _ es (aO _) hB ok
theorem KL{e:List D}(ok:eE mg (lay 12) e)(ih:∀xs,.list 19 false xs∈e->G 71 [.list 19 false xs]=some (0,[.list 19 false xs])):G 70 e=some (0,e):=by
 obtain⟨x0,x1,x2,x3,x4,x5,x6,x7,x8,x9,x10,x11,x12,x13,x14,x15,x16,x17,x18,rfl,_,b1,_,⟨b3,c3⟩,⟨b4,c4⟩,b5,b6,⟨b7,c7⟩,⟨b8,c8⟩,b9,_,_,_,_,_,_,⟨K9,CG⟩,⟨K_,D2⟩,⟨OV,IY⟩⟩:=ij ok;have f2:=S8 (eE.sub 2 5 ok);simp only[gr,aV,cx,ba]at f2;have f7:=vL b7 c7;have f8:=vL b8 c8;have f16:=IK K9 CG;have f17:=IK K_ D2;have f18:=ih x18 (by simp only[ay,true_or,or_true]);exact bY s70 rfl (by simp only[go_sem,t70,f2,f7,f8,f16,f17,f18])
theorem F5{es:List (List D)}(hl:es.length<=mg)(ok:dL mg 12 es)(he:∀e∈es,G 70 e=some (0,e)):G 71 [.list 19 false es]=some (0,[.list 19 false es]):=by
 have h:=xR (b:=lB G Mb) es (([zI 0,zS [],zI 0,zL 2 true,zL 1 true,zS [],zS [],zL 1 true,zL 1 true,zS [],zB false,zB false,zB false,zB false,zI 0,zI 0,zL 7 false,zL 7 false,zL 19 false]:List SK).map SK.d) (λi acc=>(0,[.list 19 false es,.int .i64 (i:Int),.list 19 false acc])) (λacc=>(0,[.list 19 false es,.int .i64 es.length,.bool false,.list 19 false acc])) (by
  intro i e acc hn hz;have hi:=aP hn;have hw:=wj hi hl;have oe:=ok.mem e (aT hn);have f:=he e (aT hn);obtain⟨x0,x1,x2,x3,x4,x5,x6,x7,x8,x9,x10,x11,x12,x13,x14,x15,x16,x17,x18,rfl,_,b1,_,⟨b3,c3⟩,⟨b4,c4⟩,b5,b6,⟨b7,c7⟩,⟨b8,c8⟩,b9,_,_,_,_,_,_,⟨K9,CG⟩,⟨K_,D2⟩,⟨OV,IY⟩⟩:=ij oe;have hc:=lu 19 false acc i (aP hz);have hs:=sx (fl:=false) (k:=19) (ds:=[.int .i64 x0,.str x1,.int .i64 x2,.list 2 true x3,.list 1 true x4,.str x5,.str x6,.list 1 true x7,.list 1 true x8,.str x9,.bool x10,.bool x11,.bool x12,.bool x13,.int .i64 x14,.int .i64 x15,.list 7 false x16,.list 7 false x17,.list 19 false x18]) hz rfl rfl (λh=>by cases h);have hh:aJ (.has 19) [.list 0 false [[.int .i64 x0,.str x1,.int .i64 x2,.list 2 true x3,.list 1 true x4,.str x5,.str x6,.list 1 true x7,.list 1 true x8,.str x9,.bool x10,.bool x11,.bool x12,.bool x13,.int .i64 x14,.int .i64 x15,.list 7 false x16,.list 7 false x17,.list 19 false x18]]]=some (.bool false):=rfl;have hp:aJ .pl [.int .i64 x0,.str x1,.int .i64 x2,.str x5,.str x6,.str x9,.bool x10,.bool x11,.bool x12,.bool x13,.int .i64 x14,.int .i64 x15]=some (.bool false):=rfl;simp only[go_sem,bl,Mb,hi,hn,hh,f,hw,hc,hs,hp]) (by
  intro acc;simp only[go_sem,bl,Mb,aq])
 have hm:=λby_ hb=>oE (k:=19) (fl:=false) (by_:=by_) (zs:=[zI 0,zS [],zI 0,zL 2 true,zL 1 true,zS [],zS [],zL 1 true,zL 1 true,zS [],zB false,zB false,zB false,zB false,zI 0,zI 0,zL 7 false,zL 7 false,zL 19 false]) hl hb;have hm:=hm 272 (by omega);rw[n0]at h;simp only[go_sem]at h;exact bY s71 rfl (by simp only[go_sem,t71,hm,h])
theorem F4(m:Nat):∀es:List (List D),ah es < m->es.length<=mg->dL mg 12 es->G 71 [.list 19 false es]=some (0,[.list 19 false es]):=by
 induction m with
 |zero=>intro es h;omega
 |succ m ih=>
  intro es hz hB ok;refine F5 hB ok λe he=>KL (ok.mem e he) λxs hx=>?_;obtain⟨b,c⟩:=uf (ok.mem e he) hx;exact ih xs (by have:=jj he hx;omega) b c
theorem KU{es:List (List D)}(hB:es.length<=mg)(ok:dL mg 12 es):G 71 [.list 19 false es]=some (0,[.list 19 false es]):=F4 _ es (aO _) hB ok
theorem Jv{e:List D}(ok:eE mg (lay 12) e)(ih:∀xs,.list 19 false xs∈e->G 120 [.list 19 false xs,.list 19 false xs]=some (0,[.bool true])):G 119 (e++e)=some (0,[.bool true]):=by
 obtain⟨x0,x1,x2,x3,x4,x5,x6,x7,x8,x9,x10,x11,x12,x13,x14,x15,x16,x17,x18,rfl,_,b1,_,⟨b3,c3⟩,⟨b4,c4⟩,b5,b6,⟨b7,c7⟩,⟨b8,c8⟩,b9,_,_,_,_,_,_,⟨K9,CG⟩,⟨K_,D2⟩,⟨OV,IY⟩⟩:=ij ok;have f2:=Qh (eE.sub 2 5 ok);simp only[gr,aV,cx,ba,ai,ao]at f2;have f7:=u6 b7 c7;have f8:=u6 b8 c8;have f16:=Ha K9 CG;have f17:=Ha K_ D2;have f18:=ih x18 (by simp only[ay,true_or,or_true]);exact bY adS rfl (by simp only[go_sem,t119,f2,f7,f8,f16,f17,f18])
theorem Ef{es:List (List D)}(hl:es.length<=mg)(ok:dL mg 12 es)(he:∀e∈es,G 119 (e++e)=some (0,[.bool true])):G 120 [.list 19 false es,.list 19 false es]=some (0,[.bool true]):=by
 have h:=gT (b:=lB G EE) es (λi=>(0,[.list 19 false es,.list 19 false es,.int .i64 (i:Int)])) (λ_=>true) (1,[.list 19 false es,.list 19 false es,.int .i64 es.length,.bool false]) (0,[.bool false]) (by
  intro i e hn;have hi:=aP hn;have hw:=wj hi hl;have oe:=ok.mem e (aT hn);have f:=he e (aT hn);obtain⟨x0,x1,x2,x3,x4,x5,x6,x7,x8,x9,x10,x11,x12,x13,x14,x15,x16,x17,x18,rfl,_,b1,_,⟨b3,c3⟩,⟨b4,c4⟩,b5,b6,⟨b7,c7⟩,⟨b8,c8⟩,b9,_,_,_,_,_,_,⟨K9,CG⟩,⟨K_,D2⟩,⟨OV,IY⟩⟩:=ij oe;have hh:aJ (.has 19) [.list 0 false [[.int .i64 x0,.str x1,.int .i64 x2,.list 2 true x3,.list 1 true x4,.str x5,.str x6,.list 1 true x7,.list 1 true x8,.str x9,.bool x10,.bool x11,.bool x12,.bool x13,.int .i64 x14,.int .i64 x15,.list 7 false x16,.list 7 false x17,.list 19 false x18]]]=some (.bool false):=rfl;simp only[ai,ao]at f;simp only[go_sem,bl,EE,hi,hn,hh,f,hw]) (by simp only[go_sem,bl,EE,aq])
 rw[n0]at h;have ha:(es.all λ_=>true)=true:=by simp
 rw[ha]at h;simp only[go_sem]at h;exact bY adT rfl (by simp only[go_sem,t120,h])
theorem Ee(m:Nat):∀es:List (List D),ah es < m->es.length<=mg->dL mg 12 es->G 120 [.list 19 false es,.list 19 false es]=some (0,[.bool true]):=by
 induction m with
 |zero=>intro es h;omega
 |succ m ih=>
  intro es hz hB ok;refine Ef hB ok λe he=>Jv (ok.mem e he) λxs hx=>?_;obtain⟨b,c⟩:=uf (ok.mem e he) hx;exact ih xs (by have:=jj he hx;omega) b c
theorem JB{es:List (List D)}(hB:es.length<=mg)(ok:dL mg 12 es):G 120 [.list 19 false es,.list 19 false es]=some (0,[.bool true]):=Ee _ es (aO _) hB ok
end
end Go.Proofs.YtcdjbelccndadaaGreatDoor
