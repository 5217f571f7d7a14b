/- Part of the proof: a machine over plain data, its proof, the functions of the program run on symbols, what they answer. Condition: none. -/
import Derived.Test.YtcdjbelccndadaaGreatDoorZz06
set_option linter.unusedVariables false
set_option linter.unusedSimpArgs false
open Bool renaming false_eq_true->au
open ByteArray renaming size_append->gL
open Int renaming toNat_natCast->cB,natCast_nonneg->du,natCast_zero->dY,lt_irrefl->ey,natCast_one->jC,add_zero->kC
open List renaming cons_append->ai,nil_append->ak,mem_cons->ay,append_nil->aD,map_cons->aN,take_length->aW,drop_zero->aX,take_zero->bg,drop_length->cC,take_succ_cons->cD,map_nil->dD,drop_succ_cons->gu,not_mem_nil->gP
open Nat renaming lt_irrefl->aq,reduceEqDiff->ax,le_trans->az,lt_succ_self->aM,reduceLeDiff->aZ,reduceBNe->ba,lt_of_lt_of_le->bn,reduceAdd->bI,le_of_lt->mj,reduceLT->oO,le_of_lt_succ->qK
open SizeOf renaming sizeOf->ah
open UInt8 renaming ofNat->cL
namespace Go.Proofs.YtcdjbelccndadaaGreatDoor
set_option maxRecDepth 100000
set_option maxHeartbeats 4000000
section
open Go.RowKit
theorem Rw:∀(f n:Nat) (out:ByteArray) (W:List (Nat×Row)),n < 10 ^ f->n<=9223372036854775807->out.size+f<=100->(W=[]\/∃r,W=[(12,r)])->
  ∃W',ev T tv (.loop se) ⟨[(0,.d (.int .i64 n)),(3,.d (.str out))],[],W⟩=some (.exit 0,⟨[(0,.d (.int .i64 0)),(3,.d (.str (yt f n out))),(7,.d (.bool false))],[],W'⟩)
 |0,n,out,W,h,_,_,hW=>by
  obtain rfl:n=0:=by simp at h;omega
  rw[fG];rcases hW with rfl|⟨r,rfl⟩
  ·refine⟨[],?_⟩;simp -implicitDefEqProofs only [se,yt,dY,ey,go_sem,ax]
  ·refine⟨[(12,r)],?_⟩;simp -implicitDefEqProofs only [se,yt,dY,ey,go_sem,ax]
 |f+1,n,out,W,h,hb,ho,hW=>by
  by_cases h0:n=0
  ·subst h0;rw[fG];rcases hW with rfl|⟨r,rfl⟩
   ·refine⟨[],?_⟩;simp -implicitDefEqProofs only [se,yt,dY,ey,go_sem,ax]
   ·refine⟨[(12,r)],?_⟩;simp -implicitDefEqProofs only [se,yt,dY,ey,go_sem,ax]
  ·have hd:(0:Int) < (n:Int):=by omega
   have hr:(0:Int)<=(n:Int):=by omega
   have h1:IntKind.i64.wrap (48+(n:Int) % 10)=48+(n:Int) % 10:=bN (by omega);have h2:IntKind.u8.wrap (48+(n:Int) % 10)=48+(n:Int) % 10:=by simp -implicitDefEqProofs only [IntKind.wrap,IntKind.bits,IntKind.signed];simp;omega
   have h3:(48+(n:Int) % 10).toNat=48+n % 10:=by omega
   have h4:(n:Int) / 10=((n / 10:Nat):Int):=by omega
   have h5:(⟨#[cL (48+n % 10)]⟩:ByteArray).size+out.size<=maxLen:=by rw[MO];simp -implicitDefEqProofs only [maxLen];omega
   obtain⟨W',ih⟩:=Rw f (n / 10) (⟨#[cL (48+n % 10)]⟩++out) [(12,⟨[[.int .u8 (48+(n:Int) % 10)]],1,true,true,true,false⟩)] (by rw[Nat.pow_succ]at h;omega) (by omega) (by rw[gL,MO];omega) (.inr ⟨_,rfl⟩);refine⟨W',?_⟩;have hi1:(1:Int)<=10:=by omega
   have h6:#[cL (48+n % 10)].size+out.size<=maxLen:=h5;have hb:ev T tv se ⟨[(0,.d (.int .i64 n)),(3,.d (.str out))],[],W⟩=some (.norm,⟨[(0,.d (.int .i64 (n / 10:Nat))),(3,.d (.str (⟨#[cL (48+n % 10)]⟩++out)))],[],[(12,⟨[[.int .u8 (48+(n:Int) % 10)]],1,true,true,true,false⟩)]⟩):=by
    rcases hW with rfl|⟨r,rfl⟩<;>simp -implicitDefEqProofs only [se,hd,hr,hi1,h1,h2,h3,h4,h6,bytesOf,aN,dD,reduceCtorEq,go_sem,ax,oO]
   rw[fG,hb];simp -implicitDefEqProofs only [yt,h0,if_false]
   exact ih
theorem iJ(q:Int)(h0:0 < q)(h1:q<=9223372036854775807):dd T 16 [.val false [.d (.int .i64 q)]]=some ([.val false [.d (.str (DB q))]],[]):=by
 obtain⟨n,rfl⟩:∃n:Nat,q=n:=⟨q.toNat,by omega⟩
 rw[sc (f:=16) rfl rfl];obtain⟨W',hl⟩:=Rw 20 n ⟨#[]⟩ [] (by omega) (by omega) (by decide) (.inl rfl);have hd:¬((n:Int)<=0):=by omega
 have hs:(DB (n:Int)).size<=maxLen:=az (Ic _) (by decide);simp -implicitDefEqProofs only [DB,if_neg hd,cB]at hs ⊢
 rw[gL]at hs;have hs2:#[(109:UInt8)].size+(yt 20 n ⟨#[]⟩).size<=maxLen:=hs;simp -implicitDefEqProofs only [hl,hd,hs2,go_sem,ax]
theorem qu(es:List (List D))(hB:es.length<=mm)(ok:eh mm 0 es)(q:Int)(h0:0 < q)(h1:q+bz es<=4611686018427387904) :
  gK T 149 false [.list 1 true es] q=some ([.list 1 true (lr es q)],q+bz es):=by
 rw[lU (f:=149) rfl];have hl:=uj (T:=T) (own:=true) (k:=1) (body:=zb) (λi=>⟨⟨[(1,.d (.int .i64 (q+bz (es.take i)))),(5,.d (.int .i64 i))],[],[]⟩,[(0,.lst)],lr (es.take i) q++es.drop i⟩) es.length
  (by simp -implicitDefEqProofs only [zb,dz,aD,WJ,aW,cC,go_sem,ax,ba];rfl)
  (by
   intro i hi;have hn:=dF hi;have t1:=iQ es (i+1);have t2:=gm hn;obtain⟨x0,he,b0⟩:=vk (ok.Ip hn);have t3:Bj es[i]=0+1:=by rw[he];simp -implicitDefEqProofs only [Bj,D.mn]<;>omega
   have m0:=iJ (q+(bz (es.take i):Int)) (by omega) (by omega);obtain⟨w0,t4⟩:(IntKind.i64.wrap (q+(bz (es.take i):Int)+1)=q+(bz (es.take i):Int)+1)/\(q+(bz (es.take (i+1)):Int)=q+(bz (es.take i):Int)+1):=⟨bN (by omega),by omega⟩
   have g:=um q hn;rw[he]at hn g;simp -implicitDefEqProofs only [OW,D.mk]at g
   have i3:(1:Int)<=3:=by omega
   simp -implicitDefEqProofs only [zb,m0,w0,t4,uo q (mj hi),uq q hn,ur q hn,hi,Wt hi,wi hi (az hB (by simp[maxLen,mm])),du,go_sem,ax,ba]
   exact congrArg (λz=>some (Ex.norm,MS.mk _ _ z)) g)
 simp -implicitDefEqProofs only [dY,bg,aX,lr,bz,ak,kC]at hl
 simp -implicitDefEqProofs only [hl,go_sem,ax,ba]
theorem Ik(es:List (List D))(hB:es.length<=mm)(ok:eh mm 6 es)(q:Int)(h0:0 < q)(h1:q+bz es<=4611686018427387904) :
  gK T 148 false [.list 2 true es] q=some ([.list 2 true (lr es q)],q+bz es):=by
 rw[lU (f:=148) rfl];have hl:=uj (T:=T) (own:=true) (k:=2) (body:=za) (λi=>⟨⟨[(1,.d (.int .i64 (q+bz (es.take i)))),(5,.d (.int .i64 i))],[],[]⟩,[(0,.lst)],lr (es.take i) q++es.drop i⟩) es.length
  (by simp -implicitDefEqProofs only [za,dz,aD,WJ,aW,cC,go_sem,ax,ba];rfl)
  (by
   intro i hi;have hn:=dF hi;have t1:=iQ es (i+1);have t2:=gm hn;obtain⟨x0,x1,he,_,_⟩:=lR (ok.Ip hn);have t3:Bj es[i]=0+1+1:=by rw[he];simp -implicitDefEqProofs only [Bj,D.mn]<;>omega
   obtain⟨w0,w1,t4⟩:(IntKind.i64.wrap (q+(bz (es.take i):Int)+1)=q+(bz (es.take i):Int)+1)/\(IntKind.i64.wrap (q+(bz (es.take i):Int)+1+1)=q+(bz (es.take i):Int)+1+1)/\(q+(bz (es.take (i+1)):Int)=q+(bz (es.take i):Int)+1+1):=⟨bN (by omega),bN (by omega),by omega⟩
   have g:=um q hn;rw[he]at hn g;simp -implicitDefEqProofs only [OW,D.mk,D.mn,jC]at g
   have i3:(1:Int)<=3:=by omega
   simp -implicitDefEqProofs only [za,w0,w1,t4,uo q (mj hi),uq q hn,ur q hn,sY q hi,sW q hi,sZ q hi,hi,Wt hi,wi hi (az hB (by simp[maxLen,mm])),du,go_sem,bI,ax,ba]
   exact congrArg (λz=>some (Ex.norm,MS.mk _ _ z)) g)
 simp -implicitDefEqProofs only [dY,bg,aX,lr,bz,ak,kC]at hl
 simp -implicitDefEqProofs only [hl,go_sem,ax,ba]
theorem Ka(es:List (List D))(hB:es.length<=mm)(ok:eh mm 8 es)(q:Int)(h0:0 < q)(h1:q+bz es<=4611686018427387904) :
  gK T 150 false [.list 2 true es] q=some ([.list 2 true (lr es q)],q+bz es):=by
 rw[lU (f:=150) rfl];have hl:=uj (T:=T) (own:=true) (k:=2) (body:=zd) (λi=>⟨⟨[(1,.d (.int .i64 (q+bz (es.take i)))),(5,.d (.int .i64 i))],[],[]⟩,[(0,.lst)],lr (es.take i) q++es.drop i⟩) es.length
  (by simp -implicitDefEqProofs only [zd,dz,aD,WJ,aW,cC,go_sem,ax,ba];rfl)
  (by
   intro i hi;have hn:=dF hi;have t1:=iQ es (i+1);have t2:=gm hn;obtain⟨x0,x1,he,b0,b1⟩:=mw (ok.Ip hn);have t3:Bj es[i]=0+1+1:=by rw[he];simp -implicitDefEqProofs only [Bj,D.mn]<;>omega
   have m0:=iJ (q+(bz (es.take i):Int)) (by omega) (by omega);have m1:=iJ (q+(bz (es.take i):Int)+1) (by omega) (by omega);obtain⟨w0,w1,t4⟩:(IntKind.i64.wrap (q+(bz (es.take i):Int)+1)=q+(bz (es.take i):Int)+1)/\(IntKind.i64.wrap (q+(bz (es.take i):Int)+1+1)=q+(bz (es.take i):Int)+1+1)/\(q+(bz (es.take (i+1)):Int)=q+(bz (es.take i):Int)+1+1):=⟨bN (by omega),bN (by omega),by omega⟩
   have g:=um q hn;rw[he]at hn g;simp -implicitDefEqProofs only [OW,D.mk,D.mn,jC]at g
   have i3:(1:Int)<=3:=by omega
   simp -implicitDefEqProofs only [zd,m0,m1,w0,w1,t4,uo q (mj hi),uq q hn,ur q hn,sY q hi,sW q hi,sZ q hi,hi,Wt hi,wi hi (az hB (by simp[maxLen,mm])),du,go_sem,bI,ax,ba]
   exact congrArg (λz=>some (Ex.norm,MS.mk _ _ z)) g)
 simp -implicitDefEqProofs only [dY,bg,aX,lr,bz,ak,kC]at hl
 simp -implicitDefEqProofs only [hl,go_sem,ax,ba]
theorem J_(es:List (List D))(hB:es.length<=mm)(ok:eh mm 9 es)(q:Int)(h0:0 < q)(h1:q+bz es<=4611686018427387904) :
  gK T 151 false [.list 2 false es] q=some ([.list 2 false (lr es q)],q+bz es):=by
 rw[lU (f:=151) rfl];have hl:=uj (T:=T) (own:=true) (k:=2) (body:=ze) (λi=>⟨⟨[(1,.d (.int .i64 (q+bz (es.take i)))),(5,.d (.int .i64 i))],[],[]⟩,[(0,.lst)],lr (es.take i) q++es.drop i⟩) es.length
  (by simp -implicitDefEqProofs only [ze,dz,aD,WJ,aW,cC,go_sem,ax,ba];rfl)
  (by
   intro i hi;have hn:=dF hi;have t1:=iQ es (i+1);have t2:=gm hn;obtain⟨x0,x1,he,b0,⟨b1,c1⟩⟩:=mu (ok.Ip hn);have t3:Bj es[i]=0+1+bz x1:=by rw[he];simp -implicitDefEqProofs only [Bj,D.mn]<;>omega
   have m0:=iJ (q+(bz (es.take i):Int)) (by omega) (by omega);have m1:=Ka x1 b1 c1 (q+(bz (es.take i):Int)+1) (by omega) (by omega);obtain⟨w0,t4⟩:(IntKind.i64.wrap (q+(bz (es.take i):Int)+1)=q+(bz (es.take i):Int)+1)/\(q+(bz (es.take (i+1)):Int)=q+(bz (es.take i):Int)+1+(bz x1:Int)):=⟨bN (by omega),by omega⟩
   have g:=um q hn;rw[he]at hn g;simp -implicitDefEqProofs only [OW,D.mk,D.mn,jC]at g
   have i3:(1:Int)<=3:=by omega
   simp -implicitDefEqProofs only [ze,m0,m1,w0,t4,uo q (mj hi),uq q hn,ur q hn,sY q hi,sW q hi,sZ q hi,hi,Wt hi,wi hi (az hB (by simp[maxLen,mm])),du,go_sem,bI,ax,aZ,ba]
   exact congrArg (λz=>some (Ex.norm,MS.mk _ _ z)) g)
 simp -implicitDefEqProofs only [dY,bg,aX,lr,bz,ak,kC]at hl
 simp -implicitDefEqProofs only [hl,go_sem,ax,ba]
theorem Fz(es:List (List D))(hB:es.length<=mm)(ok:eh mm 11 es)(h:∀x,(∃e∈es,D.list 7 false x∈e)->∀(q:Int),0 < q->q+bz x<=4611686018427387904->gK T 152 false [.list 7 false x] q=some ([.list 7 false (lr x q)],q+bz x))(q:Int)(h0:0 < q)(h1:q+bz es<=4611686018427387904) :
  gK T 152 false [.list 7 false es] q=some ([.list 7 false (lr es q)],q+bz es):=by
 rw[lU (f:=152) rfl];have hl:=uj (T:=T) (own:=true) (k:=7) (body:=zf) (λi=>⟨⟨[(1,.d (.int .i64 (q+bz (es.take i)))),(5,.d (.int .i64 i))],[],[]⟩,[(0,.lst)],lr (es.take i) q++es.drop i⟩) es.length
  (by simp -implicitDefEqProofs only [zf,dz,aD,WJ,aW,cC,go_sem,ax,ba];rfl)
  (by
   intro i hi;have hn:=dF hi;have t1:=iQ es (i+1);have t2:=gm hn;obtain⟨x0,x1,x2,x3,x4,x5,x6,he,_,_,b2,_,_,⟨b5,c5⟩,⟨b6,c6⟩⟩:=km (ok.Ip hn);have t3:Bj es[i]=0+1+1+1+1+1+bz x5+bz x6:=by rw[he];simp -implicitDefEqProofs only [Bj,D.mn]<;>omega
   have m2:=iJ (q+(bz (es.take i):Int)+1+1) (by omega) (by omega);have m5:=J_ x5 b5 c5 (q+(bz (es.take i):Int)+1+1+1+1+1) (by omega) (by omega);have m6:=h x6 ⟨_,vv hn,by rw[he];simp -implicitDefEqProofs only [ay,true_or,or_true]⟩ (q+(bz (es.take i):Int)+1+1+1+1+1+(bz x5:Int)) (by omega) (by omega);obtain⟨w0,w1,w2,m3,w3,w4,t4⟩:(IntKind.i64.wrap (q+(bz (es.take i):Int)+1)=q+(bz (es.take i):Int)+1)/\(IntKind.i64.wrap (q+(bz (es.take i):Int)+1+1)=q+(bz (es.take i):Int)+1+1)/\(IntKind.i64.wrap (q+(bz (es.take i):Int)+1+1+1)=q+(bz (es.take i):Int)+1+1+1)/\((0:Int)<=q+(bz (es.take i):Int)+1+1+1)/\(IntKind.i64.wrap (q+(bz (es.take i):Int)+1+1+1+1)=q+(bz (es.take i):Int)+1+1+1+1)/\(IntKind.i64.wrap (q+(bz (es.take i):Int)+1+1+1+1+1)=q+(bz (es.take i):Int)+1+1+1+1+1)/\(q+(bz (es.take (i+1)):Int)=q+(bz (es.take i):Int)+1+1+1+1+1+(bz x5:Int)+(bz x6:Int)):=⟨bN (by omega),bN (by omega),bN (by omega),by omega,bN (by omega),bN (by omega),by omega⟩
   have g:=um q hn;rw[he]at hn g;simp -implicitDefEqProofs only [OW,D.mk,D.mn,jC]at g
   have i3:(1:Int)<=3:=by omega
   simp -implicitDefEqProofs only [zf,m2,m5,m6,w0,w1,w2,m3,w3,w4,t4,i3,uo q (mj hi),uq q hn,ur q hn,sY q hi,sW q hi,sZ q hi,hi,Wt hi,wi hi (az hB (by simp[maxLen,mm])),du,go_sem,bI,ax,aZ,ba]
   exact congrArg (λz=>some (Ex.norm,MS.mk _ _ z)) g)
 simp -implicitDefEqProofs only [dY,bg,aX,lr,bz,ak,kC]at hl
 simp -implicitDefEqProofs only [hl,go_sem,ax,ba]
theorem Ii(n:Nat):∀(es:List (List D)),ah es < n->es.length<=mm->eh mm 11 es->∀(q:Int),0 < q->q+bz es<=4611686018427387904->gK T 152 false [.list 7 false es] q=some ([.list 7 false (lr es q)],q+bz es):=by
 induction n with
 |zero=>intro es h;omega
 |succ n hi=>
  intro es hn hB ok q h0 h1;refine Fz es hB ok (λx hx=>?_) q h0 h1;obtain⟨e,he,hx⟩:=hx;have hz:=bn (vF hx he) (qK hn);obtain⟨x0,x1,x2,x3,x4,x5,x6,rfl,_,_,b2,_,_,⟨b5,c5⟩,⟨b6,c6⟩⟩:=km (ok.mem e he);simp -implicitDefEqProofs only [ay,gP,reduceCtorEq,false_or,or_false,D.list.injEq,ax,false_and,true_and]at hx
  subst hx;exact hi _ hz b6 c6
theorem Bg(es:List (List D))(hB:es.length<=mm)(ok:eh mm 11 es)(q:Int)(h0:0 < q)(h1:q+bz es<=4611686018427387904):gK T 152 false [.list 7 false es] q=some ([.list 7 false (lr es q)],q+bz es):=Ii (ah es+1) es (by omega) hB ok q h0 h1
theorem Bh(es:List (List D))(hB:es.length<=mm)(ok:eh mm 12 es)(h:∀x,(∃e∈es,D.list 19 false x∈e)->∀(q:Int),0 < q->q+bz x<=4611686018427387904->gK T 153 false [.list 19 false x] q=some ([.list 19 false (lr x q)],q+bz x))(q:Int)(h0:0 < q)(h1:q+bz es<=4611686018427387904) :
  gK T 153 false [.list 19 false es] q=some ([.list 19 false (lr es q)],q+bz es):=by
 rw[lU (f:=153) rfl];have hl:=uj (T:=T) (own:=true) (k:=19) (body:=zg) (λi=>⟨⟨[(1,.d (.int .i64 (q+bz (es.take i)))),(5,.d (.int .i64 i))],[],[]⟩,[(0,.lst)],lr (es.take i) q++es.drop i⟩) es.length
  (by simp -implicitDefEqProofs only [zg,dz,aD,WJ,aW,cC,go_sem,ax,ba];rfl)
  (by
   intro i hi;have hn:=dF hi;have t1:=iQ es (i+1);have t2:=gm hn;obtain⟨x0,x1,x2,x3,x4,x5,x6,x7,x8,x9,x10,x11,x12,x13,x14,x15,x16,x17,x18,he,_,b1,_,⟨b3,c3⟩,⟨b4,c4⟩,b5,b6,⟨b7,c7⟩,⟨b8,c8⟩,b9,_,_,_,_,_,_,⟨Ld,CN⟩,⟨Le,D8⟩,⟨OP,I7⟩⟩:=ig (ok.Ip hn);have t3:Bj es[i]=0+1+1+1+bz x3+bz x4+1+1+bz x7+bz x8+1+1+1+1+1+1+1+bz x16+bz x17+bz x18:=by rw[he];simp -implicitDefEqProofs only [Bj,D.mn]<;>omega
   have m1:=iJ (q+(bz (es.take i):Int)+1) (by omega) (by omega);have m3:=Ik x3 b3 c3 (q+(bz (es.take i):Int)+1+1+1) (by omega) (by omega);have m4:=qu x4 b4 c4 (q+(bz (es.take i):Int)+1+1+1+(bz x3:Int)) (by omega) (by omega);have m5:=iJ (q+(bz (es.take i):Int)+1+1+1+(bz x3:Int)+(bz x4:Int)) (by omega) (by omega);have m6:=iJ (q+(bz (es.take i):Int)+1+1+1+(bz x3:Int)+(bz x4:Int)+1) (by omega) (by omega);have m7:=qu x7 b7 c7 (q+(bz (es.take i):Int)+1+1+1+(bz x3:Int)+(bz x4:Int)+1+1) (by omega) (by omega);have m8:=qu x8 b8 c8 (q+(bz (es.take i):Int)+1+1+1+(bz x3:Int)+(bz x4:Int)+1+1+(bz x7:Int)) (by omega) (by omega);have m9:=iJ (q+(bz (es.take i):Int)+1+1+1+(bz x3:Int)+(bz x4:Int)+1+1+(bz x7:Int)+(bz x8:Int)) (by omega) (by omega);have m16:=Bg x16 Ld CN (q+(bz (es.take i):Int)+1+1+1+(bz x3:Int)+(bz x4:Int)+1+1+(bz x7:Int)+(bz x8:Int)+1+1+1+1+1+1+1) (by omega) (by omega);have m17:=Bg x17 Le D8 (q+(bz (es.take i):Int)+1+1+1+(bz x3:Int)+(bz x4:Int)+1+1+(bz x7:Int)+(bz x8:Int)+1+1+1+1+1+1+1+(bz x16:Int)) (by omega) (by omega);have m18:=h x18 ⟨_,vv hn,by rw[he];simp -implicitDefEqProofs only [ay,true_or,or_true]⟩ (q+(bz (es.take i):Int)+1+1+1+(bz x3:Int)+(bz x4:Int)+1+1+(bz x7:Int)+(bz x8:Int)+1+1+1+1+1+1+1+(bz x16:Int)+(bz x17:Int)) (by omega) (by omega)
   obtain⟨w0,w1,w2,w5,w6,w9,m10,w10,m11,w11,m12,w12,m13,w13,w14,w15,t4⟩:(IntKind.i64.wrap (q+(bz (es.take i):Int)+1)=q+(bz (es.take i):Int)+1)/\(IntKind.i64.wrap (q+(bz (es.take i):Int)+1+1)=q+(bz (es.take i):Int)+1+1)/\(IntKind.i64.wrap (q+(bz (es.take i):Int)+1+1+1)=q+(bz (es.take i):Int)+1+1+1)/\(IntKind.i64.wrap (q+(bz (es.take i):Int)+1+1+1+(bz x3:Int)+(bz x4:Int)+1)=q+(bz (es.take i):Int)+1+1+1+(bz x3:Int)+(bz x4:Int)+1)/\(IntKind.i64.wrap (q+(bz (es.take i):Int)+1+1+1+(bz x3:Int)+(bz x4:Int)+1+1)=q+(bz (es.take i):Int)+1+1+1+(bz x3:Int)+(bz x4:Int)+1+1)/\(IntKind.i64.wrap (q+(bz (es.take i):Int)+1+1+1+(bz x3:Int)+(bz x4:Int)+1+1+(bz x7:Int)+(bz x8:Int)+1)=q+(bz (es.take i):Int)+1+1+1+(bz x3:Int)+(bz x4:Int)+1+1+(bz x7:Int)+(bz x8:Int)+1)/\((0:Int)<=q+(bz (es.take i):Int)+1+1+1+(bz x3:Int)+(bz x4:Int)+1+1+(bz x7:Int)+(bz x8:Int)+1)/\(IntKind.i64.wrap (q+(bz (es.take i):Int)+1+1+1+(bz x3:Int)+(bz x4:Int)+1+1+(bz x7:Int)+(bz x8:Int)+1+1)=q+(bz (es.take i):Int)+1+1+1+(bz x3:Int)+(bz x4:Int)+1+1+(bz x7:Int)+(bz x8:Int)+1+1)/\((0:Int)<=q+(bz (es.take i):Int)+1+1+1+(bz x3:Int)+(bz x4:Int)+1+1+(bz x7:Int)+(bz x8:Int)+1+1)/\(IntKind.i64.wrap (q+(bz (es.take i):Int)+1+1+1+(bz x3:Int)+(bz x4:Int)+1+1+(bz x7:Int)+(bz x8:Int)+1+1+1)=q+(bz (es.take i):Int)+1+1+1+(bz x3:Int)+(bz x4:Int)+1+1+(bz x7:Int)+(bz x8:Int)+1+1+1)/\((0:Int)<=q+(bz (es.take i):Int)+1+1+1+(bz x3:Int)+(bz x4:Int)+1+1+(bz x7:Int)+(bz x8:Int)+1+1+1)/\(IntKind.i64.wrap (q+(bz (es.take i):Int)+1+1+1+(bz x3:Int)+(bz x4:Int)+1+1+(bz x7:Int)+(bz x8:Int)+1+1+1+1)=q+(bz (es.take i):Int)+1+1+1+(bz x3:Int)+(bz x4:Int)+1+1+(bz x7:Int)+(bz x8:Int)+1+1+1+1)/\((0:Int)<=q+(bz (es.take i):Int)+1+1+1+(bz x3:Int)+(bz x4:Int)+1+1+(bz x7:Int)+(bz x8:Int)+1+1+1+1)/\(IntKind.i64.wrap (q+(bz (es.take i):Int)+1+1+1+(bz x3:Int)+(bz x4:Int)+1+1+(bz x7:Int)+(bz x8:Int)+1+1+1+1+1)=q+(bz (es.take i):Int)+1+1+1+(bz x3:Int)+(bz x4:Int)+1+1+(bz x7:Int)+(bz x8:Int)+1+1+1+1+1)/\(IntKind.i64.wrap (q+(bz (es.take i):Int)+1+1+1+(bz x3:Int)+(bz x4:Int)+1+1+(bz x7:Int)+(bz x8:Int)+1+1+1+1+1+1)=q+(bz (es.take i):Int)+1+1+1+(bz x3:Int)+(bz x4:Int)+1+1+(bz x7:Int)+(bz x8:Int)+1+1+1+1+1+1)/\(IntKind.i64.wrap (q+(bz (es.take i):Int)+1+1+1+(bz x3:Int)+(bz x4:Int)+1+1+(bz x7:Int)+(bz x8:Int)+1+1+1+1+1+1+1)=q+(bz (es.take i):Int)+1+1+1+(bz x3:Int)+(bz x4:Int)+1+1+(bz x7:Int)+(bz x8:Int)+1+1+1+1+1+1+1)/\(q+(bz (es.take (i+1)):Int)=q+(bz (es.take i):Int)+1+1+1+(bz x3:Int)+(bz x4:Int)+1+1+(bz x7:Int)+(bz x8:Int)+1+1+1+1+1+1+1+(bz x16:Int)+(bz x17:Int)+(bz x18:Int)):=⟨bN (by omega),bN (by omega),bN (by omega),bN (by omega),bN (by omega),bN (by omega),by omega,bN (by omega),by omega,bN (by omega),by omega,bN (by omega),by omega,bN (by omega),bN (by omega),bN (by omega),by omega⟩
   have g:=um q hn;rw[he]at hn g;simp -implicitDefEqProofs only [OW,D.mk,D.mn,jC]at g
   have i3:(1:Int)<=3:=by omega
   simp -implicitDefEqProofs only [zg,m1,m3,m4,m5,m6,m7,m8,m9,m16,m17,m18,w0,w1,w2,w5,w6,w9,m10,w10,m11,w11,m12,w12,m13,w13,w14,w15,t4,i3,uo q (mj hi),uq q hn,ur q hn,sY q hi,sW q hi,sZ q hi,hi,Wt hi,wi hi (az hB (by simp[maxLen,mm])),du,go_sem,bI,ax,aZ,ba]
   exact congrArg (λz=>some (Ex.norm,MS.mk _ _ z)) g)
 simp -implicitDefEqProofs only [dY,bg,aX,lr,bz,ak,kC]at hl
 simp -implicitDefEqProofs only [hl,go_sem,ax,ba]
theorem Cw(n:Nat):∀(es:List (List D)),ah es < n->es.length<=mm->eh mm 12 es->∀(q:Int),0 < q->q+bz es<=4611686018427387904->gK T 153 false [.list 19 false es] q=some ([.list 19 false (lr es q)],q+bz es):=by
 induction n with
 |zero=>intro es h;omega
 |succ n hi=>
  intro es hn hB ok q h0 h1;refine Bh es hB ok (λx hx=>?_) q h0 h1;obtain⟨e,he,hx⟩:=hx;have hz:=bn (vF hx he) (qK hn);obtain⟨x0,x1,x2,x3,x4,x5,x6,x7,x8,x9,x10,x11,x12,x13,x14,x15,x16,x17,x18,rfl,_,b1,_,⟨b3,c3⟩,⟨b4,c4⟩,b5,b6,⟨b7,c7⟩,⟨b8,c8⟩,b9,_,_,_,_,_,_,⟨Ld,CN⟩,⟨Le,D8⟩,⟨OP,I7⟩⟩:=ig (ok.mem e he);simp -implicitDefEqProofs only [ay,gP,reduceCtorEq,false_or,or_false,D.list.injEq,ax,au,false_and,and_false,true_and]at hx
  subst hx;exact hi _ hz OP I7
theorem FB(es:List (List D))(hB:es.length<=mm)(ok:eh mm 12 es)(q:Int)(h0:0 < q)(h1:q+bz es<=4611686018427387904):gK T 153 false [.list 19 false es] q=some ([.list 19 false (lr es q)],q+bz es):=Cw (ah es+1) es (by omega) hB ok q h0 h1
theorem FA(es:List (List D))(hB:es.length<=mm)(ok:eh mm 2 es)(h:∀x,(∃e∈es,D.list 3 false x∈e)->∀(q:Int),0 < q->q+bz x<=4611686018427387904->gK T 17 false [.list 3 false x] q=some ([.list 3 false (lr x q)],q+bz x))(q:Int)(h0:0 < q)(h1:q+bz es<=4611686018427387904) :
  gK T 17 false [.list 3 false es] q=some ([.list 3 false (lr es q)],q+bz es):=by
 rw[lU (f:=17) rfl];have hl:=uj (T:=T) (own:=true) (k:=3) (body:=Fv) (λi=>⟨⟨[(1,.d (.int .i64 (q+bz (es.take i)))),(5,.d (.int .i64 i))],[],[]⟩,[(0,.lst)],lr (es.take i) q++es.drop i⟩) es.length
  (by simp -implicitDefEqProofs only [Fv,dz,aD,WJ,aW,cC,go_sem,ax,ba];rfl)
  (by
   intro i hi;have hn:=dF hi;have t1:=iQ es (i+1);have t2:=gm hn;obtain⟨x0,x1,x2,he,b0,b1,⟨b2,c2⟩⟩:=jc (ok.Ip hn);have t3:Bj es[i]=0+1+1+bz x2:=by rw[he];simp -implicitDefEqProofs only [Bj,D.mn]<;>omega
   have m0:=iJ (q+(bz (es.take i):Int)) (by omega) (by omega);have m1:=iJ (q+(bz (es.take i):Int)+1) (by omega) (by omega);have m2:=h x2 ⟨_,vv hn,by rw[he];simp -implicitDefEqProofs only [ay,true_or,or_true]⟩ (q+(bz (es.take i):Int)+1+1) (by omega) (by omega);obtain⟨w0,w1,t4⟩:(IntKind.i64.wrap (q+(bz (es.take i):Int)+1)=q+(bz (es.take i):Int)+1)/\(IntKind.i64.wrap (q+(bz (es.take i):Int)+1+1)=q+(bz (es.take i):Int)+1+1)/\(q+(bz (es.take (i+1)):Int)=q+(bz (es.take i):Int)+1+1+(bz x2:Int)):=⟨bN (by omega),bN (by omega),by omega⟩
   have g:=um q hn;rw[he]at hn g;simp -implicitDefEqProofs only [OW,D.mk,D.mn,jC]at g
   have i3:(1:Int)<=3:=by omega
   simp -implicitDefEqProofs only [Fv,m0,m1,m2,w0,w1,t4,uo q (mj hi),uq q hn,ur q hn,sY q hi,sW q hi,sZ q hi,hi,Wt hi,wi hi (az hB (by simp[maxLen,mm])),du,go_sem,bI,ax,aZ,ba]
   exact congrArg (λz=>some (Ex.norm,MS.mk _ _ z)) g)
 simp -implicitDefEqProofs only [dY,bg,aX,lr,bz,ak,kC]at hl
 simp -implicitDefEqProofs only [hl,go_sem,ax,ba]
theorem Ij(n:Nat):∀(es:List (List D)),ah es < n->es.length<=mm->eh mm 2 es->∀(q:Int),0 < q->q+bz es<=4611686018427387904->gK T 17 false [.list 3 false es] q=some ([.list 3 false (lr es q)],q+bz es):=by
 induction n with
 |zero=>intro es h;omega
 |succ n hi=>
  intro es hn hB ok q h0 h1;refine FA es hB ok (λx hx=>?_) q h0 h1;obtain⟨e,he,hx⟩:=hx;have hz:=bn (vF hx he) (qK hn);obtain⟨x0,x1,x2,rfl,b0,b1,⟨b2,c2⟩⟩:=jc (ok.mem e he);simp -implicitDefEqProofs only [ay,gP,reduceCtorEq,false_or,or_false,D.list.injEq,true_and]at hx
  subst hx;exact hi _ hz b2 c2
theorem uk(es:List (List D))(hB:es.length<=mm)(ok:eh mm 2 es)(q:Int)(h0:0 < q)(h1:q+bz es<=4611686018427387904):gK T 17 false [.list 3 false es] q=some ([.list 3 false (lr es q)],q+bz es):=Ij (ah es+1) es (by omega) hB ok q h0 h1
end
section
open Go.RowKit
theorem EA(es:List (List D))(hB:es.length<=mm)(ok:eh mm 2 es)(h:∀x,(∃e∈es,D.list 3 false x∈e)->∀(q:Int),0 < q->q+bz x<=4611686018427387904->dd T 21 [.val false [.d (.list 3 false (lr x q))],.val false [.d (.int .i64 q)]]=some ([.val false [.d (.int .i64 (q+bz x))]],[]))(q:Int)(h0:0 < q)(h1:q+bz es<=4611686018427387904) :
  dd T 21 [.val false [.d (.list 3 false (lr es q))],.val false [.d (.int .i64 q)]]=some ([.val false [.d (.int .i64 (q+bz es))]],[]):=by
 rw[sc (f:=21) rfl rfl];have hl:=WA (T:=T) (mf:=tv) (body:=Fw) (λi=>⟨[(0,.d (.list 3 false (lr es q))),(1,.d (.int .i64 (q+bz (es.take i)))),(5,.d (.int .i64 i))],[],[]⟩) es.length (e:=.exit 0) (by simp)
  (by simp -implicitDefEqProofs only [Fw,dz,WJ,aW,go_sem,ax];rfl)
  (by
   intro i hi;have hn:=dF hi;have t1:=iQ es (i+1);have t2:=gm hn;obtain⟨x0,x1,x2,he,b0,b1,⟨b2,c2⟩⟩:=jc (ok.Ip hn);have t3:Bj es[i]=0+1+1+bz x2:=by rw[he];simp -implicitDefEqProofs only [Bj,D.mn]<;>omega
   have m0:=iJ (q+(bz (es.take i):Int)) (by omega) (by omega);have m1:=iJ (q+(bz (es.take i):Int)+1) (by omega) (by omega);have m2:=h x2 ⟨_,vv hn,by rw[he];simp -implicitDefEqProofs only [ay,true_or,or_true]⟩ (q+(bz (es.take i):Int)+1+1) (by omega) (by omega);obtain⟨w0,w1,d2,t4⟩:(IntKind.i64.wrap (q+(bz (es.take i):Int)+1)=q+(bz (es.take i):Int)+1)/\(IntKind.i64.wrap (q+(bz (es.take i):Int)+1+1)=q+(bz (es.take i):Int)+1+1)/\(¬(q+(bz (es.take i):Int)+1+1+(bz x2:Int) < 0))/\(q+(bz (es.take (i+1)):Int)=q+(bz (es.take i):Int)+1+1+(bz x2:Int)):=⟨bN (by omega),bN (by omega),by omega,by omega⟩
   have g:=My es q i _ hn;rw[he]at g;simp -implicitDefEqProofs only [OW,D.mk,D.mn,jC]at g
   have i3:(1:Int)<=3:=by omega
   simp -implicitDefEqProofs only [Fw,m0,m1,m2,w0,w1,d2,t4,dz,g,Wt hi,wi hi (az hB (by simp[maxLen,mm])),du,go_sem,bI,ax,aZ])
 simp -implicitDefEqProofs only [dY,bg,bz,kC]at hl
 simp -implicitDefEqProofs only [hl,go_sem,ax]
theorem HE(n:Nat):∀(es:List (List D)),ah es < n->es.length<=mm->eh mm 2 es->∀(q:Int),0 < q->q+bz es<=4611686018427387904->dd T 21 [.val false [.d (.list 3 false (lr es q))],.val false [.d (.int .i64 q)]]=some ([.val false [.d (.int .i64 (q+bz es))]],[]):=by
 induction n with
 |zero=>intro es h;omega
 |succ n hi=>
  intro es hn hB ok q h0 h1;refine EA es hB ok (λx hx=>?_) q h0 h1;obtain⟨e,he,hx⟩:=hx;have hz:=bn (vF hx he) (qK hn);obtain⟨x0,x1,x2,rfl,b0,b1,⟨b2,c2⟩⟩:=jc (ok.mem e he);simp -implicitDefEqProofs only [ay,gP,reduceCtorEq,false_or,or_false,D.list.injEq,true_and]at hx
  subst hx;exact hi _ hz b2 c2
theorem JV(es:List (List D))(hB:es.length<=mm)(ok:eh mm 2 es)(q:Int)(h0:0 < q)(h1:q+bz es<=4611686018427387904):dd T 21 [.val false [.d (.list 3 false (lr es q))],.val false [.d (.int .i64 q)]]=some ([.val false [.d (.int .i64 (q+bz es))]],[]):=HE (ah es+1) es (by omega) hB ok q h0 h1
end
section
section
variable {B:Nat}
theorem Ej{es:List (List D)}(ok:eh B 0 es):∃xs:List ByteArray,es=xs.map gC:=oy λe he=>by
 obtain⟨x,h,_⟩:=vk (ok.mem e he);exact⟨x,h⟩
theorem Ng{es:List (List D)}(ok:eh B 6 es):∃xs:List iF,es=xs.map jG:=oy λe he=>by
 obtain⟨x,y,h,_⟩:=lR (ok.mem e he);exact⟨⟨x,y⟩,h⟩
theorem PE{es:List (List D)}(ok:eh B 8 es):∃xs:List kg,es=xs.map nM:=oy λe he=>by
 obtain⟨x,y,h,_⟩:=mw (ok.mem e he);exact⟨⟨x,y⟩,h⟩
theorem PD{es:List (List D)}(ok:eh B 9 es):∃xs:List uO,es=xs.map jY:=oy λe he=>by
 obtain⟨x,y,h,_,_,c⟩:=mu (ok.mem e he);obtain⟨ts,rfl⟩:=PE c;exact⟨⟨x,ts⟩,h⟩
theorem JB(m:Nat):∀es:List (List D),ah es < m->eh B 11 es->∃xs:List cN,es=xs.map bK:=by
 induction m with
 |zero=>intro es h;omega
 |succ m ih=>
  intro es hz ok;refine oy λe he=>?_;obtain⟨x0,x1,x2,x3,x4,x5,x6,h,_,_,_,_,_,⟨_,c5⟩,⟨_,c6⟩⟩:=km (ok.mem e he);obtain⟨ss,rfl⟩:=PD c5;obtain⟨ks,rfl⟩:=ih x6 (by have:=jh (k:=7) (fl:=false) (xs:=x6) he (by rw[h];simp only[ay,true_or,or_true]);omega) c6;exact⟨⟨x0,x1,x2,⟨x3,x4,ss⟩,ks⟩,by rw[h,bc]⟩
theorem G_{es:List (List D)}(ok:eh B 11 es):∃xs:List cN,es=xs.map bK:=JB _ es (aM _) ok
theorem Ei(m:Nat):∀es:List (List D),ah es < m->eh B 12 es->∃xs:List af,es=xs.map aw:=by
 induction m with
 |zero=>intro es h;omega
 |succ m ih=>
  intro es hz ok;refine oy λe he=>?_;obtain⟨x0,x1,x2,x3,x4,x5,x6,x7,x8,x9,x10,x11,x12,x13,x14,x15,x16,x17,x18,h,_,_,_,⟨_,c3⟩,⟨_,c4⟩,_,_,⟨_,c7⟩,⟨_,c8⟩,_,_,_,_,_,_,_,⟨_,CN⟩,⟨_,D8⟩,⟨_,I7⟩⟩:=ig (ok.mem e he);obtain⟨y3,rfl⟩:=Ng c3;obtain⟨y4,rfl⟩:=Ej c4;obtain⟨y7,rfl⟩:=Ej c7;obtain⟨y8,rfl⟩:=Ej c8;obtain⟨y16,rfl⟩:=G_ CN;obtain⟨y17,rfl⟩:=G_ D8;obtain⟨y18,rfl⟩:=ih x18 (by have:=jh (k:=19) (fl:=false) (xs:=x18) he (by rw[h];simp only[ay,true_or,or_true]);omega) I7;exact⟨⟨x0,x1,⟨x2,y3,y4,x5,x6⟩,y7,y8,x9,x10,x11,x12,x13,x14,x15,y16,y17,y18⟩,by rw[h,ae]⟩
theorem JD{es:List (List D)}(ok:eh B 12 es):∃xs:List af,es=xs.map aw:=Ei _ es (aM _) ok
theorem JC(m:Nat):∀es:List (List D),ah es < m->eh B 2 es->∃xs:List aJ,es=xs.map bD:=by
 induction m with
 |zero=>intro es h;omega
 |succ m ih=>
  intro es hz ok;refine oy λe he=>?_;obtain⟨x0,x1,x2,h,_,_,_,c⟩:=jc (ok.mem e he);obtain⟨ks,rfl⟩:=ih x2 (by have:=jh (k:=3) (fl:=false) (xs:=x2) he (by rw[h];simp only[ay,true_or,or_true]);omega) c;exact⟨⟨x0,x1,ks⟩,by rw[h,aP]⟩
theorem Ha{es:List (List D)}(ok:eh B 2 es):∃xs:List aJ,es=xs.map bD:=JC _ es (aM _) ok
end
end
section
theorem F6{es:List (List D)}(hB:es.length<=maxLen)(ok:eh maxLen 0 es):∀l:Int,0<=l->l<=1048576->∃r,G 46 [.list 1 true es,.int .i64 l]=some (0,[.int .i64 r])/\Lz (es.length+n7 es) l r:=by
 intro l h0 h1;have w:IntKind.i64.wrap (l - (es.length:Int))=l - (es.length:Int):=wrap_i64 (by simp only[maxLen]at hB;omega);by_cases c:l - (es.length:Int) < 0
 ·exact⟨-1,cq s46 rfl (by simp only[go_sem,t46,w,c]),.inl rfl⟩
 have hl:es.length<=mg:=by simp only[mg];omega
 have hg:=Al (b:=lB G HU) es (λn i=>(0,[.list 1 true es,.int .i64 n,.int .i64 (i:Int)])) (0,[.int .i64 (-1)]) (λn=>(1,[.list 1 true es,.int .i64 n,.int .i64 es.length,.bool false])) (by
  intro i e n hn h0 h1;have hi:=aR hn;have hw:=wj hi hl;have oe:=ok.mem e (aT hn);obtain⟨x0,rfl,b0⟩:=vk oe;have w:IntKind.i64.wrap (n - (x0.size:Int))=n - (x0.size:Int):=wrap_i64 (by simp only[maxLen]at b0;omega);by_cases c:n - (x0.size:Int) < 0
  ·exact .inl (by simp only[go_sem,bm,HU,hi,hn,w,c])
  ·exact .inr ⟨n - (x0.size:Int),by omega,by simp only[fc,D.sz];omega,by simp only[go_sem,bm,HU,hi,hn,hw,w,c]⟩
  ) (by
  intro n;simp only[go_sem,bm,HU,aq]) es.length 0 (l - (es.length:Int)) (by omega) (by omega) (by omega)
 rw[n0]at hg;rcases hg with g|⟨r,p,q,g⟩
 ·exact⟨-1,cq s46 rfl (by simp only[go_sem,t46,w,c,g]),.inl rfl⟩
 ·rw[aX]at q;exact⟨r,cq s46 rfl (by simp only[go_sem,t46,w,c,g]),.inr ⟨p,by omega⟩⟩
theorem Sn{e:List D}(ok:eO maxLen (lay 2) e)(ih:∀xs,.list 3 false xs∈e->∀l:Int,0<=l->l<=1048576->∃r,G 4 [.list 3 false xs,.int .i64 l]=some (0,[.int .i64 r])/\Lz (xs.length+n7 xs) l r):∀l:Int,0<=l->l<=1048576->∃r,G 3 (e++[.int .i64 l])=some (0,[.int .i64 r])/\Lz (fc e) l r:=by
 intro l h0 h1;obtain⟨x0,x1,x2,rfl,b0,b1,⟨b2,c2⟩⟩:=jc ok;have w0:IntKind.i64.wrap (l - (x0.size:Int))=l - (x0.size:Int):=wrap_i64 (by simp only[maxLen]at b0;omega);by_cases c0:l - (x0.size:Int) < 0
 ·exact⟨-1,cq s3 rfl (by simp only[go_sem,t3,w0,c0]),.inl rfl⟩
 have w1:IntKind.i64.wrap ((l - (x0.size:Int)) - (x1.size:Int))=(l - (x0.size:Int)) - (x1.size:Int):=wrap_i64 (by simp only[maxLen]at b1;omega);by_cases c1:(l - (x0.size:Int)) - (x1.size:Int) < 0
 ·exact⟨-1,cq s3 rfl (by simp only[go_sem,t3,w0,c0,w1,c1]),.inl rfl⟩
 obtain⟨r2,f2,h2⟩:=ih x2 (by simp only[ay,true_or,or_true]) ((l - (x0.size:Int)) - (x1.size:Int)) (by omega) (by omega);rcases h2 with rfl|⟨p2,q2⟩
 ·exact⟨-1,cq s3 rfl (by simp only[go_sem,t3,w0,c0,w1,c1,f2]),.inl rfl⟩
 have c2:¬r2 < 0:=by omega
 exact⟨r2,cq s3 rfl (by simp only[go_sem,t3,w0,c0,w1,c1,f2,c2]),.inr ⟨by omega,by simp only[fc,D.sz];omega⟩⟩
theorem KK{es:List (List D)}(hB:es.length<=maxLen)(ok:eh maxLen 2 es)(he:∀e∈es,∀l:Int,0<=l->l<=1048576->∃r,G 3 (e++[.int .i64 l])=some (0,[.int .i64 r])/\Lz (fc e) l r):∀l:Int,0<=l->l<=1048576->∃r,G 4 [.list 3 false es,.int .i64 l]=some (0,[.int .i64 r])/\Lz (es.length+n7 es) l r:=by
 intro l h0 h1;have w:IntKind.i64.wrap (l - (es.length:Int))=l - (es.length:Int):=wrap_i64 (by simp only[maxLen]at hB;omega);by_cases c:l - (es.length:Int) < 0
 ·exact⟨-1,cq s4 rfl (by simp only[go_sem,t4,w,c]),.inl rfl⟩
 have hl:es.length<=mg:=by simp only[mg];omega
 have hg:=Al (b:=lB G Rl) es (λn i=>(0,[.list 3 false es,.int .i64 n,.int .i64 (i:Int)])) (0,[.int .i64 (-1)]) (λn=>(1,[.list 3 false es,.int .i64 n,.int .i64 es.length,.bool false])) (by
  intro i e n hn h0 h1;have hi:=aR hn;have hw:=wj hi hl;have oe:=ok.mem e (aT hn);obtain⟨r,f,h⟩:=he e (aT hn) n h0 h1;obtain⟨x0,x1,x2,rfl,b0,b1,⟨b2,c2⟩⟩:=jc oe;have hh:aK (.has 3) [.list 0 false [[.str x0,.str x1,.list 3 false x2]]]=some (.bool false):=rfl;simp only[ai,ak]at f;rcases h with rfl|⟨p,q⟩
  ·exact .inl (by simp only[go_sem,bm,Rl,hi,hn,hh,f])
  ·have c:¬r < 0:=by omega
   exact .inr ⟨r,p,q,by simp only[go_sem,bm,Rl,hi,hn,hh,f,hw,c]⟩
  ) (by
  intro n;simp only[go_sem,bm,Rl,aq]) es.length 0 (l - (es.length:Int)) (by omega) (by omega) (by omega)
 rw[n0]at hg;rcases hg with g|⟨r,p,q,g⟩
 ·exact⟨-1,cq s4 rfl (by simp only[go_sem,t4,w,c,g]),.inl rfl⟩
 ·rw[aX]at q;exact⟨r,cq s4 rfl (by simp only[go_sem,t4,w,c,g]),.inr ⟨p,by omega⟩⟩
theorem KJ(m:Nat):∀es:List (List D),ah es < m->es.length<=maxLen->eh maxLen 2 es->∀l:Int,0<=l->l<=1048576->∃r,G 4 [.list 3 false es,.int .i64 l]=some (0,[.int .i64 r])/\Lz (es.length+n7 es) l r:=by
 induction m with
 |zero=>intro es h;omega
 |succ m ih=>
  intro es hz hB ok;refine KK hB ok λe he=>Sn (ok.mem e he) λxs hx=>?_;obtain⟨b,c⟩:=AD (ok.mem e he) hx;exact ih xs (by have:=jh he hx;omega) b c
theorem IQ{es:List (List D)}(hB:es.length<=maxLen)(ok:eh maxLen 2 es):∀l:Int,0<=l->l<=1048576->∃r,G 4 [.list 3 false es,.int .i64 l]=some (0,[.int .i64 r])/\Lz (es.length+n7 es) l r:=KJ _ es (aM _) hB ok
theorem OA{es:List (List D)}(hB:es.length<=maxLen)(ok:eh maxLen 6 es):∀l:Int,0<=l->l<=1048576->∃r,G 45 [.list 2 true es,.int .i64 l]=some (0,[.int .i64 r])/\Lz (es.length+n7 es) l r:=by
 intro l h0 h1;have w:IntKind.i64.wrap (l - (es.length:Int))=l - (es.length:Int):=wrap_i64 (by simp only[maxLen]at hB;omega);by_cases c:l - (es.length:Int) < 0
 ·exact⟨-1,cq s45 rfl (by simp only[go_sem,t45,w,c]),.inl rfl⟩
 have z:n7 es=0:=by
  clear hB w c
  induction es with
  |nil=>rfl
  |cons e es ih=>
   simp only[eh]at ok;obtain⟨o1,o2⟩:=ok;obtain⟨x0,x1,rfl,_,_⟩:=lR o1;simp only[n7,fc,D.sz,ih o2]
 exact⟨l - (es.length:Int),cq s45 rfl (by simp only[go_sem,t45,w,c]),.inr ⟨by omega,by omega⟩⟩
theorem Ss{e:List D}(ok:eO maxLen (lay 7) e):∀l:Int,0<=l->l<=1048576->∃r,G 47 (e++[.int .i64 l])=some (0,[.int .i64 r])/\Lz (fc e) l r:=by
 intro l h0 h1;obtain⟨x0,x1,x2,x3,x4,rfl,_,⟨b1,c1⟩,⟨b2,c2⟩,b3,b4⟩:=Au ok;obtain⟨r1,f1,h1⟩:=OA b1 c1 l (by omega) (by omega);rcases h1 with rfl|⟨p1,q1⟩
 ·exact⟨-1,cq s47 rfl (by simp only[go_sem,t47,f1]),.inl rfl⟩
 have c1:¬r1 < 0:=by omega
 obtain⟨r2,f2,h2⟩:=F6 b2 c2 r1 (by omega) (by omega);rcases h2 with rfl|⟨p2,q2⟩
 ·exact⟨-1,cq s47 rfl (by simp only[go_sem,t47,f1,c1,f2]),.inl rfl⟩
 have c2:¬r2 < 0:=by omega
 have w3:IntKind.i64.wrap (r2 - (x3.size:Int))=r2 - (x3.size:Int):=wrap_i64 (by simp only[maxLen]at b3;omega);by_cases c3:r2 - (x3.size:Int) < 0
 ·exact⟨-1,cq s47 rfl (by simp only[go_sem,t47,f1,c1,f2,c2,w3,c3]),.inl rfl⟩
 have w4:IntKind.i64.wrap ((r2 - (x3.size:Int)) - (x4.size:Int))=(r2 - (x3.size:Int)) - (x4.size:Int):=wrap_i64 (by simp only[maxLen]at b4;omega);by_cases c4:(r2 - (x3.size:Int)) - (x4.size:Int) < 0
 ·exact⟨-1,cq s47 rfl (by simp only[go_sem,t47,f1,c1,f2,c2,w3,c3,w4,c4]),.inl rfl⟩
 exact⟨((r2 - (x3.size:Int)) - (x4.size:Int)),cq s47 rfl (by simp only[go_sem,t47,f1,c1,f2,c2,w3,c3,w4,c4]),.inr ⟨by omega,by simp only[fc,D.sz];omega⟩⟩
theorem Sr{e:List D}(ok:eO maxLen (lay 8) e):∀l:Int,0<=l->l<=1048576->∃r,G 48 (e++[.int .i64 l])=some (0,[.int .i64 r])/\Lz (fc e) l r:=by
 intro l h0 h1;obtain⟨x0,x1,rfl,b0,b1⟩:=mw ok;have w0:IntKind.i64.wrap (l - (x0.size:Int))=l - (x0.size:Int):=wrap_i64 (by simp only[maxLen]at b0;omega);by_cases c0:l - (x0.size:Int) < 0
 ·exact⟨-1,cq s48 rfl (by simp only[go_sem,t48,w0,c0]),.inl rfl⟩
 have w1:IntKind.i64.wrap ((l - (x0.size:Int)) - (x1.size:Int))=(l - (x0.size:Int)) - (x1.size:Int):=wrap_i64 (by simp only[maxLen]at b1;omega);by_cases c1:(l - (x0.size:Int)) - (x1.size:Int) < 0
 ·exact⟨-1,cq s48 rfl (by simp only[go_sem,t48,w0,c0,w1,c1]),.inl rfl⟩
 exact⟨((l - (x0.size:Int)) - (x1.size:Int)),cq s48 rfl (by simp only[go_sem,t48,w0,c0,w1,c1]),.inr ⟨by omega,by simp only[fc,D.sz];omega⟩⟩
theorem KN{es:List (List D)}(hB:es.length<=maxLen)(ok:eh maxLen 8 es)(he:∀e∈es,∀l:Int,0<=l->l<=1048576->∃r,G 48 (e++[.int .i64 l])=some (0,[.int .i64 r])/\Lz (fc e) l r):∀l:Int,0<=l->l<=1048576->∃r,G 49 [.list 2 true es,.int .i64 l]=some (0,[.int .i64 r])/\Lz (es.length+n7 es) l r:=by
 intro l h0 h1;have w:IntKind.i64.wrap (l - (es.length:Int))=l - (es.length:Int):=wrap_i64 (by simp only[maxLen]at hB;omega);by_cases c:l - (es.length:Int) < 0
 ·exact⟨-1,cq s49 rfl (by simp only[go_sem,t49,w,c]),.inl rfl⟩
 have hl:es.length<=mg:=by simp only[mg];omega
 have hg:=Al (b:=lB G HV) es (λn i=>(0,[.list 2 true es,.int .i64 n,.int .i64 (i:Int)])) (0,[.int .i64 (-1)]) (λn=>(1,[.list 2 true es,.int .i64 n,.int .i64 es.length,.bool false])) (by
  intro i e n hn h0 h1;have hi:=aR hn;have hw:=wj hi hl;have oe:=ok.mem e (aT hn);obtain⟨r,f,h⟩:=he e (aT hn) n h0 h1;obtain⟨x0,x1,rfl,b0,b1⟩:=mw oe;have hh:aK (.has 2) [.list 0 false [[.str x0,.str x1]]]=some (.bool false):=rfl;simp only[ai,ak]at f;rcases h with rfl|⟨p,q⟩
  ·exact .inl (by simp only[go_sem,bm,HV,hi,hn,hh,f])
  ·have c:¬r < 0:=by omega
   exact .inr ⟨r,p,q,by simp only[go_sem,bm,HV,hi,hn,hh,f,hw,c]⟩
  ) (by
  intro n;simp only[go_sem,bm,HV,aq]) es.length 0 (l - (es.length:Int)) (by omega) (by omega) (by omega)
 rw[n0]at hg;rcases hg with g|⟨r,p,q,g⟩
 ·exact⟨-1,cq s49 rfl (by simp only[go_sem,t49,w,c,g]),.inl rfl⟩
 ·rw[aX]at q;exact⟨r,cq s49 rfl (by simp only[go_sem,t49,w,c,g]),.inr ⟨p,by omega⟩⟩
theorem Sv{es:List (List D)}(hB:es.length<=maxLen)(ok:eh maxLen 8 es):∀l:Int,0<=l->l<=1048576->∃r,G 49 [.list 2 true es,.int .i64 l]=some (0,[.int .i64 r])/\Lz (es.length+n7 es) l r:=KN hB ok λe he=>Sr (ok.mem e he)
theorem Sp{e:List D}(ok:eO maxLen (lay 9) e):∀l:Int,0<=l->l<=1048576->∃r,G 50 (e++[.int .i64 l])=some (0,[.int .i64 r])/\Lz (fc e) l r:=by
 intro l h0 h1;obtain⟨x0,x1,rfl,b0,⟨b1,c1⟩⟩:=mu ok;have w0:IntKind.i64.wrap (l - (x0.size:Int))=l - (x0.size:Int):=wrap_i64 (by simp only[maxLen]at b0;omega);by_cases c0:l - (x0.size:Int) < 0
 ·exact⟨-1,cq s50 rfl (by simp only[go_sem,t50,w0,c0]),.inl rfl⟩
 obtain⟨r1,f1,h1⟩:=Sv b1 c1 (l - (x0.size:Int)) (by omega) (by omega);rcases h1 with rfl|⟨p1,q1⟩
 ·exact⟨-1,cq s50 rfl (by simp only[go_sem,t50,w0,c0,f1]),.inl rfl⟩
 have c1:¬r1 < 0:=by omega
 exact⟨r1,cq s50 rfl (by simp only[go_sem,t50,w0,c0,f1,c1]),.inr ⟨by omega,by simp only[fc,D.sz];omega⟩⟩
theorem KM{es:List (List D)}(hB:es.length<=maxLen)(ok:eh maxLen 9 es)(he:∀e∈es,∀l:Int,0<=l->l<=1048576->∃r,G 50 (e++[.int .i64 l])=some (0,[.int .i64 r])/\Lz (fc e) l r):∀l:Int,0<=l->l<=1048576->∃r,G 51 [.list 2 false es,.int .i64 l]=some (0,[.int .i64 r])/\Lz (es.length+n7 es) l r:=by
 intro l h0 h1;have w:IntKind.i64.wrap (l - (es.length:Int))=l - (es.length:Int):=wrap_i64 (by simp only[maxLen]at hB;omega);by_cases c:l - (es.length:Int) < 0
 ·exact⟨-1,cq s51 rfl (by simp only[go_sem,t51,w,c]),.inl rfl⟩
 have hl:es.length<=mg:=by simp only[mg];omega
 have hg:=Al (b:=lB G HW) es (λn i=>(0,[.list 2 false es,.int .i64 n,.int .i64 (i:Int)])) (0,[.int .i64 (-1)]) (λn=>(1,[.list 2 false es,.int .i64 n,.int .i64 es.length,.bool false])) (by
  intro i e n hn h0 h1;have hi:=aR hn;have hw:=wj hi hl;have oe:=ok.mem e (aT hn);obtain⟨r,f,h⟩:=he e (aT hn) n h0 h1;obtain⟨x0,x1,rfl,b0,⟨b1,c1⟩⟩:=mu oe;have hh:aK (.has 2) [.list 0 false [[.str x0,.list 2 true x1]]]=some (.bool false):=rfl;simp only[ai,ak]at f;rcases h with rfl|⟨p,q⟩
  ·exact .inl (by simp only[go_sem,bm,HW,hi,hn,hh,f])
  ·have c:¬r < 0:=by omega
   exact .inr ⟨r,p,q,by simp only[go_sem,bm,HW,hi,hn,hh,f,hw,c]⟩
  ) (by
  intro n;simp only[go_sem,bm,HW,aq]) es.length 0 (l - (es.length:Int)) (by omega) (by omega) (by omega)
 rw[n0]at hg;rcases hg with g|⟨r,p,q,g⟩
 ·exact⟨-1,cq s51 rfl (by simp only[go_sem,t51,w,c,g]),.inl rfl⟩
 ·rw[aX]at q;exact⟨r,cq s51 rfl (by simp only[go_sem,t51,w,c,g]),.inr ⟨p,by omega⟩⟩
theorem Su{es:List (List D)}(hB:es.length<=maxLen)(ok:eh maxLen 9 es):∀l:Int,0<=l->l<=1048576->∃r,G 51 [.list 2 false es,.int .i64 l]=some (0,[.int .i64 r])/\Lz (es.length+n7 es) l r:=KM hB ok λe he=>Sp (ok.mem e he)
theorem So{e:List D}(ok:eO maxLen (lay 10) e):∀l:Int,0<=l->l<=1048576->∃r,G 52 (e++[.int .i64 l])=some (0,[.int .i64 r])/\Lz (fc e) l r:=by
 intro l h0 h1;obtain⟨x0,x1,x2,rfl,_,_,⟨b2,c2⟩⟩:=At ok;obtain⟨r2,f2,h2⟩:=Su b2 c2 l (by omega) (by omega);rcases h2 with rfl|⟨p2,q2⟩
 ·exact⟨-1,cq s52 rfl (by simp only[go_sem,t52,f2]),.inl rfl⟩
 have c2:¬r2 < 0:=by omega
 exact⟨r2,cq s52 rfl (by simp only[go_sem,t52,f2,c2]),.inr ⟨by omega,by simp only[fc,D.sz];omega⟩⟩
theorem Sm{e:List D}(ok:eO maxLen (lay 11) e)(ih:∀xs,.list 7 false xs∈e->∀l:Int,0<=l->l<=1048576->∃r,G 54 [.list 7 false xs,.int .i64 l]=some (0,[.int .i64 r])/\Lz (xs.length+n7 xs) l r):∀l:Int,0<=l->l<=1048576->∃r,G 53 (e++[.int .i64 l])=some (0,[.int .i64 r])/\Lz (fc e) l r:=by
 intro l h0 h1;obtain⟨x0,x1,x2,x3,x4,x5,x6,rfl,_,_,b2,_,_,⟨b5,c5⟩,⟨b6,c6⟩⟩:=km ok;have w2:IntKind.i64.wrap (l - (x2.size:Int))=l - (x2.size:Int):=wrap_i64 (by simp only[maxLen]at b2;omega);by_cases c2:l - (x2.size:Int) < 0
 ·exact⟨-1,cq s53 rfl (by simp only[go_sem,t53,w2,c2]),.inl rfl⟩
 obtain⟨r3,f3,h3⟩:=So (eO.sub 3 3 ok) (l - (x2.size:Int)) (by omega) (by omega);simp only[gu,aX,cD,bg,ai,ak]at f3 h3;rcases h3 with rfl|⟨p3,q3⟩
 ·exact⟨-1,cq s53 rfl (by simp only[go_sem,t53,w2,c2,f3]),.inl rfl⟩
 have c3:¬r3 < 0:=by omega
 simp only[fc,D.sz]at q3;obtain⟨r6,f6,h6⟩:=ih x6 (by simp only[ay,true_or,or_true]) r3 (by omega) (by omega);rcases h6 with rfl|⟨p6,q6⟩
 ·exact⟨-1,cq s53 rfl (by simp only[go_sem,t53,w2,c2,f3,c3,f6]),.inl rfl⟩
 have c6:¬r6 < 0:=by omega
 exact⟨r6,cq s53 rfl (by simp only[go_sem,t53,w2,c2,f3,c3,f6,c6]),.inr ⟨by omega,by simp only[fc,D.sz];omega⟩⟩
theorem KH{es:List (List D)}(hB:es.length<=maxLen)(ok:eh maxLen 11 es)(he:∀e∈es,∀l:Int,0<=l->l<=1048576->∃r,G 53 (e++[.int .i64 l])=some (0,[.int .i64 r])/\Lz (fc e) l r):∀l:Int,0<=l->l<=1048576->∃r,G 54 [.list 7 false es,.int .i64 l]=some (0,[.int .i64 r])/\Lz (es.length+n7 es) l r:=by
 intro l h0 h1;have w:IntKind.i64.wrap (l - (es.length:Int))=l - (es.length:Int):=wrap_i64 (by simp only[maxLen]at hB;omega);by_cases c:l - (es.length:Int) < 0
 ·exact⟨-1,cq s54 rfl (by simp only[go_sem,t54,w,c]),.inl rfl⟩
 have hl:es.length<=mg:=by simp only[mg];omega
 have hg:=Al (b:=lB G HX) es (λn i=>(0,[.list 7 false es,.int .i64 n,.int .i64 (i:Int)])) (0,[.int .i64 (-1)]) (λn=>(1,[.list 7 false es,.int .i64 n,.int .i64 es.length,.bool false])) (by
  intro i e n hn h0 h1;have hi:=aR hn;have hw:=wj hi hl;have oe:=ok.mem e (aT hn);obtain⟨r,f,h⟩:=he e (aT hn) n h0 h1;obtain⟨x0,x1,x2,x3,x4,x5,x6,rfl,_,_,b2,_,_,⟨b5,c5⟩,⟨b6,c6⟩⟩:=km oe;have hh:aK (.has 7) [.list 0 false [[.int .i64 x0,.int .i64 x1,.str x2,.bool x3,.int .i64 x4,.list 2 false x5,.list 7 false x6]]]=some (.bool false):=rfl;simp only[ai,ak]at f;rcases h with rfl|⟨p,q⟩
  ·exact .inl (by simp only[go_sem,bm,HX,hi,hn,hh,f])
  ·have c:¬r < 0:=by omega
   exact .inr ⟨r,p,q,by simp only[go_sem,bm,HX,hi,hn,hh,f,hw,c]⟩
  ) (by
  intro n;simp only[go_sem,bm,HX,aq]) es.length 0 (l - (es.length:Int)) (by omega) (by omega) (by omega)
 rw[n0]at hg;rcases hg with g|⟨r,p,q,g⟩
 ·exact⟨-1,cq s54 rfl (by simp only[go_sem,t54,w,c,g]),.inl rfl⟩
 ·rw[aX]at q;exact⟨r,cq s54 rfl (by simp only[go_sem,t54,w,c,g]),.inr ⟨p,by omega⟩⟩
theorem KG(m:Nat):∀es:List (List D),ah es < m->es.length<=maxLen->eh maxLen 11 es->∀l:Int,0<=l->l<=1048576->∃r,G 54 [.list 7 false es,.int .i64 l]=some (0,[.int .i64 r])/\Lz (es.length+n7 es) l r:=by
 induction m with
 |zero=>intro es h;omega
 |succ m ih=>
  intro es hz hB ok;refine KH hB ok λe he=>Sm (ok.mem e he) λxs hx=>?_;obtain⟨b,c⟩:=AB (ok.mem e he) hx;exact ih xs (by have:=jh he hx;omega) b c
theorem IP{es:List (List D)}(hB:es.length<=maxLen)(ok:eh maxLen 11 es):∀l:Int,0<=l->l<=1048576->∃r,G 54 [.list 7 false es,.int .i64 l]=some (0,[.int .i64 r])/\Lz (es.length+n7 es) l r:=KG _ es (aM _) hB ok
theorem KE{e:List D}(ok:eO maxLen (lay 12) e)(ih:∀xs,.list 19 false xs∈e->∀l:Int,0<=l->l<=1048576->∃r,G 56 [.list 19 false xs,.int .i64 l]=some (0,[.int .i64 r])/\Lz (xs.length+n7 xs) l r):∀l:Int,0<=l->l<=1048576->∃r,G 55 (e++[.int .i64 l])=some (0,[.int .i64 r])/\Lz (fc e) l r:=by
 intro l h0 h1;obtain⟨x0,x1,x2,x3,x4,x5,x6,x7,x8,x9,x10,x11,x12,x13,x14,x15,x16,x17,x18,rfl,_,b1,_,⟨b3,c3⟩,⟨b4,c4⟩,b5,b6,⟨b7,c7⟩,⟨b8,c8⟩,b9,_,_,_,_,_,_,⟨Ld,CN⟩,⟨Le,D8⟩,⟨OP,I7⟩⟩:=ig ok;have w1:IntKind.i64.wrap (l - (x1.size:Int))=l - (x1.size:Int):=wrap_i64 (by simp only[maxLen]at b1;omega);by_cases c1:l - (x1.size:Int) < 0
 ·exact⟨-1,cq Tu rfl (by simp only[go_sem,t55,w1,c1]),.inl rfl⟩
 obtain⟨r2,f2,h2⟩:=Ss (eO.sub 2 5 ok) (l - (x1.size:Int)) (by omega) (by omega);simp only[gu,aX,cD,bg,ai,ak]at f2 h2;rcases h2 with rfl|⟨p2,q2⟩
 ·exact⟨-1,cq Tu rfl (by simp only[go_sem,t55,w1,c1,f2]),.inl rfl⟩
 have c2:¬r2 < 0:=by omega
 simp only[fc,D.sz]at q2;obtain⟨r7,f7,h7⟩:=F6 b7 c7 r2 (by omega) (by omega);rcases h7 with rfl|⟨p7,q7⟩
 ·exact⟨-1,cq Tu rfl (by simp only[go_sem,t55,w1,c1,f2,c2,f7]),.inl rfl⟩
 have c7:¬r7 < 0:=by omega
 obtain⟨r8,f8,h8⟩:=F6 b8 c8 r7 (by omega) (by omega);rcases h8 with rfl|⟨p8,q8⟩
 ·exact⟨-1,cq Tu rfl (by simp only[go_sem,t55,w1,c1,f2,c2,f7,c7,f8]),.inl rfl⟩
 have c8:¬r8 < 0:=by omega
 have w9:IntKind.i64.wrap (r8 - (x9.size:Int))=r8 - (x9.size:Int):=wrap_i64 (by simp only[maxLen]at b9;omega);by_cases c9:r8 - (x9.size:Int) < 0
 ·exact⟨-1,cq Tu rfl (by simp only[go_sem,t55,w1,c1,f2,c2,f7,c7,f8,c8,w9,c9]),.inl rfl⟩
 obtain⟨r16,f16,h16⟩:=IP Ld CN (r8 - (x9.size:Int)) (by omega) (by omega);rcases h16 with rfl|⟨p16,q16⟩
 ·exact⟨-1,cq Tu rfl (by simp only[go_sem,t55,w1,c1,f2,c2,f7,c7,f8,c8,w9,c9,f16]),.inl rfl⟩
 have CN:¬r16 < 0:=by omega
 obtain⟨r17,f17,h17⟩:=IP Le D8 r16 (by omega) (by omega);rcases h17 with rfl|⟨p17,q17⟩
 ·exact⟨-1,cq Tu rfl (by simp only[go_sem,t55,w1,c1,f2,c2,f7,c7,f8,c8,w9,c9,f16,CN,f17]),.inl rfl⟩
 have D8:¬r17 < 0:=by omega
 obtain⟨r18,f18,h18⟩:=ih x18 (by simp only[ay,true_or,or_true]) r17 (by omega) (by omega);rcases h18 with rfl|⟨p18,q18⟩
 ·exact⟨-1,cq Tu rfl (by simp only[go_sem,t55,w1,c1,f2,c2,f7,c7,f8,c8,w9,c9,f16,CN,f17,D8,f18]),.inl rfl⟩
 have I7:¬r18 < 0:=by omega
 exact⟨r18,cq Tu rfl (by simp only[go_sem,t55,w1,c1,f2,c2,f7,c7,f8,c8,w9,c9,f16,CN,f17,D8,f18,I7]),.inr ⟨by omega,by simp only[fc,D.sz];omega⟩⟩
theorem F5{es:List (List D)}(hB:es.length<=maxLen)(ok:eh maxLen 12 es)(he:∀e∈es,∀l:Int,0<=l->l<=1048576->∃r,G 55 (e++[.int .i64 l])=some (0,[.int .i64 r])/\Lz (fc e) l r):∀l:Int,0<=l->l<=1048576->∃r,G 56 [.list 19 false es,.int .i64 l]=some (0,[.int .i64 r])/\Lz (es.length+n7 es) l r:=by
 intro l h0 h1;have w:IntKind.i64.wrap (l - (es.length:Int))=l - (es.length:Int):=wrap_i64 (by simp only[maxLen]at hB;omega);by_cases c:l - (es.length:Int) < 0
 ·exact⟨-1,cq s56 rfl (by simp only[go_sem,t56,w,c]),.inl rfl⟩
 have hl:es.length<=mg:=by simp only[mg];omega
 have hg:=Al (b:=lB G HY) es (λn i=>(0,[.list 19 false es,.int .i64 n,.int .i64 (i:Int)])) (0,[.int .i64 (-1)]) (λn=>(1,[.list 19 false es,.int .i64 n,.int .i64 es.length,.bool false])) (by
  intro i e n hn h0 h1;have hi:=aR hn;have hw:=wj hi hl;have oe:=ok.mem e (aT hn);obtain⟨r,f,h⟩:=he e (aT hn) n h0 h1;obtain⟨x0,x1,x2,x3,x4,x5,x6,x7,x8,x9,x10,x11,x12,x13,x14,x15,x16,x17,x18,rfl,_,b1,_,⟨b3,c3⟩,⟨b4,c4⟩,b5,b6,⟨b7,c7⟩,⟨b8,c8⟩,b9,_,_,_,_,_,_,⟨Ld,CN⟩,⟨Le,D8⟩,⟨OP,I7⟩⟩:=ig oe;have hh:aK (.has 19) [.list 0 false [[.int .i64 x0,.str x1,.int .i64 x2,.list 2 true x3,.list 1 true x4,.str x5,.str x6,.list 1 true x7,.list 1 true x8,.str x9,.bool x10,.bool x11,.bool x12,.bool x13,.int .i64 x14,.int .i64 x15,.list 7 false x16,.list 7 false x17,.list 19 false x18]]]=some (.bool false):=rfl;simp only[ai,ak]at f;rcases h with rfl|⟨p,q⟩
  ·exact .inl (by simp only[go_sem,bm,HY,hi,hn,hh,f])
  ·have c:¬r < 0:=by omega
   exact .inr ⟨r,p,q,by simp only[go_sem,bm,HY,hi,hn,hh,f,hw,c]⟩
  ) (by
  intro n;simp only[go_sem,bm,HY,aq]) es.length 0 (l - (es.length:Int)) (by omega) (by omega) (by omega)
 rw[n0]at hg;rcases hg with g|⟨r,p,q,g⟩
 ·exact⟨-1,cq s56 rfl (by simp only[go_sem,t56,w,c,g]),.inl rfl⟩
 ·rw[aX]at q;exact⟨r,cq s56 rfl (by simp only[go_sem,t56,w,c,g]),.inr ⟨p,by omega⟩⟩
theorem F4(m:Nat):∀es:List (List D),ah es < m->es.length<=maxLen->eh maxLen 12 es->∀l:Int,0<=l->l<=1048576->∃r,G 56 [.list 19 false es,.int .i64 l]=some (0,[.int .i64 r])/\Lz (es.length+n7 es) l r:=by
 induction m with
 |zero=>intro es h;omega
 |succ m ih=>
  intro es hz hB ok;refine F5 hB ok λe he=>KE (ok.mem e he) λxs hx=>?_;obtain⟨b,c⟩:=uc (ok.mem e he) hx;exact ih xs (by have:=jh he hx;omega) b c
theorem KL{es:List (List D)}(hB:es.length<=maxLen)(ok:eh maxLen 12 es):∀l:Int,0<=l->l<=1048576->∃r,G 56 [.list 19 false es,.int .i64 l]=some (0,[.int .i64 r])/\Lz (es.length+n7 es) l r:=F4 _ es (aM _) hB ok
end
section
theorem Gd{es:List (List D)}(hl:es.length<=mg)(ok:eh mg 0 es):G 61 [.list 1 true es]=some (0,[.list 1 true es]):=by
 have h:=Am (b:=lB G L9) es (([zS []]:List SK).map SK.d) (λi acc=>(0,[.list 1 true es,.int .i64 (i:Int),.list 1 true acc])) (λacc=>(0,[.list 1 true es,.int .i64 es.length,.bool false,.list 1 true acc])) (by
  intro i e acc hn hz;have hi:=aR hn;have hw:=wj hi hl;have oe:=ok.mem e (aT hn);obtain⟨x0,rfl,b0⟩:=vk oe;have hc:=lV 1 true acc i (aR hz);have hs:=uA (fl:=true) (k:=1) (ds:=[.str x0]) hz rfl rfl (λ_=>rfl);have hh:aK (.has 1) [.list 0 false [[.str x0]]]=some (.bool false):=rfl;have hp:aK .pl [.str x0]=some (.bool false):=rfl;simp only[go_sem,bm,L9,hi,hn,hw,hc,hs]) (by
  intro acc;simp only[go_sem,bm,L9,aq])
 have hm:=λby_ hb=>qB (k:=1) (fl:=true) (by_:=by_) (zs:=[zS []]) hl hb;have hm:=hm 16 (by omega);rw[n0]at h;simp only[go_sem]at h;exact cq s61 rfl (by simp only[go_sem,t61,hm,h])
theorem Eo{es:List (List D)}(hl:es.length<=mg)(ok:eh mg 0 es):G 110 [.list 1 true es,.list 1 true es]=some (0,[.bool true]):=by
 have h:=iG (b:=lB G EJ) es (λi=>(0,[.list 1 true es,.list 1 true es,.int .i64 (i:Int)])) (λ_=>true) (1,[.list 1 true es,.list 1 true es,.int .i64 es.length,.bool false]) (0,[.bool false]) (by
  intro i e hn;have hi:=aR hn;have hw:=wj hi hl;have oe:=ok.mem e (aT hn);obtain⟨x0,rfl,b0⟩:=vk oe;have hh:aK (.has 1) [.list 0 false [[.str x0]]]=some (.bool false):=rfl;simp only[go_sem,bm,EJ,hi,hn,hw]) (by simp only[go_sem,bm,EJ,aq])
 rw[n0]at h;have ha:(es.all λ_=>true)=true:=by simp
 rw[ha]at h;simp only[go_sem]at h;exact cq adu rfl (by simp only[go_sem,t110,h])
theorem SF{e:List D}(ok:eO mg (lay 2) e)(ih:∀xs,.list 3 false xs∈e->G 6 [.list 3 false xs]=some (0,[.list 3 false xs])):G 5 e=some (0,e):=by
 obtain⟨x0,x1,x2,rfl,b0,b1,⟨b2,c2⟩⟩:=jc ok;have f2:=ih x2 (by simp only[ay,true_or,or_true]);exact cq s5 rfl (by simp only[go_sem,t5,f2])
theorem KZ{es:List (List D)}(hl:es.length<=mg)(ok:eh mg 2 es)(he:∀e∈es,G 5 e=some (0,e)):G 6 [.list 3 false es]=some (0,[.list 3 false es]):=by
 have h:=Am (b:=lB G UN) es (([zS [],zS [],zL 3 false]:List SK).map SK.d) (λi acc=>(0,[.list 3 false es,.int .i64 (i:Int),.list 3 false acc])) (λacc=>(0,[.list 3 false es,.int .i64 es.length,.bool false,.list 3 false acc])) (by
  intro i e acc hn hz;have hi:=aR hn;have hw:=wj hi hl;have oe:=ok.mem e (aT hn);have f:=he e (aT hn);obtain⟨x0,x1,x2,rfl,b0,b1,⟨b2,c2⟩⟩:=jc oe;have hc:=lV 3 false acc i (aR hz);have hs:=uA (fl:=false) (k:=3) (ds:=[.str x0,.str x1,.list 3 false x2]) hz rfl rfl (λh=>by cases h);have hh:aK (.has 3) [.list 0 false [[.str x0,.str x1,.list 3 false x2]]]=some (.bool false):=rfl;have hp:aK .pl [.str x0,.str x1]=some (.bool false):=rfl;simp only[go_sem,bm,UN,hi,hn,hh,f,hw,hc,hs,hp]) (by
  intro acc;simp only[go_sem,bm,UN,aq])
 have hm:=λby_ hb=>qB (k:=3) (fl:=false) (by_:=by_) (zs:=[zS [],zS [],zL 3 false]) hl hb;have hm:=hm 56 (by omega);rw[n0]at h;simp only[go_sem]at h;exact cq s6 rfl (by simp only[go_sem,t6,hm,h])
theorem KY(m:Nat):∀es:List (List D),ah es < m->es.length<=mg->eh mg 2 es->G 6 [.list 3 false es]=some (0,[.list 3 false es]):=by
 induction m with
 |zero=>intro es h;omega
 |succ m ih=>
  intro es hz hB ok;refine KZ hB ok λe he=>SF (ok.mem e he) λxs hx=>?_;obtain⟨b,c⟩:=AD (ok.mem e he) hx;exact ih xs (by have:=jh he hx;omega) b c
theorem IV{es:List (List D)}(hB:es.length<=mg)(ok:eh mg 2 es):G 6 [.list 3 false es]=some (0,[.list 3 false es]):=KY _ es (aM _) hB ok
theorem P3{e:List D}(ok:eO mg (lay 2) e)(ih:∀xs,.list 3 false xs∈e->G 10 [.list 3 false xs,.list 3 false xs]=some (0,[.bool true])):G 9 (e++e)=some (0,[.bool true]):=by
 obtain⟨x0,x1,x2,rfl,b0,b1,⟨b2,c2⟩⟩:=jc ok;have f2:=ih x2 (by simp only[ay,true_or,or_true]);exact cq s9 rfl (by simp only[go_sem,t9,f2])
theorem JI{es:List (List D)}(hl:es.length<=mg)(ok:eh mg 2 es)(he:∀e∈es,G 9 (e++e)=some (0,[.bool true])):G 10 [.list 3 false es,.list 3 false es]=some (0,[.bool true]):=by
 have h:=iG (b:=lB G L1) es (λi=>(0,[.list 3 false es,.list 3 false es,.int .i64 (i:Int)])) (λ_=>true) (1,[.list 3 false es,.list 3 false es,.int .i64 es.length,.bool false]) (0,[.bool false]) (by
  intro i e hn;have hi:=aR hn;have hw:=wj hi hl;have oe:=ok.mem e (aT hn);have f:=he e (aT hn);obtain⟨x0,x1,x2,rfl,b0,b1,⟨b2,c2⟩⟩:=jc oe;have hh:aK (.has 3) [.list 0 false [[.str x0,.str x1,.list 3 false x2]]]=some (.bool false):=rfl;simp only[ai,ak]at f;simp only[go_sem,bm,L1,hi,hn,hh,f,hw]) (by simp only[go_sem,bm,L1,aq])
 rw[n0]at h;have ha:(es.all λ_=>true)=true:=by simp
 rw[ha]at h;simp only[go_sem]at h;exact cq s10 rfl (by simp only[go_sem,t10,h])
theorem JH(m:Nat):∀es:List (List D),ah es < m->es.length<=mg->eh mg 2 es->G 10 [.list 3 false es,.list 3 false es]=some (0,[.bool true]):=by
 induction m with
 |zero=>intro es h;omega
 |succ m ih=>
  intro es hz hB ok;refine JI hB ok λe he=>P3 (ok.mem e he) λxs hx=>?_;obtain⟨b,c⟩:=AD (ok.mem e he) hx;exact ih xs (by have:=jh he hx;omega) b c
theorem zZ{es:List (List D)}(hB:es.length<=mg)(ok:eh mg 2 es):G 10 [.list 3 false es,.list 3 false es]=some (0,[.bool true]):=JH _ es (aM _) hB ok
theorem OG{e:List D}(ok:eO mg (lay 6) e):G 59 e=some (0,e):=by
 obtain⟨x0,x1,rfl,_,_⟩:=lR ok;exact cq s59 rfl (by simp only[go_sem,t59,])
theorem IW{es:List (List D)}(hl:es.length<=mg)(ok:eh mg 6 es)(he:∀e∈es,G 59 e=some (0,e)):G 60 [.list 2 true es]=some (0,[.list 2 true es]):=by
 have h:=Am (b:=lB G L8) es (([zI 0,zI 0]:List SK).map SK.d) (λi acc=>(0,[.list 2 true es,.int .i64 (i:Int),.list 2 true acc])) (λacc=>(0,[.list 2 true es,.int .i64 es.length,.bool false,.list 2 true acc])) (by
  intro i e acc hn hz;have hi:=aR hn;have hw:=wj hi hl;have oe:=ok.mem e (aT hn);have f:=he e (aT hn);obtain⟨x0,x1,rfl,_,_⟩:=lR oe;have hc:=lV 2 true acc i (aR hz);have hs:=uA (fl:=true) (k:=2) (ds:=[.int .i64 x0,.int .i64 x1]) hz rfl rfl (λ_=>rfl);have hh:aK (.has 2) [.list 0 false [[.int .i64 x0,.int .i64 x1]]]=some (.bool false):=rfl;have hp:aK .pl [.int .i64 x0,.int .i64 x1]=some (.bool false):=rfl;simp only[go_sem,bm,L8,hi,hn,hh,f,hw,hc,hs]) (by
  intro acc;simp only[go_sem,bm,L8,aq])
 have hm:=λby_ hb=>qB (k:=2) (fl:=true) (by_:=by_) (zs:=[zI 0,zI 0]) hl hb;have hm:=hm 16 (by omega);rw[n0]at h;simp only[go_sem]at h;exact cq s60 rfl (by simp only[go_sem,t60,hm,h])
theorem OH{es:List (List D)}(hB:es.length<=mg)(ok:eh mg 6 es):G 60 [.list 2 true es]=some (0,[.list 2 true es]):=IW hB ok λe he=>OG (ok.mem e he)
theorem Nl{e:List D}(ok:eO mg (lay 6) e):G 108 (e++e)=some (0,[.bool true]):=by
 obtain⟨x0,x1,rfl,_,_⟩:=lR ok;exact cq ads rfl (by simp only[go_sem,t108])
theorem Hl{es:List (List D)}(hl:es.length<=mg)(ok:eh mg 6 es)(he:∀e∈es,G 108 (e++e)=some (0,[.bool true])):G 109 [.list 2 true es,.list 2 true es]=some (0,[.bool true]):=by
 have h:=iG (b:=lB G EI) es (λi=>(0,[.list 2 true es,.list 2 true es,.int .i64 (i:Int)])) (λ_=>true) (1,[.list 2 true es,.list 2 true es,.int .i64 es.length,.bool false]) (0,[.bool false]) (by
  intro i e hn;have hi:=aR hn;have hw:=wj hi hl;have oe:=ok.mem e (aT hn);have f:=he e (aT hn);obtain⟨x0,x1,rfl,_,_⟩:=lR oe;have hh:aK (.has 2) [.list 0 false [[.int .i64 x0,.int .i64 x1]]]=some (.bool false):=rfl;simp only[ai,ak]at f;simp only[go_sem,bm,EI,hi,hn,hh,f,hw]) (by simp only[go_sem,bm,EI,aq])
 rw[n0]at h;have ha:(es.all λ_=>true)=true:=by simp
 rw[ha]at h;simp only[go_sem]at h;exact cq adt rfl (by simp only[go_sem,t109,h])
theorem Nn{es:List (List D)}(hB:es.length<=mg)(ok:eh mg 6 es):G 109 [.list 2 true es,.list 2 true es]=some (0,[.bool true]):=Hl hB ok λe he=>Nl (ok.mem e he)
theorem SL{e:List D}(ok:eO mg (lay 7) e):G 62 e=some (0,e):=by
 obtain⟨x0,x1,x2,x3,x4,rfl,_,⟨b1,c1⟩,⟨b2,c2⟩,b3,b4⟩:=Au ok;have f1:=OH b1 c1;have f2:=Gd b2 c2;exact cq s62 rfl (by simp only[go_sem,t62,f1,f2])
theorem P7{e:List D}(ok:eO mg (lay 7) e):G 111 (e++e)=some (0,[.bool true]):=by
 obtain⟨x0,x1,x2,x3,x4,rfl,_,⟨b1,c1⟩,⟨b2,c2⟩,b3,b4⟩:=Au ok;have f1:=Nn b1 c1;have f2:=Eo b2 c2;exact cq adw rfl (by simp only[go_sem,t111,f1,f2])
theorem SJ{e:List D}(ok:eO mg (lay 8) e):G 63 e=some (0,e):=by
 obtain⟨x0,x1,rfl,b0,b1⟩:=mw ok;exact cq s63 rfl (by simp only[go_sem,t63,])
theorem K3{es:List (List D)}(hl:es.length<=mg)(ok:eh mg 8 es)(he:∀e∈es,G 63 e=some (0,e)):G 64 [.list 2 true es]=some (0,[.list 2 true es]):=by
 have h:=Am (b:=lB G Ma) es (([zS [],zS []]:List SK).map SK.d) (λi acc=>(0,[.list 2 true es,.int .i64 (i:Int),.list 2 true acc])) (λacc=>(0,[.list 2 true es,.int .i64 es.length,.bool false,.list 2 true acc])) (by
  intro i e acc hn hz;have hi:=aR hn;have hw:=wj hi hl;have oe:=ok.mem e (aT hn);have f:=he e (aT hn);obtain⟨x0,x1,rfl,b0,b1⟩:=mw oe;have hc:=lV 2 true acc i (aR hz);have hs:=uA (fl:=true) (k:=2) (ds:=[.str x0,.str x1]) hz rfl rfl (λ_=>rfl);have hh:aK (.has 2) [.list 0 false [[.str x0,.str x1]]]=some (.bool false):=rfl;have hp:aK .pl [.str x0,.str x1]=some (.bool false):=rfl;simp only[go_sem,bm,Ma,hi,hn,hh,f,hw,hc,hs]) (by
  intro acc;simp only[go_sem,bm,Ma,aq])
 have hm:=λby_ hb=>qB (k:=2) (fl:=true) (by_:=by_) (zs:=[zS [],zS []]) hl hb;have hm:=hm 32 (by omega);rw[n0]at h;simp only[go_sem]at h;exact cq s64 rfl (by simp only[go_sem,t64,hm,h])
theorem SN{es:List (List D)}(hB:es.length<=mg)(ok:eh mg 8 es):G 64 [.list 2 true es]=some (0,[.list 2 true es]):=K3 hB ok λe he=>SJ (ok.mem e he)
theorem P6{e:List D}(ok:eO mg (lay 8) e):G 112 (e++e)=some (0,[.bool true]):=by
 obtain⟨x0,x1,rfl,b0,b1⟩:=mw ok;exact cq adx rfl (by simp only[go_sem,t112])
theorem JL{es:List (List D)}(hl:es.length<=mg)(ok:eh mg 8 es)(he:∀e∈es,G 112 (e++e)=some (0,[.bool true])):G 113 [.list 2 true es,.list 2 true es]=some (0,[.bool true]):=by
 have h:=iG (b:=lB G EK) es (λi=>(0,[.list 2 true es,.list 2 true es,.int .i64 (i:Int)])) (λ_=>true) (1,[.list 2 true es,.list 2 true es,.int .i64 es.length,.bool false]) (0,[.bool false]) (by
  intro i e hn;have hi:=aR hn;have hw:=wj hi hl;have oe:=ok.mem e (aT hn);have f:=he e (aT hn);obtain⟨x0,x1,rfl,b0,b1⟩:=mw oe;have hh:aK (.has 2) [.list 0 false [[.str x0,.str x1]]]=some (.bool false):=rfl;simp only[ai,ak]at f;simp only[go_sem,bm,EK,hi,hn,hh,f,hw]) (by simp only[go_sem,bm,EK,aq])
 rw[n0]at h;have ha:(es.all λ_=>true)=true:=by simp
 rw[ha]at h;simp only[go_sem]at h;exact cq ady rfl (by simp only[go_sem,t113,h])
theorem P9{es:List (List D)}(hB:es.length<=mg)(ok:eh mg 8 es):G 113 [.list 2 true es,.list 2 true es]=some (0,[.bool true]):=JL hB ok λe he=>P6 (ok.mem e he)
theorem SI{e:List D}(ok:eO mg (lay 9) e):G 65 e=some (0,e):=by
 obtain⟨x0,x1,rfl,b0,⟨b1,c1⟩⟩:=mu ok;have f1:=SN b1 c1;exact cq s65 rfl (by simp only[go_sem,t65,f1])
theorem K1{es:List (List D)}(hl:es.length<=mg)(ok:eh mg 9 es)(he:∀e∈es,G 65 e=some (0,e)):G 66 [.list 2 false es]=some (0,[.list 2 false es]):=by
 have h:=Am (b:=lB G Mb) es (([zS [],zL 2 true]:List SK).map SK.d) (λi acc=>(0,[.list 2 false es,.int .i64 (i:Int),.list 2 false acc])) (λacc=>(0,[.list 2 false es,.int .i64 es.length,.bool false,.list 2 false acc])) (by
  intro i e acc hn hz;have hi:=aR hn;have hw:=wj hi hl;have oe:=ok.mem e (aT hn);have f:=he e (aT hn);obtain⟨x0,x1,rfl,b0,⟨b1,c1⟩⟩:=mu oe;have hc:=lV 2 false acc i (aR hz);have hs:=uA (fl:=false) (k:=2) (ds:=[.str x0,.list 2 true x1]) hz rfl rfl (λh=>by cases h);have hh:aK (.has 2) [.list 0 false [[.str x0,.list 2 true x1]]]=some (.bool false):=rfl;have hp:aK .pl [.str x0]=some (.bool false):=rfl;simp only[go_sem,bm,Mb,hi,hn,hh,f,hw,hc,hs,hp]) (by
  intro acc;simp only[go_sem,bm,Mb,aq])
 have hm:=λby_ hb=>qB (k:=2) (fl:=false) (by_:=by_) (zs:=[zS [],zL 2 true]) hl hb;have hm:=hm 40 (by omega);rw[n0]at h;simp only[go_sem]at h;exact cq s66 rfl (by simp only[go_sem,t66,hm,h])
theorem SM{es:List (List D)}(hB:es.length<=mg)(ok:eh mg 9 es):G 66 [.list 2 false es]=some (0,[.list 2 false es]):=K1 hB ok λe he=>SI (ok.mem e he)
theorem P5{e:List D}(ok:eO mg (lay 9) e):G 114 (e++e)=some (0,[.bool true]):=by
 obtain⟨x0,x1,rfl,b0,⟨b1,c1⟩⟩:=mu ok;have f1:=P9 b1 c1;exact cq adz rfl (by simp only[go_sem,t114,f1])
theorem JK{es:List (List D)}(hl:es.length<=mg)(ok:eh mg 9 es)(he:∀e∈es,G 114 (e++e)=some (0,[.bool true])):G 115 [.list 2 false es,.list 2 false es]=some (0,[.bool true]):=by
 have h:=iG (b:=lB G EL) es (λi=>(0,[.list 2 false es,.list 2 false es,.int .i64 (i:Int)])) (λ_=>true) (1,[.list 2 false es,.list 2 false es,.int .i64 es.length,.bool false]) (0,[.bool false]) (by
  intro i e hn;have hi:=aR hn;have hw:=wj hi hl;have oe:=ok.mem e (aT hn);have f:=he e (aT hn);obtain⟨x0,x1,rfl,b0,⟨b1,c1⟩⟩:=mu oe;have hh:aK (.has 2) [.list 0 false [[.str x0,.list 2 true x1]]]=some (.bool false):=rfl;simp only[ai,ak]at f;simp only[go_sem,bm,EL,hi,hn,hh,f,hw]) (by simp only[go_sem,bm,EL,aq])
 rw[n0]at h;have ha:(es.all λ_=>true)=true:=by simp
 rw[ha]at h;simp only[go_sem]at h;exact cq adA rfl (by simp only[go_sem,t115,h])
theorem P8{es:List (List D)}(hB:es.length<=mg)(ok:eh mg 9 es):G 115 [.list 2 false es,.list 2 false es]=some (0,[.bool true]):=JK hB ok λe he=>P5 (ok.mem e he)
theorem SH{e:List D}(ok:eO mg (lay 10) e):G 67 e=some (0,e):=by
 obtain⟨x0,x1,x2,rfl,_,_,⟨b2,c2⟩⟩:=At ok;have f2:=SM b2 c2;exact cq s67 rfl (by simp only[go_sem,t67,f2])
theorem P4{e:List D}(ok:eO mg (lay 10) e):G 116 (e++e)=some (0,[.bool true]):=by
 obtain⟨x0,x1,x2,rfl,_,_,⟨b2,c2⟩⟩:=At ok;have f2:=P8 b2 c2;exact cq adB rfl (by simp only[go_sem,t116,f2])
theorem SD{e:List D}(ok:eO mg (lay 11) e)(ih:∀xs,.list 7 false xs∈e->G 69 [.list 7 false xs]=some (0,[.list 7 false xs])):G 68 e=some (0,e):=by
 obtain⟨x0,x1,x2,x3,x4,x5,x6,rfl,_,_,b2,_,_,⟨b5,c5⟩,⟨b6,c6⟩⟩:=km ok;have f3:=SH (eO.sub 3 3 ok);simp only[gu,aX,cD,bg]at f3;have f6:=ih x6 (by simp only[ay,true_or,or_true]);exact cq s68 rfl (by simp only[go_sem,t68,f3,f6])
theorem KW{es:List (List D)}(hl:es.length<=mg)(ok:eh mg 11 es)(he:∀e∈es,G 68 e=some (0,e)):G 69 [.list 7 false es]=some (0,[.list 7 false es]):=by
 have h:=Am (b:=lB G Mc) es (([zI 0,zI 0,zS [],zB false,zI 0,zL 2 false,zL 7 false]:List SK).map SK.d) (λi acc=>(0,[.list 7 false es,.int .i64 (i:Int),.list 7 false acc])) (λacc=>(0,[.list 7 false es,.int .i64 es.length,.bool false,.list 7 false acc])) (by
  intro i e acc hn hz;have hi:=aR hn;have hw:=wj hi hl;have oe:=ok.mem e (aT hn);have f:=he e (aT hn);obtain⟨x0,x1,x2,x3,x4,x5,x6,rfl,_,_,b2,_,_,⟨b5,c5⟩,⟨b6,c6⟩⟩:=km oe;have hc:=lV 7 false acc i (aR hz);have hs:=uA (fl:=false) (k:=7) (ds:=[.int .i64 x0,.int .i64 x1,.str x2,.bool x3,.int .i64 x4,.list 2 false x5,.list 7 false x6]) hz rfl rfl (λh=>by cases h);have hh:aK (.has 7) [.list 0 false [[.int .i64 x0,.int .i64 x1,.str x2,.bool x3,.int .i64 x4,.list 2 false x5,.list 7 false x6]]]=some (.bool false):=rfl;have hp:aK .pl [.int .i64 x0,.int .i64 x1,.str x2,.bool x3,.int .i64 x4]=some (.bool false):=rfl;simp only[go_sem,bm,Mc,hi,hn,hh,f,hw,hc,hs,hp]) (by
  intro acc;simp only[go_sem,bm,Mc,aq])
 have hm:=λby_ hb=>qB (k:=7) (fl:=false) (by_:=by_) (zs:=[zI 0,zI 0,zS [],zB false,zI 0,zL 2 false,zL 7 false]) hl hb;have hm:=hm 96 (by omega);rw[n0]at h;simp only[go_sem]at h;exact cq s69 rfl (by simp only[go_sem,t69,hm,h])
theorem KV(m:Nat):∀es:List (List D),ah es < m->es.length<=mg->eh mg 11 es->G 69 [.list 7 false es]=some (0,[.list 7 false es]):=by
 induction m with
 |zero=>intro es h;omega
 |succ m ih=>
  intro es hz hB ok;refine KW hB ok λe he=>SD (ok.mem e he) λxs hx=>?_;obtain⟨b,c⟩:=AB (ok.mem e he) hx;exact ih xs (by have:=jh he hx;omega) b c
theorem IU{es:List (List D)}(hB:es.length<=mg)(ok:eh mg 11 es):G 69 [.list 7 false es]=some (0,[.list 7 false es]):=KV _ es (aM _) hB ok
theorem P0{e:List D}(ok:eO mg (lay 11) e)(ih:∀xs,.list 7 false xs∈e->G 118 [.list 7 false xs,.list 7 false xs]=some (0,[.bool true])):G 117 (e++e)=some (0,[.bool true]):=by
 obtain⟨x0,x1,x2,x3,x4,x5,x6,rfl,_,_,b2,_,_,⟨b5,c5⟩,⟨b6,c6⟩⟩:=km ok;have f3:=P4 (eO.sub 3 3 ok);simp only[gu,aX,cD,bg,ai,ak]at f3;have f6:=ih x6 (by simp only[ay,true_or,or_true]);exact cq adC rfl (by simp only[go_sem,t117,f3,f6])
theorem JG{es:List (List D)}(hl:es.length<=mg)(ok:eh mg 11 es)(he:∀e∈es,G 117 (e++e)=some (0,[.bool true])):G 118 [.list 7 false es,.list 7 false es]=some (0,[.bool true]):=by
 have h:=iG (b:=lB G EM) es (λi=>(0,[.list 7 false es,.list 7 false es,.int .i64 (i:Int)])) (λ_=>true) (1,[.list 7 false es,.list 7 false es,.int .i64 es.length,.bool false]) (0,[.bool false]) (by
  intro i e hn;have hi:=aR hn;have hw:=wj hi hl;have oe:=ok.mem e (aT hn);have f:=he e (aT hn);obtain⟨x0,x1,x2,x3,x4,x5,x6,rfl,_,_,b2,_,_,⟨b5,c5⟩,⟨b6,c6⟩⟩:=km oe;have hh:aK (.has 7) [.list 0 false [[.int .i64 x0,.int .i64 x1,.str x2,.bool x3,.int .i64 x4,.list 2 false x5,.list 7 false x6]]]=some (.bool false):=rfl;simp only[ai,ak]at f;simp only[go_sem,bm,EM,hi,hn,hh,f,hw]) (by simp only[go_sem,bm,EM,aq])
 rw[n0]at h;have ha:(es.all λ_=>true)=true:=by simp
 rw[ha]at h;simp only[go_sem]at h;exact cq adD rfl (by simp only[go_sem,t118,h])
theorem JF(m:Nat):∀es:List (List D),ah es < m->es.length<=mg->eh mg 11 es->G 118 [.list 7 false es,.list 7 false es]=some (0,[.bool true]):=by
 induction m with
 |zero=>intro es h;omega
 |succ m ih=>
  intro es hz hB ok;refine JG hB ok λe he=>P0 (ok.mem e he) λxs hx=>?_;obtain⟨b,c⟩:=AB (ok.mem e he) hx;exact ih xs (by have:=jh he hx;omega) b c
theorem Hk{es:List (List D)}(hB:es.length<=mg)(ok:eh mg 11 es):G 118 [.list 7 false es,.list 7 false es]=some (0,[.bool true]):=JF _ es (aM _) hB ok
theorem KU{e:List D}(ok:eO mg (lay 12) e)(ih:∀xs,.list 19 false xs∈e->G 71 [.list 19 false xs]=some (0,[.list 19 false xs])):G 70 e=some (0,e):=by
 obtain⟨x0,x1,x2,x3,x4,x5,x6,x7,x8,x9,x10,x11,x12,x13,x14,x15,x16,x17,x18,rfl,_,b1,_,⟨b3,c3⟩,⟨b4,c4⟩,b5,b6,⟨b7,c7⟩,⟨b8,c8⟩,b9,_,_,_,_,_,_,⟨Ld,CN⟩,⟨Le,D8⟩,⟨OP,I7⟩⟩:=ig ok;have f2:=SL (eO.sub 2 5 ok);simp only[gu,aX,cD,bg]at f2;have f7:=Gd b7 c7;have f8:=Gd b8 c8;have f16:=IU Ld CN;have f17:=IU Le D8;have f18:=ih x18 (by simp only[ay,true_or,or_true]);exact cq s70 rfl (by simp only[go_sem,t70,f2,f7,f8,f16,f17,f18])
theorem F_{es:List (List D)}(hl:es.length<=mg)(ok:eh mg 12 es)(he:∀e∈es,G 70 e=some (0,e)):G 71 [.list 19 false es]=some (0,[.list 19 false es]):=by
 have h:=Am (b:=lB G Md) es (([zI 0,zS [],zI 0,zL 2 true,zL 1 true,zS [],zS [],zL 1 true,zL 1 true,zS [],zB false,zB false,zB false,zB false,zI 0,zI 0,zL 7 false,zL 7 false,zL 19 false]:List SK).map SK.d) (λi acc=>(0,[.list 19 false es,.int .i64 (i:Int),.list 19 false acc])) (λacc=>(0,[.list 19 false es,.int .i64 es.length,.bool false,.list 19 false acc])) (by
  intro i e acc hn hz;have hi:=aR hn;have hw:=wj hi hl;have oe:=ok.mem e (aT hn);have f:=he e (aT hn);obtain⟨x0,x1,x2,x3,x4,x5,x6,x7,x8,x9,x10,x11,x12,x13,x14,x15,x16,x17,x18,rfl,_,b1,_,⟨b3,c3⟩,⟨b4,c4⟩,b5,b6,⟨b7,c7⟩,⟨b8,c8⟩,b9,_,_,_,_,_,_,⟨Ld,CN⟩,⟨Le,D8⟩,⟨OP,I7⟩⟩:=ig oe;have hc:=lV 19 false acc i (aR hz);have hs:=uA (fl:=false) (k:=19) (ds:=[.int .i64 x0,.str x1,.int .i64 x2,.list 2 true x3,.list 1 true x4,.str x5,.str x6,.list 1 true x7,.list 1 true x8,.str x9,.bool x10,.bool x11,.bool x12,.bool x13,.int .i64 x14,.int .i64 x15,.list 7 false x16,.list 7 false x17,.list 19 false x18]) hz rfl rfl (λh=>by cases h);have hh:aK (.has 19) [.list 0 false [[.int .i64 x0,.str x1,.int .i64 x2,.list 2 true x3,.list 1 true x4,.str x5,.str x6,.list 1 true x7,.list 1 true x8,.str x9,.bool x10,.bool x11,.bool x12,.bool x13,.int .i64 x14,.int .i64 x15,.list 7 false x16,.list 7 false x17,.list 19 false x18]]]=some (.bool false):=rfl;have hp:aK .pl [.int .i64 x0,.str x1,.int .i64 x2,.str x5,.str x6,.str x9,.bool x10,.bool x11,.bool x12,.bool x13,.int .i64 x14,.int .i64 x15]=some (.bool false):=rfl;simp only[go_sem,bm,Md,hi,hn,hh,f,hw,hc,hs,hp]) (by
  intro acc;simp only[go_sem,bm,Md,aq])
 have hm:=λby_ hb=>qB (k:=19) (fl:=false) (by_:=by_) (zs:=[zI 0,zS [],zI 0,zL 2 true,zL 1 true,zS [],zS [],zL 1 true,zL 1 true,zS [],zB false,zB false,zB false,zB false,zI 0,zI 0,zL 7 false,zL 7 false,zL 19 false]) hl hb;have hm:=hm 272 (by omega);rw[n0]at h;simp only[go_sem]at h;exact cq s71 rfl (by simp only[go_sem,t71,hm,h])
theorem F9(m:Nat):∀es:List (List D),ah es < m->es.length<=mg->eh mg 12 es->G 71 [.list 19 false es]=some (0,[.list 19 false es]):=by
 induction m with
 |zero=>intro es h;omega
 |succ m ih=>
  intro es hz hB ok;refine F_ hB ok λe he=>KU (ok.mem e he) λxs hx=>?_;obtain⟨b,c⟩:=uc (ok.mem e he) hx;exact ih xs (by have:=jh he hx;omega) b c
theorem K0{es:List (List D)}(hB:es.length<=mg)(ok:eh mg 12 es):G 71 [.list 19 false es]=some (0,[.list 19 false es]):=F9 _ es (aM _) hB ok
theorem JE{e:List D}(ok:eO mg (lay 12) e)(ih:∀xs,.list 19 false xs∈e->G 120 [.list 19 false xs,.list 19 false xs]=some (0,[.bool true])):G 119 (e++e)=some (0,[.bool true]):=by
 obtain⟨x0,x1,x2,x3,x4,x5,x6,x7,x8,x9,x10,x11,x12,x13,x14,x15,x16,x17,x18,rfl,_,b1,_,⟨b3,c3⟩,⟨b4,c4⟩,b5,b6,⟨b7,c7⟩,⟨b8,c8⟩,b9,_,_,_,_,_,_,⟨Ld,CN⟩,⟨Le,D8⟩,⟨OP,I7⟩⟩:=ig ok;have f2:=P7 (eO.sub 2 5 ok);simp only[gu,aX,cD,bg,ai,ak]at f2;have f7:=Eo b7 c7;have f8:=Eo b8 c8;have f16:=Hk Ld CN;have f17:=Hk Le D8;have f18:=ih x18 (by simp only[ay,true_or,or_true]);exact cq adE rfl (by simp only[go_sem,t119,f2,f7,f8,f16,f17,f18])
theorem En{es:List (List D)}(hl:es.length<=mg)(ok:eh mg 12 es)(he:∀e∈es,G 119 (e++e)=some (0,[.bool true])):G 120 [.list 19 false es,.list 19 false es]=some (0,[.bool true]):=by
 have h:=iG (b:=lB G EN) es (λi=>(0,[.list 19 false es,.list 19 false es,.int .i64 (i:Int)])) (λ_=>true) (1,[.list 19 false es,.list 19 false es,.int .i64 es.length,.bool false]) (0,[.bool false]) (by
  intro i e hn;have hi:=aR hn;have hw:=wj hi hl;have oe:=ok.mem e (aT hn);have f:=he e (aT hn);obtain⟨x0,x1,x2,x3,x4,x5,x6,x7,x8,x9,x10,x11,x12,x13,x14,x15,x16,x17,x18,rfl,_,b1,_,⟨b3,c3⟩,⟨b4,c4⟩,b5,b6,⟨b7,c7⟩,⟨b8,c8⟩,b9,_,_,_,_,_,_,⟨Ld,CN⟩,⟨Le,D8⟩,⟨OP,I7⟩⟩:=ig oe;have hh:aK (.has 19) [.list 0 false [[.int .i64 x0,.str x1,.int .i64 x2,.list 2 true x3,.list 1 true x4,.str x5,.str x6,.list 1 true x7,.list 1 true x8,.str x9,.bool x10,.bool x11,.bool x12,.bool x13,.int .i64 x14,.int .i64 x15,.list 7 false x16,.list 7 false x17,.list 19 false x18]]]=some (.bool false):=rfl;simp only[ai,ak]at f;simp only[go_sem,bm,EN,hi,hn,hh,f,hw]) (by simp only[go_sem,bm,EN,aq])
 rw[n0]at h;have ha:(es.all λ_=>true)=true:=by simp
 rw[ha]at h;simp only[go_sem]at h;exact cq adF rfl (by simp only[go_sem,t120,h])
theorem Em(m:Nat):∀es:List (List D),ah es < m->es.length<=mg->eh mg 12 es->G 120 [.list 19 false es,.list 19 false es]=some (0,[.bool true]):=by
 induction m with
 |zero=>intro es h;omega
 |succ m ih=>
  intro es hz hB ok;refine En hB ok λe he=>JE (ok.mem e he) λxs hx=>?_;obtain⟨b,c⟩:=uc (ok.mem e he) hx;exact ih xs (by have:=jh he hx;omega) b c
theorem JJ{es:List (List D)}(hB:es.length<=mg)(ok:eh mg 12 es):G 120 [.list 19 false es,.list 19 false es]=some (0,[.bool true]):=Em _ es (aM _) hB ok
end
end Go.Proofs.YtcdjbelccndadaaGreatDoor
