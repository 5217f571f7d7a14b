/- Part of the proof. Condition: none. -/
import Derived.Test.YtbnmicpicjmgiaaGreatDoorZz04
set_option linter.all false
open Bool renaming true->I
namespace Go.Proofs.YtbnmicpicjmgiaaGreatDoor
set_option maxRecDepth 100000
set_option maxHeartbeats 400000000
noncomputable section
def amU:KF:=by refine (?f:kx 419=?t->KF) ?p;exact λ_=>?t;conv=>lhs;reduce
def Pc:ST:=by refine (?f:rx [57020] 419 amU=?t->ST) ?p;exact λ_=>?t;conv=>lhs;reduce
def vO:ST:=by refine (?f:lq Pc 0=?t->ST) ?p;exact λ_=>?t;conv=>lhs;reduce
def rX:ST:=by refine (?f:lq Pc 4=?t->ST) ?p;exact λ_=>?t;conv=>lhs;reduce;rw[<- vO.eq_1]
def vP:ST:=by refine (?f:lq Pc 5=?t->ST) ?p;exact λ_=>?t;conv=>lhs;reduce
def rY:ST:=by refine (?f:lq Pc 9=?t->ST) ?p;exact λ_=>?t;conv=>lhs;reduce;rw[<- vP.eq_1]
def xJ:R_ [57020] 419:=⟨_,mO (r:=Pc) (by kernel_rfl) (by conv=>lhs;reduce;rw[<- vO.eq_1,<- rX.eq_1,<- vP.eq_1,<- rY.eq_1])⟩
def am2:KF:=by refine (?f:kx 491=?t->KF) ?p;exact λ_=>?t;conv=>lhs;reduce
def acr:ST:=by refine (?f:rx [66005] 491 am2=?t->ST) ?p;exact λ_=>?t;conv=>lhs;reduce
def ui:ST:=by refine (?f:lq acr 0=?t->ST) ?p;exact λ_=>?t;conv=>lhs;reduce
def Cj:ST:=by refine (?f:lq acr 1=?t->ST) ?p;exact λ_=>?t;conv=>lhs;reduce
def DF:R_ [66005] 491:=⟨_,mO (r:=acr) (by kernel_rfl) (by conv=>lhs;reduce;rw[<- ui.eq_1,<- Cj.eq_1])⟩
def amI:KF:=by refine (?f:kx 228=?t->KF) ?p;exact λ_=>?t;conv=>lhs;reduce
def acm:ST:=by refine (?f:rx [] 228 amI=?t->ST) ?p;exact λ_=>?t;conv=>lhs;reduce
def B0:ST:=by refine (?f:lq acm 0=?t->ST) ?p;exact λ_=>?t;conv=>lhs;reduce
def FQ:ST:=by refine (?f:lq acm 1=?t->ST) ?p;exact λ_=>?t;conv=>lhs;reduce;rw[<- B0.eq_1]
def t228:R_ [] 228:=⟨_,mO (r:=acm) (by kernel_rfl) (by conv=>lhs;reduce;rw[<- B0.eq_1,<- FQ.eq_1])⟩
def am0:KF:=by refine (?f:kx 480=?t->KF) ?p;exact λ_=>?t;conv=>lhs;reduce
def Pd:ST:=by refine (?f:rx [] 480 am0=?t->ST) ?p;exact λ_=>?t;conv=>lhs;reduce
def Ce:ST:=by refine (?f:lq Pd 0=?t->ST) ?p;exact λ_=>?t;conv=>lhs;reduce
def Cg:ST:=by refine (?f:lq Pd 1=?t->ST) ?p;exact λ_=>?t;conv=>lhs;reduce
def Ch:ST:=by refine (?f:lq Pd 2=?t->ST) ?p;exact λ_=>?t;conv=>lhs;reduce
def Ci:ST:=by refine (?f:lq Pd 3=?t->ST) ?p;exact λ_=>?t;conv=>lhs;reduce
def R9:R_ [] 480:=⟨_,mO (r:=Pd) (by kernel_rfl) (by conv=>lhs;reduce;rw[<- Ce.eq_1,<- Cg.eq_1,<- Ch.eq_1,<- Ci.eq_1])⟩
def nY:ST:=by refine (?f:lp [125001,117002,101001,96002,81001,68001,54001] 467 0=?t->ST) ?p;exact λ_=>?t;conv=>lhs;reduce
def apF:R_ [125001,117002,101001,96002,81001,68001,54001] 467:=⟨_,by conv=>lhs;reduce;rw[<- nY.eq_1]⟩
def oT:ST:=by refine (?f:lp [] 231 0=?t->ST) ?p;exact λ_=>?t;conv=>lhs;reduce
def t231:R_ [] 231:=⟨_,by conv=>lhs;reduce;rw[<- oT.eq_1]⟩
def r9:ST:=by refine (?f:lp [] 477 0=?t->ST) ?p;exact λ_=>?t;conv=>lhs;reduce
def afL:R_ [] 477:=⟨_,by conv=>lhs;reduce;rw[<- r9.eq_1]⟩
def yL:ST:=by refine (?f:lp [] 476 0=?t->ST) ?p;exact λ_=>?t;conv=>lhs;reduce
def Gi:ST:=by refine (?f:lp [] 476 1=?t->ST) ?p;exact λ_=>?t;conv=>lhs;reduce;rw[<- yL.eq_1]
def aj5:R_ [] 476:=⟨_,by conv=>lhs;reduce;rw[<- yL.eq_1,<- Gi.eq_1]⟩
def yG:ST:=by refine (?f:lp [] 420 0=?t->ST) ?p;exact λ_=>?t;conv=>lhs;reduce
def F8:ST:=by refine (?f:lp [] 420 1=?t->ST) ?p;exact λ_=>?t;conv=>lhs;reduce;rw[<- yG.eq_1]
def ajX:R_ [] 420:=⟨_,by conv=>lhs;reduce;rw[<- yG.eq_1,<- F8.eq_1]⟩
def F4:ST:=by refine (?f:lp [] 320 0=?t->ST) ?p;exact λ_=>?t;conv=>lhs;reduce
def t320:R_ [] 320:=⟨_,by conv=>lhs;reduce;rw[<- F4.eq_1]⟩
def B_:ST:=by refine (?f:lp [] 393 0=?t->ST) ?p;exact λ_=>?t;conv=>lhs;reduce
def Pu:R_ [] 393:=⟨_,by conv=>lhs;reduce;rw[<- B_.eq_1]⟩
def t245:R_ [] 245:=⟨_,by conv=>lhs;reduce⟩
def XZ:R_ [] 526:=⟨_,by conv=>lhs;reduce⟩
def t127:R_ [] 127:=⟨_,by conv=>lhs;reduce⟩
def ah8:ST:=by refine (?f:lp [] 115 0=?t->ST) ?p;exact λ_=>?t;conv=>lhs;reduce
def t115:R_ [] 115:=⟨_,by conv=>lhs;reduce;rw[<- ah8.eq_1]⟩
def aia:ST:=by refine (?f:lp [] 125 0=?t->ST) ?p;exact λ_=>?t;conv=>lhs;reduce
def t125:R_ [] 125:=⟨_,by conv=>lhs;reduce;rw[<- aia.eq_1]⟩
def Lg:ST:=by refine (?f:lp [] 110 0=?t->ST) ?p;exact λ_=>?t;conv=>lhs;reduce
def t110:R_ [] 110:=⟨_,by conv=>lhs;reduce;rw[<- Lg.eq_1]⟩
def Gg:ST:=by refine (?f:lp [] 464 0=?t->ST) ?p;exact λ_=>?t;conv=>lhs;reduce
def aj3:R_ [] 464:=⟨_,by conv=>lhs;reduce;rw[<- Gg.eq_1]⟩
def LD:ST:=by refine (?f:lp [] 264 0=?t->ST) ?p;exact λ_=>?t;conv=>lhs;reduce
def t264:R_ [] 264:=⟨_,by conv=>lhs;reduce;rw[<- LD.eq_1]⟩
def LA:ST:=by refine (?f:lp [] 257 0=?t->ST) ?p;exact λ_=>?t;conv=>lhs;reduce
def t257:R_ [] 257:=⟨_,by conv=>lhs;reduce;rw[<- LA.eq_1]⟩
def LH:ST:=by refine (?f:lp [] 271 0=?t->ST) ?p;exact λ_=>?t;conv=>lhs;reduce
def t271:R_ [] 271:=⟨_,by conv=>lhs;reduce;rw[<- LH.eq_1]⟩
def Lk:ST:=by refine (?f:lp [] 203 0=?t->ST) ?p;exact λ_=>?t;conv=>lhs;reduce
def t203:R_ [] 203:=⟨_,by conv=>lhs;reduce;rw[<- Lk.eq_1]⟩
def LN:ST:=by refine (?f:lp [] 317 0=?t->ST) ?p;exact λ_=>?t;conv=>lhs;reduce
def t317:R_ [] 317:=⟨_,by conv=>lhs;reduce;rw[<- LN.eq_1]⟩
def t216:R_ [] 216:=⟨_,by conv=>lhs;reduce⟩
def t207:R_ [] 207:=⟨_,by conv=>lhs;reduce⟩
def t62:R_ [] 62:=⟨_,by conv=>lhs;reduce⟩
def aj_:R_ [] 486:=⟨_,by conv=>lhs;reduce⟩
def t213:R_ [] 213:=⟨_,by conv=>lhs;reduce⟩
def t67:R_ [] 67:=⟨_,by conv=>lhs;reduce⟩
def t63:R_ [] 63:=⟨_,by conv=>lhs;reduce⟩
def akb:R_ [] 488:=⟨_,by conv=>lhs;reduce⟩
def t241:R_ [] 241:=⟨_,by conv=>lhs;reduce⟩
def apR:R_ [] 510:=⟨_,by conv=>lhs;reduce⟩
def t259:R_ [] 259:=⟨_,by conv=>lhs;reduce⟩
def t247:R_ [] 247:=⟨_,by conv=>lhs;reduce⟩
def aqk:Bq ((o0.drop 26).take 13)=I:=by kernel_rfl
def akX:Bq ((o0.drop 130).take 13)=I:=by kernel_rfl
def ak5:Bq ((o0.drop 234).take 13)=I:=by kernel_rfl
end
noncomputable section
def amT:KF:=by refine (?f:kx 406=?t->KF) ?p;exact λ_=>?t;conv=>lhs;reduce
def JV:ST:=by refine (?f:rx [] 406 amT=?t->ST) ?p;exact λ_=>?t;conv=>lhs;reduce
def Rg:ST:=by refine (?f:lq JV 0=?t->ST) ?p;exact λ_=>?t;conv=>lhs;reduce
def ue:ST:=by refine (?f:lq JV 1=?t->ST) ?p;exact λ_=>?t;conv=>lhs;reduce
def uf:ST:=by refine (?f:lq JV 2=?t->ST) ?p;exact λ_=>?t;conv=>lhs;reduce
def nw:ST:=by refine (?f:lq JV 3=?t->ST) ?p;exact λ_=>?t;conv=>lhs;reduce;rw[<- ue.eq_1,<- uf.eq_1]
def qc:ST:=by refine (?f:lq JV 4=?t->ST) ?p;exact λ_=>?t;conv=>lhs;reduce
def Ix:R_ [] 406:=⟨_,mO (r:=JV) (by kernel_rfl) (by conv=>lhs;reduce;rw[<- Rg.eq_1,<- ue.eq_1,<- uf.eq_1,<- nw.eq_1,<- qc.eq_1])⟩
def amH:KF:=by refine (?f:kx 225=?t->KF) ?p;exact λ_=>?t;conv=>lhs;reduce
def agF:ST:=by refine (?f:rx [73003,69003,63003,53003] 225 amH=?t->ST) ?p;exact λ_=>?t;conv=>lhs;reduce
def jP:ST:=by refine (?f:lq agF 0=?t->ST) ?p;exact λ_=>?t;conv=>lhs;reduce
def t225:R_ [73003,69003,63003,53003] 225:=⟨_,mO (r:=agF) (by kernel_rfl) (by conv=>lhs;reduce;rw[<- jP.eq_1])⟩
def aq9:KF:=by refine (?f:kx 97=?t->KF) ?p;exact λ_=>?t;conv=>lhs;reduce
def apo:ST:=by refine (?f:rx [] 97 aq9=?t->ST) ?p;exact λ_=>?t;conv=>lhs;reduce
def uS:ST:=by refine (?f:lq apo 0=?t->ST) ?p;exact λ_=>?t;conv=>lhs;reduce
def t97:R_ [] 97:=⟨_,mO (r:=apo) (by kernel_rfl) (by conv=>lhs;reduce;rw[<- uS.eq_1])⟩
def amR:KF:=by refine (?f:kx 322=?t->KF) ?p;exact λ_=>?t;conv=>lhs;reduce
def acn:ST:=by refine (?f:rx [] 322 amR=?t->ST) ?p;exact λ_=>?t;conv=>lhs;reduce
def F5:ST:=by refine (?f:lq acn 0=?t->ST) ?p;exact λ_=>?t;conv=>lhs;reduce
def ud:ST:=by refine (?f:lq acn 1=?t->ST) ?p;exact λ_=>?t;conv=>lhs;reduce
def t322:R_ [] 322:=⟨_,mO (r:=acn) (by kernel_rfl) (by conv=>lhs;reduce;rw[<- F5.eq_1,<- ud.eq_1])⟩
def F7:ST:=by refine (?f:lp [] 394 0=?t->ST) ?p;exact λ_=>?t;conv=>lhs;reduce
def Ms:R_ [] 394:=⟨_,by conv=>lhs;reduce;rw[<- F7.eq_1]⟩
def BU:ST:=by refine (?f:lp [] 208 0=?t->ST) ?p;exact λ_=>?t;conv=>lhs;reduce
def t208:R_ [] 208:=⟨_,by conv=>lhs;reduce;rw[<- BU.eq_1]⟩
def lK:ST:=by refine (?f:lp [] 503 0=?t->ST) ?p;exact λ_=>?t;conv=>lhs;reduce
def acV:R_ [] 503:=⟨_,by conv=>lhs;reduce;rw[<- lK.eq_1]⟩
def Gu:ST:=by refine (?f:lp [] 544 0=?t->ST) ?p;exact λ_=>?t;conv=>lhs;reduce
def Iy:R_ [] 544:=⟨_,by conv=>lhs;reduce;rw[<- Gu.eq_1]⟩
def l7:ST:=by refine (?f:lp [] 392 0=?t->ST) ?p;exact λ_=>?t;conv=>lhs;reduce
def ajT:R_ [] 392:=⟨_,by conv=>lhs;reduce;rw[<- l7.eq_1]⟩
def B3:ST:=by refine (?f:lp [] 246 0=?t->ST) ?p;exact λ_=>?t;conv=>lhs;reduce
def t246:R_ [] 246:=⟨_,by conv=>lhs;reduce;rw[<- B3.eq_1]⟩
def Rf:ST:=by refine (?f:lp [30003] 2 0=?t->ST) ?p;exact λ_=>?t;conv=>lhs;reduce
def t2:R_ [30003] 2:=⟨_,by conv=>lhs;reduce;rw[<- Rf.eq_1]⟩
def Gn:ST:=by refine (?f:lp [] 508 0=?t->ST) ?p;exact λ_=>?t;conv=>lhs;reduce
def apQ:R_ [] 508:=⟨_,by conv=>lhs;reduce;rw[<- Gn.eq_1]⟩
def acT:R_ [] 454:=⟨_,by conv=>lhs;reduce⟩
def HB:R_ [] 460:=⟨_,by conv=>lhs;reduce⟩
def afP:R_ [] 547:=⟨_,by conv=>lhs;reduce⟩
def Gt:ST:=by refine (?f:lp [35001] 521 0=?t->ST) ?p;exact λ_=>?t;conv=>lhs;reduce
def apV:R_ [35001] 521:=⟨_,by conv=>lhs;reduce;rw[<- Gt.eq_1]⟩
def am8:ST:=by refine (?f:lp [] 10 0=?t->ST) ?p;exact λ_=>?t;conv=>lhs;reduce
def t10:R_ [] 10:=⟨_,by conv=>lhs;reduce;rw[<- am8.eq_1]⟩
def am9:ST:=by refine (?f:lp [] 49 0=?t->ST) ?p;exact λ_=>?t;conv=>lhs;reduce
def t49:R_ [] 49:=⟨_,by conv=>lhs;reduce;rw[<- am9.eq_1]⟩
def Li:ST:=by refine (?f:lp [] 137 0=?t->ST) ?p;exact λ_=>?t;conv=>lhs;reduce
def t137:R_ [] 137:=⟨_,by conv=>lhs;reduce;rw[<- Li.eq_1]⟩
def Gl:ST:=by refine (?f:lp [] 505 0=?t->ST) ?p;exact λ_=>?t;conv=>lhs;reduce
def akg:R_ [] 505:=⟨_,by conv=>lhs;reduce;rw[<- Gl.eq_1]⟩
def Lr:ST:=by refine (?f:lp [] 233 0=?t->ST) ?p;exact λ_=>?t;conv=>lhs;reduce
def t233:R_ [] 233:=⟨_,by conv=>lhs;reduce;rw[<- Lr.eq_1]⟩
def aeg:ST:=by refine (?f:lp [] 6 0=?t->ST) ?p;exact λ_=>?t;conv=>lhs;reduce
def t6:R_ [] 6:=⟨_,by conv=>lhs;reduce;rw[<- aeg.eq_1]⟩
def XV:R_ [] 472:=⟨_,by conv=>lhs;reduce⟩
def Lw:ST:=by refine (?f:lp [] 243 0=?t->ST) ?p;exact λ_=>?t;conv=>lhs;reduce
def t243:R_ [] 243:=⟨_,by conv=>lhs;reduce;rw[<- Lw.eq_1]⟩
def Ly:ST:=by refine (?f:lp [] 256 0=?t->ST) ?p;exact λ_=>?t;conv=>lhs;reduce
def t256:R_ [] 256:=⟨_,by conv=>lhs;reduce;rw[<- Ly.eq_1]⟩
def XU:R_ [] 456:=⟨_,by conv=>lhs;reduce⟩
def t9:R_ [] 9:=⟨_,by conv=>lhs;reduce⟩
def t235:R_ [] 235:=⟨_,by conv=>lhs;reduce⟩
def ajV:R_ [] 401:=⟨_,by conv=>lhs;reduce⟩
def akd:R_ [] 490:=⟨_,by conv=>lhs;reduce⟩
def t112:R_ [] 112:=⟨_,by conv=>lhs;reduce⟩
def t316:R_ [] 316:=⟨_,by conv=>lhs;reduce⟩
def aj6:R_ [] 478:=⟨_,by conv=>lhs;reduce⟩
def t206:R_ [] 206:=⟨_,by conv=>lhs;reduce⟩
def t98:R_ [] 98:=⟨_,by conv=>lhs;reduce⟩
def t260:R_ [] 260:=⟨_,by conv=>lhs;reduce⟩
def apW:R_ [] 527:=⟨_,by conv=>lhs;reduce⟩
def t75:R_ [] 75:=⟨_,by conv=>lhs;reduce⟩
def aql:Bq ((o0.drop 39).take 13)=I:=by kernel_rfl
def akY:Bq ((o0.drop 143).take 13)=I:=by kernel_rfl
def ak6:Bq ((o0.drop 247).take 13)=I:=by kernel_rfl
end
end Go.Proofs.YtbnmicpicjmgiaaGreatDoor
