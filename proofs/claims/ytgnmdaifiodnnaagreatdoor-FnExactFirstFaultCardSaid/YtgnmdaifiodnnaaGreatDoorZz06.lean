/- Part of the proof. Condition: none. -/
import Derived.Test.YtgnmdaifiodnnaaGreatDoorZz04
set_option linter.all false
open Bool renaming true->I
namespace Go.Proofs.YtgnmdaifiodnnaaGreatDoor
set_option maxRecDepth 100000
set_option maxHeartbeats 400000000
noncomputable section
def al0:KF:=by refine (?f:kx 419=?t->KF) ?p;exact λ_=>?t;conv=>lhs;reduce
def O2:ST:=by refine (?f:rx [57020] 419 al0=?t->ST) ?p;exact λ_=>?t;conv=>lhs;reduce
def vU:ST:=by refine (?f:lq O2 0=?t->ST) ?p;exact λ_=>?t;conv=>lhs;reduce
def rY:ST:=by refine (?f:lq O2 4=?t->ST) ?p;exact λ_=>?t;conv=>lhs;reduce;rw[<- vU.eq_1]
def vV:ST:=by refine (?f:lq O2 5=?t->ST) ?p;exact λ_=>?t;conv=>lhs;reduce
def rZ:ST:=by refine (?f:lq O2 9=?t->ST) ?p;exact λ_=>?t;conv=>lhs;reduce;rw[<- vV.eq_1]
def xN:R_ [57020] 419:=⟨_,mZ (r:=O2) (by kernel_rfl) (by conv=>lhs;reduce;rw[<- vU.eq_1,<- rY.eq_1,<- vV.eq_1,<- rZ.eq_1])⟩
def al8:KF:=by refine (?f:kx 491=?t->KF) ?p;exact λ_=>?t;conv=>lhs;reduce
def abS:ST:=by refine (?f:rx [66005] 491 al8=?t->ST) ?p;exact λ_=>?t;conv=>lhs;reduce
def uj:ST:=by refine (?f:lq abS 0=?t->ST) ?p;exact λ_=>?t;conv=>lhs;reduce
def Cd:ST:=by refine (?f:lq abS 1=?t->ST) ?p;exact λ_=>?t;conv=>lhs;reduce
def Dy:R_ [66005] 491:=⟨_,mZ (r:=abS) (by kernel_rfl) (by conv=>lhs;reduce;rw[<- uj.eq_1,<- Cd.eq_1])⟩
def alO:KF:=by refine (?f:kx 228=?t->KF) ?p;exact λ_=>?t;conv=>lhs;reduce
def abN:ST:=by refine (?f:rx [] 228 alO=?t->ST) ?p;exact λ_=>?t;conv=>lhs;reduce
def BV:ST:=by refine (?f:lq abN 0=?t->ST) ?p;exact λ_=>?t;conv=>lhs;reduce
def FM:ST:=by refine (?f:lq abN 1=?t->ST) ?p;exact λ_=>?t;conv=>lhs;reduce;rw[<- BV.eq_1]
def t228:R_ [] 228:=⟨_,mZ (r:=abN) (by kernel_rfl) (by conv=>lhs;reduce;rw[<- BV.eq_1,<- FM.eq_1])⟩
def al6:KF:=by refine (?f:kx 480=?t->KF) ?p;exact λ_=>?t;conv=>lhs;reduce
def O3:ST:=by refine (?f:rx [] 480 al6=?t->ST) ?p;exact λ_=>?t;conv=>lhs;reduce
def B_:ST:=by refine (?f:lq O3 0=?t->ST) ?p;exact λ_=>?t;conv=>lhs;reduce
def Ca:ST:=by refine (?f:lq O3 1=?t->ST) ?p;exact λ_=>?t;conv=>lhs;reduce
def Cb:ST:=by refine (?f:lq O3 2=?t->ST) ?p;exact λ_=>?t;conv=>lhs;reduce
def Cc:ST:=by refine (?f:lq O3 3=?t->ST) ?p;exact λ_=>?t;conv=>lhs;reduce
def RR:R_ [] 480:=⟨_,mZ (r:=O3) (by kernel_rfl) (by conv=>lhs;reduce;rw[<- B_.eq_1,<- Ca.eq_1,<- Cb.eq_1,<- Cc.eq_1])⟩
def n6:ST:=by refine (?f:lp [125001,117002,101001,96002,81001,68001,54001] 467 0=?t->ST) ?p;exact λ_=>?t;conv=>lhs;reduce
def aoz:R_ [125001,117002,101001,96002,81001,68001,54001] 467:=⟨_,by conv=>lhs;reduce;rw[<- n6.eq_1]⟩
def oU:ST:=by refine (?f:lp [] 231 0=?t->ST) ?p;exact λ_=>?t;conv=>lhs;reduce
def t231:R_ [] 231:=⟨_,by conv=>lhs;reduce;rw[<- oU.eq_1]⟩
def r9:ST:=by refine (?f:lp [] 477 0=?t->ST) ?p;exact λ_=>?t;conv=>lhs;reduce
def ae6:R_ [] 477:=⟨_,by conv=>lhs;reduce;rw[<- r9.eq_1]⟩
def l9:ST:=by refine (?f:lp [] 392 0=?t->ST) ?p;exact λ_=>?t;conv=>lhs;reduce
def ai8:R_ [] 392:=⟨_,by conv=>lhs;reduce;rw[<- l9.eq_1]⟩
def BY:ST:=by refine (?f:lp [] 246 0=?t->ST) ?p;exact λ_=>?t;conv=>lhs;reduce
def t246:R_ [] 246:=⟨_,by conv=>lhs;reduce;rw[<- BY.eq_1]⟩
def QX:ST:=by refine (?f:lp [30003] 2 0=?t->ST) ?p;exact λ_=>?t;conv=>lhs;reduce
def t2:R_ [30003] 2:=⟨_,by conv=>lhs;reduce;rw[<- QX.eq_1]⟩
def XE:R_ [] 528:=⟨_,by conv=>lhs;reduce⟩
def oW:ST:=by refine (?f:lp [12003,6003] 280 0=?t->ST) ?p;exact λ_=>?t;conv=>lhs;reduce
def t280:R_ [12003,6003] 280:=⟨_,by conv=>lhs;reduce;rw[<- oW.eq_1]⟩
def XD:R_ [] 526:=⟨_,by conv=>lhs;reduce⟩
def t70:R_ [] 70:=⟨_,by conv=>lhs;reduce⟩
def ahs:ST:=by refine (?f:lp [] 120 0=?t->ST) ?p;exact λ_=>?t;conv=>lhs;reduce
def t120:R_ [] 120:=⟨_,by conv=>lhs;reduce;rw[<- ahs.eq_1]⟩
def Ox:ST:=by refine (?f:lp [] 46 0=?t->ST) ?p;exact λ_=>?t;conv=>lhs;reduce
def t46:R_ [] 46:=⟨_,by conv=>lhs;reduce;rw[<- Ox.eq_1]⟩
def Gj:ST:=by refine (?f:lp [] 518 0=?t->ST) ?p;exact λ_=>?t;conv=>lhs;reduce
def ajx:R_ [] 518:=⟨_,by conv=>lhs;reduce;rw[<- Gj.eq_1]⟩
def Xx:R_ [] 397:=⟨_,by conv=>lhs;reduce⟩
def Lj:ST:=by refine (?f:lp [] 233 0=?t->ST) ?p;exact λ_=>?t;conv=>lhs;reduce
def t233:R_ [] 233:=⟨_,by conv=>lhs;reduce;rw[<- Lj.eq_1]⟩
def adJ:ST:=by refine (?f:lp [] 6 0=?t->ST) ?p;exact λ_=>?t;conv=>lhs;reduce
def t6:R_ [] 6:=⟨_,by conv=>lhs;reduce;rw[<- adJ.eq_1]⟩
def t236:R_ [] 236:=⟨_,by conv=>lhs;reduce⟩
def TD:ST:=by refine (?f:lp [] 82 0=?t->ST) ?p;exact λ_=>?t;conv=>lhs;reduce
def t82:R_ [] 82:=⟨_,by conv=>lhs;reduce;rw[<- TD.eq_1]⟩
def FP:ST:=by refine (?f:lp [] 242 0=?t->ST) ?p;exact λ_=>?t;conv=>lhs;reduce
def t242:R_ [] 242:=⟨_,by conv=>lhs;reduce;rw[<- FP.eq_1]⟩
def t116:R_ [] 116:=⟨_,by conv=>lhs;reduce⟩
def t48:R_ [] 48:=⟨_,by conv=>lhs;reduce⟩
def ajw:R_ [] 516:=⟨_,by conv=>lhs;reduce⟩
def ae3:R_ [] 447:=⟨_,by conv=>lhs;reduce⟩
def t114:R_ [] 114:=⟨_,by conv=>lhs;reduce⟩
def t94:R_ [] 94:=⟨_,by conv=>lhs;reduce⟩
def t316:R_ [] 316:=⟨_,by conv=>lhs;reduce⟩
def aot:R_ [] 413:=⟨_,by conv=>lhs;reduce⟩
def t206:R_ [] 206:=⟨_,by conv=>lhs;reduce⟩
def t312:R_ [] 312:=⟨_,by conv=>lhs;reduce⟩
def aoJ:R_ [] 510:=⟨_,by conv=>lhs;reduce⟩
def t217:R_ [] 217:=⟨_,by conv=>lhs;reduce⟩
def t303:R_ [] 303:=⟨_,by conv=>lhs;reduce⟩
def apa:Bn ((o9.drop 24).take 12)=I:=by kernel_rfl
def akc:Bn ((o9.drop 120).take 12)=I:=by kernel_rfl
def akk:Bn ((o9.drop 216).take 12)=I:=by kernel_rfl
end
noncomputable section
def alZ:KF:=by refine (?f:kx 406=?t->KF) ?p;exact λ_=>?t;conv=>lhs;reduce
def JP:ST:=by refine (?f:rx [] 406 alZ=?t->ST) ?p;exact λ_=>?t;conv=>lhs;reduce
def QY:ST:=by refine (?f:lq JP 0=?t->ST) ?p;exact λ_=>?t;conv=>lhs;reduce
def uf:ST:=by refine (?f:lq JP 1=?t->ST) ?p;exact λ_=>?t;conv=>lhs;reduce
def ug:ST:=by refine (?f:lq JP 2=?t->ST) ?p;exact λ_=>?t;conv=>lhs;reduce
def nF:ST:=by refine (?f:lq JP 3=?t->ST) ?p;exact λ_=>?t;conv=>lhs;reduce;rw[<- uf.eq_1,<- ug.eq_1]
def qa:ST:=by refine (?f:lq JP 4=?t->ST) ?p;exact λ_=>?t;conv=>lhs;reduce
def Ir:R_ [] 406:=⟨_,mZ (r:=JP) (by kernel_rfl) (by conv=>lhs;reduce;rw[<- QY.eq_1,<- uf.eq_1,<- ug.eq_1,<- nF.eq_1,<- qa.eq_1])⟩
def alN:KF:=by refine (?f:kx 225=?t->KF) ?p;exact λ_=>?t;conv=>lhs;reduce
def af1:ST:=by refine (?f:rx [73003,69003,63003,53003] 225 alN=?t->ST) ?p;exact λ_=>?t;conv=>lhs;reduce
def jL:ST:=by refine (?f:lq af1 0=?t->ST) ?p;exact λ_=>?t;conv=>lhs;reduce
def t225:R_ [73003,69003,63003,53003] 225:=⟨_,mZ (r:=af1) (by kernel_rfl) (by conv=>lhs;reduce;rw[<- jL.eq_1])⟩
def ap6:KF:=by refine (?f:kx 97=?t->KF) ?p;exact λ_=>?t;conv=>lhs;reduce
def aok:ST:=by refine (?f:rx [] 97 ap6=?t->ST) ?p;exact λ_=>?t;conv=>lhs;reduce
def uV:ST:=by refine (?f:lq aok 0=?t->ST) ?p;exact λ_=>?t;conv=>lhs;reduce
def t97:R_ [] 97:=⟨_,mZ (r:=aok) (by kernel_rfl) (by conv=>lhs;reduce;rw[<- uV.eq_1])⟩
def alX:KF:=by refine (?f:kx 322=?t->KF) ?p;exact λ_=>?t;conv=>lhs;reduce
def abO:ST:=by refine (?f:rx [] 322 alX=?t->ST) ?p;exact λ_=>?t;conv=>lhs;reduce
def FX:ST:=by refine (?f:lq abO 0=?t->ST) ?p;exact λ_=>?t;conv=>lhs;reduce
def ue:ST:=by refine (?f:lq abO 1=?t->ST) ?p;exact λ_=>?t;conv=>lhs;reduce
def t322:R_ [] 322:=⟨_,mZ (r:=abO) (by kernel_rfl) (by conv=>lhs;reduce;rw[<- FX.eq_1,<- ue.eq_1])⟩
def FZ:ST:=by refine (?f:lp [] 394 0=?t->ST) ?p;exact λ_=>?t;conv=>lhs;reduce
def Mk:R_ [] 394:=⟨_,by conv=>lhs;reduce;rw[<- FZ.eq_1]⟩
def BP:ST:=by refine (?f:lp [] 208 0=?t->ST) ?p;exact λ_=>?t;conv=>lhs;reduce
def t208:R_ [] 208:=⟨_,by conv=>lhs;reduce;rw[<- BP.eq_1]⟩
def lP:ST:=by refine (?f:lp [] 503 0=?t->ST) ?p;exact λ_=>?t;conv=>lhs;reduce
def acm:R_ [] 503:=⟨_,by conv=>lhs;reduce;rw[<- lP.eq_1]⟩
def t55:R_ [] 55:=⟨_,by conv=>lhs;reduce⟩
def n5:ST:=by refine (?f:lp [49003] 283 0=?t->ST) ?p;exact λ_=>?t;conv=>lhs;reduce
def t283:R_ [49003] 283:=⟨_,by conv=>lhs;reduce;rw[<- n5.eq_1]⟩
def t230:R_ [] 230:=⟨_,by conv=>lhs;reduce⟩
def Ly:ST:=by refine (?f:lp [] 274 0=?t->ST) ?p;exact λ_=>?t;conv=>lhs;reduce
def t274:R_ [] 274:=⟨_,by conv=>lhs;reduce;rw[<- Ly.eq_1]⟩
def Gi:ST:=by refine (?f:lp [] 508 0=?t->ST) ?p;exact λ_=>?t;conv=>lhs;reduce
def aoI:R_ [] 508:=⟨_,by conv=>lhs;reduce;rw[<- Gi.eq_1]⟩
def acj:R_ [] 454:=⟨_,by conv=>lhs;reduce⟩
def BW:ST:=by refine (?f:lp [] 229 0=?t->ST) ?p;exact λ_=>?t;conv=>lhs;reduce
def t229:R_ [] 229:=⟨_,by conv=>lhs;reduce;rw[<- BW.eq_1]⟩
def AW:R_ [] 493:=⟨_,by conv=>lhs;reduce⟩
def amf:ST:=by refine (?f:lp [] 51 0=?t->ST) ?p;exact λ_=>?t;conv=>lhs;reduce
def t51:R_ [] 51:=⟨_,by conv=>lhs;reduce;rw[<- amf.eq_1]⟩
def t249:R_ [] 249:=⟨_,by conv=>lhs;reduce⟩
def Gd:ST:=by refine (?f:lp [] 502 0=?t->ST) ?p;exact λ_=>?t;conv=>lhs;reduce
def aoG:R_ [] 502:=⟨_,by conv=>lhs;reduce;rw[<- Gd.eq_1]⟩
def Lu:ST:=by refine (?f:lp [] 264 0=?t->ST) ?p;exact λ_=>?t;conv=>lhs;reduce
def t264:R_ [] 264:=⟨_,by conv=>lhs;reduce;rw[<- Lu.eq_1]⟩
def Ld:ST:=by refine (?f:lp [] 204 0=?t->ST) ?p;exact λ_=>?t;conv=>lhs;reduce
def t204:R_ [] 204:=⟨_,by conv=>lhs;reduce;rw[<- Ld.eq_1]⟩
def Tw:ST:=by refine (?f:lp [] 60 0=?t->ST) ?p;exact λ_=>?t;conv=>lhs;reduce
def t60:R_ [] 60:=⟨_,by conv=>lhs;reduce;rw[<- Tw.eq_1]⟩
def FH:ST:=by refine (?f:lp [] 201 0=?t->ST) ?p;exact λ_=>?t;conv=>lhs;reduce
def t201:R_ [] 201:=⟨_,by conv=>lhs;reduce;rw[<- FH.eq_1]⟩
def FL:ST:=by refine (?f:lp [] 221 0=?t->ST) ?p;exact λ_=>?t;conv=>lhs;reduce
def t221:R_ [] 221:=⟨_,by conv=>lhs;reduce;rw[<- FL.eq_1]⟩
def t9:R_ [] 9:=⟨_,by conv=>lhs;reduce⟩
def t326:R_ [] 326:=⟨_,by conv=>lhs;reduce⟩
def ajo:R_ [] 486:=⟨_,by conv=>lhs;reduce⟩
def ajy:R_ [] 529:=⟨_,by conv=>lhs;reduce⟩
def aoP:R_ [] 543:=⟨_,by conv=>lhs;reduce⟩
def t52:R_ [] 52:=⟨_,by conv=>lhs;reduce⟩
def t65:R_ [] 65:=⟨_,by conv=>lhs;reduce⟩
def t263:R_ [] 263:=⟨_,by conv=>lhs;reduce⟩
def t260:R_ [] 260:=⟨_,by conv=>lhs;reduce⟩
def t268:R_ [] 268:=⟨_,by conv=>lhs;reduce⟩
def t218:R_ [] 218:=⟨_,by conv=>lhs;reduce⟩
def apb:Bn ((o9.drop 36).take 12)=I:=by kernel_rfl
def akd:Bn ((o9.drop 132).take 12)=I:=by kernel_rfl
def akl:Bn ((o9.drop 228).take 12)=I:=by kernel_rfl
end
end Go.Proofs.YtgnmdaifiodnnaaGreatDoor
