/- Part of the proof. Condition: none. -/
import Derived.Test.YtgnmdaifiodnnaaGreatDoorZz04
set_option linter.all false
open Bool renaming true->I
namespace Go.Proofs.YtgnmdaifiodnnaaGreatDoor
set_option maxRecDepth 100000
set_option maxHeartbeats 400000000
noncomputable section
def alP:KF:=by refine (?f:kx 234=?t->KF) ?p;exact λ_=>?t;conv=>lhs;reduce
def Ha:ST:=by refine (?f:rx [] 234 alP=?t->ST) ?p;exact λ_=>?t;conv=>lhs;reduce
def vS:ST:=by refine (?f:lq Ha 0=?t->ST) ?p;exact λ_=>?t;conv=>lhs;reduce
def FN:ST:=by refine (?f:lq Ha 1=?t->ST) ?p;exact λ_=>?t;conv=>lhs;reduce;rw[<- vS.eq_1]
def Lk:ST:=by refine (?f:lq Ha 2=?t->ST) ?p;exact λ_=>?t;conv=>lhs;reduce
def Ll:ST:=by refine (?f:lq Ha 3=?t->ST) ?p;exact λ_=>?t;conv=>lhs;reduce
def BX:ST:=by refine (?f:lq Ha 4=?t->ST) ?p;exact λ_=>?t;conv=>lhs;reduce
def oV:ST:=by refine (?f:lq Ha 6=?t->ST) ?p;exact λ_=>?t;conv=>lhs;reduce;rw[<- BX.eq_1]
def t234:R_ [] 234:=⟨_,mZ (r:=Ha) (by kernel_rfl) (by conv=>lhs;reduce;rw[<- vS.eq_1,<- FN.eq_1,<- Lk.eq_1,<- Ll.eq_1,<- BX.eq_1,<- oV.eq_1])⟩
def alV:KF:=by refine (?f:kx 308=?t->KF) ?p;exact λ_=>?t;conv=>lhs;reduce
def O1:ST:=by refine (?f:rx [] 308 alV=?t->ST) ?p;exact λ_=>?t;conv=>lhs;reduce
def BZ:ST:=by refine (?f:lq O1 0=?t->ST) ?p;exact λ_=>?t;conv=>lhs;reduce
def B0:ST:=by refine (?f:lq O1 1=?t->ST) ?p;exact λ_=>?t;conv=>lhs;reduce
def LC:ST:=by refine (?f:lq O1 2=?t->ST) ?p;exact λ_=>?t;conv=>lhs;reduce
def vT:ST:=by refine (?f:lq O1 3=?t->ST) ?p;exact λ_=>?t;conv=>lhs;reduce
def t308:R_ [] 308:=⟨_,mZ (r:=O1) (by kernel_rfl) (by conv=>lhs;reduce;rw[<- BZ.eq_1,<- B0.eq_1,<- LC.eq_1,<- vT.eq_1])⟩
def ap4:KF:=by refine (?f:kx 80=?t->KF) ?p;exact λ_=>?t;conv=>lhs;reduce
def aeL:ST:=by refine (?f:rx [] 80 ap4=?t->ST) ?p;exact λ_=>?t;conv=>lhs;reduce
def Gl:ST:=by refine (?f:lq aeL 0=?t->ST) ?p;exact λ_=>?t;conv=>lhs;reduce
def Gn:ST:=by refine (?f:lq aeL 1=?t->ST) ?p;exact λ_=>?t;conv=>lhs;reduce
def Gq:ST:=by refine (?f:lq aeL 2=?t->ST) ?p;exact λ_=>?t;conv=>lhs;reduce
def t80:R_ [] 80:=⟨_,mZ (r:=aeL) (by kernel_rfl) (by conv=>lhs;reduce;rw[<- Gl.eq_1,<- Gn.eq_1,<- Gq.eq_1])⟩
def al5:KF:=by refine (?f:kx 471=?t->KF) ?p;exact λ_=>?t;conv=>lhs;reduce
def Uo:ST:=by refine (?f:rx [41002] 471 al5=?t->ST) ?p;exact λ_=>?t;conv=>lhs;reduce
def B9:ST:=by refine (?f:lq Uo 0=?t->ST) ?p;exact λ_=>?t;conv=>lhs;reduce
def vZ:ST:=by refine (?f:lq Uo 1=?t->ST) ?p;exact λ_=>?t;conv=>lhs;reduce
def ui:ST:=by refine (?f:lq Uo 2=?t->ST) ?p;exact λ_=>?t;conv=>lhs;reduce;rw[<- vZ.eq_1]
def Pk:R_ [41002] 471:=⟨_,mZ (r:=Uo) (by kernel_rfl) (by conv=>lhs;reduce;rw[<- B9.eq_1,<- vZ.eq_1,<- ui.eq_1])⟩
def alQ:KF:=by refine (?f:kx 237=?t->KF) ?p;exact λ_=>?t;conv=>lhs;reduce
def af2:ST:=by refine (?f:rx [] 237 alQ=?t->ST) ?p;exact λ_=>?t;conv=>lhs;reduce
def FO:ST:=by refine (?f:lq af2 0=?t->ST) ?p;exact λ_=>?t;conv=>lhs;reduce
def t237:R_ [] 237:=⟨_,mZ (r:=af2) (by kernel_rfl) (by conv=>lhs;reduce;rw[<- FO.eq_1])⟩
def uk:ST:=by refine (?f:lp [] 507 0=?t->ST) ?p;exact λ_=>?t;conv=>lhs;reduce
def Ce:ST:=by refine (?f:lp [] 507 1=?t->ST) ?p;exact λ_=>?t;conv=>lhs;reduce;rw[<- uk.eq_1]
def LJ:ST:=by refine (?f:lp [] 507 2=?t->ST) ?p;exact λ_=>?t;conv=>lhs;reduce;rw[<- uk.eq_1,<- Ce.eq_1]
def Pl:R_ [] 507:=⟨_,by conv=>lhs;reduce;rw[<- uk.eq_1,<- Ce.eq_1,<- LJ.eq_1]⟩
def t286:R_ [] 286:=⟨_,by conv=>lhs;reduce⟩
def yP:ST:=by refine (?f:lp [] 520 0=?t->ST) ?p;exact λ_=>?t;conv=>lhs;reduce
def Mm:R_ [] 520:=⟨_,by conv=>lhs;reduce;rw[<- yP.eq_1]⟩
def yL:ST:=by refine (?f:lp [] 476 0=?t->ST) ?p;exact λ_=>?t;conv=>lhs;reduce
def F9:ST:=by refine (?f:lp [] 476 1=?t->ST) ?p;exact λ_=>?t;conv=>lhs;reduce;rw[<- yL.eq_1]
def ajj:R_ [] 476:=⟨_,by conv=>lhs;reduce;rw[<- yL.eq_1,<- F9.eq_1]⟩
def yG:ST:=by refine (?f:lp [] 420 0=?t->ST) ?p;exact λ_=>?t;conv=>lhs;reduce
def F4:ST:=by refine (?f:lp [] 420 1=?t->ST) ?p;exact λ_=>?t;conv=>lhs;reduce;rw[<- yG.eq_1]
def ajb:R_ [] 420:=⟨_,by conv=>lhs;reduce;rw[<- yG.eq_1,<- F4.eq_1]⟩
def FW:ST:=by refine (?f:lp [] 320 0=?t->ST) ?p;exact λ_=>?t;conv=>lhs;reduce
def t320:R_ [] 320:=⟨_,by conv=>lhs;reduce;rw[<- FW.eq_1]⟩
def B5:ST:=by refine (?f:lp [] 393 0=?t->ST) ?p;exact λ_=>?t;conv=>lhs;reduce
def Pf:R_ [] 393:=⟨_,by conv=>lhs;reduce;rw[<- B5.eq_1]⟩
def t245:R_ [] 245:=⟨_,by conv=>lhs;reduce⟩
def FY:ST:=by refine (?f:lp [] 325 0=?t->ST) ?p;exact λ_=>?t;conv=>lhs;reduce
def t325:R_ [] 325:=⟨_,by conv=>lhs;reduce;rw[<- FY.eq_1]⟩
def yJ:ST:=by refine (?f:lp [] 470 0=?t->ST) ?p;exact λ_=>?t;conv=>lhs;reduce
def aji:R_ [] 470:=⟨_,by conv=>lhs;reduce;rw[<- yJ.eq_1]⟩
def aho:ST:=by refine (?f:lp [] 109 0=?t->ST) ?p;exact λ_=>?t;conv=>lhs;reduce
def t109:R_ [] 109:=⟨_,by conv=>lhs;reduce;rw[<- aho.eq_1]⟩
def t47:R_ [] 47:=⟨_,by conv=>lhs;reduce⟩
def K_:ST:=by refine (?f:lp [] 110 0=?t->ST) ?p;exact λ_=>?t;conv=>lhs;reduce
def t110:R_ [] 110:=⟨_,by conv=>lhs;reduce;rw[<- K_.eq_1]⟩
def F8:ST:=by refine (?f:lp [] 464 0=?t->ST) ?p;exact λ_=>?t;conv=>lhs;reduce
def ajh:R_ [] 464:=⟨_,by conv=>lhs;reduce;rw[<- F8.eq_1]⟩
def t324:R_ [] 324:=⟨_,by conv=>lhs;reduce⟩
def Lq:ST:=by refine (?f:lp [] 257 0=?t->ST) ?p;exact λ_=>?t;conv=>lhs;reduce
def t257:R_ [] 257:=⟨_,by conv=>lhs;reduce;rw[<- Lq.eq_1]⟩
def Lx:ST:=by refine (?f:lp [] 271 0=?t->ST) ?p;exact λ_=>?t;conv=>lhs;reduce
def t271:R_ [] 271:=⟨_,by conv=>lhs;reduce;rw[<- Lx.eq_1]⟩
def Lc:ST:=by refine (?f:lp [] 203 0=?t->ST) ?p;exact λ_=>?t;conv=>lhs;reduce
def t203:R_ [] 203:=⟨_,by conv=>lhs;reduce;rw[<- Lc.eq_1]⟩
def Lp:ST:=by refine (?f:lp [] 256 0=?t->ST) ?p;exact λ_=>?t;conv=>lhs;reduce
def t256:R_ [] 256:=⟨_,by conv=>lhs;reduce;rw[<- Lp.eq_1]⟩
def t272:R_ [] 272:=⟨_,by conv=>lhs;reduce⟩
def t309:R_ [] 309:=⟨_,by conv=>lhs;reduce⟩
def ae9:R_ [] 512:=⟨_,by conv=>lhs;reduce⟩
def t270:R_ [] 270:=⟨_,by conv=>lhs;reduce⟩
def ajn:R_ [] 484:=⟨_,by conv=>lhs;reduce⟩
def t63:R_ [] 63:=⟨_,by conv=>lhs;reduce⟩
def t59:R_ [] 59:=⟨_,by conv=>lhs;reduce⟩
def aos:R_ [] 400:=⟨_,by conv=>lhs;reduce⟩
def ajm:R_ [] 482:=⟨_,by conv=>lhs;reduce⟩
def t273:R_ [] 273:=⟨_,by conv=>lhs;reduce⟩
def aoK:R_ [] 517:=⟨_,by conv=>lhs;reduce⟩
def apc:Bn ((o9.drop 48).take 12)=I:=by kernel_rfl
def ake:Bn ((o9.drop 144).take 12)=I:=by kernel_rfl
def akm:Bn ((o9.drop 240).take 12)=I:=by kernel_rfl
end
noncomputable section
def alY:KF:=by refine (?f:kx 395=?t->KF) ?p;exact λ_=>?t;conv=>lhs;reduce
def Un:ST:=by refine (?f:rx [] 395 alY=?t->ST) ?p;exact λ_=>?t;conv=>lhs;reduce
def yE:ST:=by refine (?f:lq Un 0=?t->ST) ?p;exact λ_=>?t;conv=>lhs;reduce
def yF:ST:=by refine (?f:lq Un 1=?t->ST) ?p;exact λ_=>?t;conv=>lhs;reduce
def lN:ST:=by refine (?f:lq Un 4=?t->ST) ?p;exact λ_=>?t;conv=>lhs;reduce;rw[<- yE.eq_1,<- yF.eq_1]
def aeZ:R_ [] 395:=⟨_,mZ (r:=Un) (by kernel_rfl) (by conv=>lhs;reduce;rw[<- yE.eq_1,<- yF.eq_1,<- lN.eq_1])⟩
def al2:KF:=by refine (?f:kx 423=?t->KF) ?p;exact λ_=>?t;conv=>lhs;reduce
def af5:ST:=by refine (?f:rx [73002] 423 al2=?t->ST) ?p;exact λ_=>?t;conv=>lhs;reduce
def j7:ST:=by refine (?f:lq af5 0=?t->ST) ?p;exact λ_=>?t;conv=>lhs;reduce
def Ph:R_ [73002] 423:=⟨_,mZ (r:=af5) (by kernel_rfl) (by conv=>lhs;reduce;rw[<- j7.eq_1])⟩
def al4:KF:=by refine (?f:kx 461=?t->KF) ?p;exact λ_=>?t;conv=>lhs;reduce
def abQ:ST:=by refine (?f:rx [132001,130001] 461 al4=?t->ST) ?p;exact λ_=>?t;conv=>lhs;reduce
def yH:ST:=by refine (?f:lq abQ 0=?t->ST) ?p;exact λ_=>?t;conv=>lhs;reduce
def B7:ST:=by refine (?f:lq abQ 1=?t->ST) ?p;exact λ_=>?t;conv=>lhs;reduce;rw[<- yH.eq_1]
def qO:R_ [132001,130001] 461:=⟨_,mZ (r:=abQ) (by kernel_rfl) (by conv=>lhs;reduce;rw[<- yH.eq_1,<- B7.eq_1])⟩
def amb:KF:=by refine (?f:kx 515=?t->KF) ?p;exact λ_=>?t;conv=>lhs;reduce
def abT:ST:=by refine (?f:rx [] 515 amb=?t->ST) ?p;exact λ_=>?t;conv=>lhs;reduce
def yO:ST:=by refine (?f:lq abT 0=?t->ST) ?p;exact λ_=>?t;conv=>lhs;reduce
def Cg:ST:=by refine (?f:lq abT 1=?t->ST) ?p;exact λ_=>?t;conv=>lhs;reduce;rw[<- yO.eq_1]
def AX:R_ [] 515:=⟨_,mZ (r:=abT) (by kernel_rfl) (by conv=>lhs;reduce;rw[<- yO.eq_1,<- Cg.eq_1])⟩
def al1:KF:=by refine (?f:kx 422=?t->KF) ?p;exact λ_=>?t;conv=>lhs;reduce
def aoh:ST:=by refine (?f:rx [38020] 422 al1=?t->ST) ?p;exact λ_=>?t;conv=>lhs;reduce
def tu:R_ [38020] 422:=⟨_,mZ (r:=aoh) (by kernel_rfl) (by conv=>lhs;reduce)⟩
def uh:ST:=by refine (?f:lp [] 453 0=?t->ST) ?p;exact λ_=>?t;conv=>lhs;reduce
def B6:ST:=by refine (?f:lp [] 453 1=?t->ST) ?p;exact λ_=>?t;conv=>lhs;reduce;rw[<- uh.eq_1]
def LH:ST:=by refine (?f:lp [] 453 2=?t->ST) ?p;exact λ_=>?t;conv=>lhs;reduce;rw[<- uh.eq_1,<- B6.eq_1]
def Pj:R_ [] 453:=⟨_,by conv=>lhs;reduce;rw[<- uh.eq_1,<- B6.eq_1,<- LH.eq_1]⟩
def yC:ST:=by refine (?f:lp [] 240 0=?t->ST) ?p;exact λ_=>?t;conv=>lhs;reduce
def Lm:ST:=by refine (?f:lp [] 240 1=?t->ST) ?p;exact λ_=>?t;conv=>lhs;reduce
def t240:R_ [] 240:=⟨_,by conv=>lhs;reduce;rw[<- yC.eq_1,<- Lm.eq_1]⟩
def t222:R_ [] 222:=⟨_,by conv=>lhs;reduce⟩
def vY:ST:=by refine (?f:lp [] 452 0=?t->ST) ?p;exact λ_=>?t;conv=>lhs;reduce
def F6:ST:=by refine (?f:lp [] 452 1=?t->ST) ?p;exact λ_=>?t;conv=>lhs;reduce;rw[<- vY.eq_1]
def ajf:R_ [] 452:=⟨_,by conv=>lhs;reduce;rw[<- vY.eq_1,<- F6.eq_1]⟩
def Jr:ST:=by refine (?f:lp [] 77 0=?t->ST) ?p;exact λ_=>?t;conv=>lhs;reduce
def t77:R_ [] 77:=⟨_,by conv=>lhs;reduce;rw[<- Jr.eq_1]⟩
def CF:R_ [] 522:=⟨_,by conv=>lhs;reduce⟩
def BU:ST:=by refine (?f:lp [] 224 0=?t->ST) ?p;exact λ_=>?t;conv=>lhs;reduce
def t224:R_ [] 224:=⟨_,by conv=>lhs;reduce;rw[<- BU.eq_1]⟩
def LD:ST:=by refine (?f:lp [] 314 0=?t->ST) ?p;exact λ_=>?t;conv=>lhs;reduce
def t314:R_ [] 314:=⟨_,by conv=>lhs;reduce;rw[<- LD.eq_1]⟩
def FT:ST:=by refine (?f:lp [] 265 0=?t->ST) ?p;exact λ_=>?t;conv=>lhs;reduce
def t265:R_ [] 265:=⟨_,by conv=>lhs;reduce;rw[<- FT.eq_1]⟩
def F7:ST:=by refine (?f:lp [] 455 0=?t->ST) ?p;exact λ_=>?t;conv=>lhs;reduce
def aov:R_ [] 455:=⟨_,by conv=>lhs;reduce;rw[<- F7.eq_1]⟩
def FR:ST:=by refine (?f:lp [] 248 0=?t->ST) ?p;exact λ_=>?t;conv=>lhs;reduce
def t248:R_ [] 248:=⟨_,by conv=>lhs;reduce;rw[<- FR.eq_1]⟩
def amd:ST:=by refine (?f:lp [] 10 0=?t->ST) ?p;exact λ_=>?t;conv=>lhs;reduce
def t10:R_ [] 10:=⟨_,by conv=>lhs;reduce;rw[<- amd.eq_1]⟩
def ame:ST:=by refine (?f:lp [] 49 0=?t->ST) ?p;exact λ_=>?t;conv=>lhs;reduce
def t49:R_ [] 49:=⟨_,by conv=>lhs;reduce;rw[<- ame.eq_1]⟩
def La:ST:=by refine (?f:lp [] 137 0=?t->ST) ?p;exact λ_=>?t;conv=>lhs;reduce
def t137:R_ [] 137:=⟨_,by conv=>lhs;reduce;rw[<- La.eq_1]⟩
def TB:ST:=by refine (?f:lp [] 69 0=?t->ST) ?p;exact λ_=>?t;conv=>lhs;reduce
def t69:R_ [] 69:=⟨_,by conv=>lhs;reduce;rw[<- TB.eq_1]⟩
def TA:ST:=by refine (?f:lp [] 66 0=?t->ST) ?p;exact λ_=>?t;conv=>lhs;reduce
def t66:R_ [] 66:=⟨_,by conv=>lhs;reduce;rw[<- TA.eq_1]⟩
def TE:ST:=by refine (?f:lp [] 96 0=?t->ST) ?p;exact λ_=>?t;conv=>lhs;reduce
def t96:R_ [] 96:=⟨_,by conv=>lhs;reduce;rw[<- TE.eq_1]⟩
def OA:ST:=by refine (?f:lp [] 95 0=?t->ST) ?p;exact λ_=>?t;conv=>lhs;reduce
def t95:R_ [] 95:=⟨_,by conv=>lhs;reduce;rw[<- OA.eq_1]⟩
def ai9:R_ [] 398:=⟨_,by conv=>lhs;reduce⟩
def t216:R_ [] 216:=⟨_,by conv=>lhs;reduce⟩
def t207:R_ [] 207:=⟨_,by conv=>lhs;reduce⟩
def t62:R_ [] 62:=⟨_,by conv=>lhs;reduce⟩
def ae4:R_ [] 459:=⟨_,by conv=>lhs;reduce⟩
def ajz:R_ [] 530:=⟨_,by conv=>lhs;reduce⟩
def t213:R_ [] 213:=⟨_,by conv=>lhs;reduce⟩
def t45:R_ [] 45:=⟨_,by conv=>lhs;reduce⟩
def aop:R_ [] 327:=⟨_,by conv=>lhs;reduce⟩
def t39:R_ [] 39:=⟨_,by conv=>lhs;reduce⟩
def t241:R_ [] 241:=⟨_,by conv=>lhs;reduce⟩
def t258:R_ [] 258:=⟨_,by conv=>lhs;reduce⟩
def aoN:R_ [] 527:=⟨_,by conv=>lhs;reduce⟩
def aoC:R_ [] 479:=⟨_,by conv=>lhs;reduce⟩
def apd:Bn ((o9.drop 60).take 12)=I:=by kernel_rfl
def akf:Bn ((o9.drop 156).take 12)=I:=by kernel_rfl
def akn:Bn ((o9.drop 252).take 12)=I:=by kernel_rfl
end
end Go.Proofs.YtgnmdaifiodnnaaGreatDoor
