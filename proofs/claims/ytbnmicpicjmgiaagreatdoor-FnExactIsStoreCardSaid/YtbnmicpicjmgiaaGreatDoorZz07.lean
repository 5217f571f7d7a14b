/- Part of the proof. Condition: none. -/
import Derived.Test.YtbnmicpicjmgiaaGreatDoorZz04
set_option linter.all false
open Bool renaming true->I
namespace Go.Proofs.YtbnmicpicjmgiaaGreatDoor
set_option maxRecDepth 100000
set_option maxHeartbeats 400000000
noncomputable section
def amJ:KF:=by refine (?f:kx 234=?t->KF) ?p;exact λ_=>?t;conv=>lhs;reduce
def Hf:ST:=by refine (?f:rx [] 234 amJ=?t->ST) ?p;exact λ_=>?t;conv=>lhs;reduce
def vL:ST:=by refine (?f:lq Hf 0=?t->ST) ?p;exact λ_=>?t;conv=>lhs;reduce
def FR:ST:=by refine (?f:lq Hf 1=?t->ST) ?p;exact λ_=>?t;conv=>lhs;reduce;rw[<- vL.eq_1]
def Lt:ST:=by refine (?f:lq Hf 2=?t->ST) ?p;exact λ_=>?t;conv=>lhs;reduce
def Lu:ST:=by refine (?f:lq Hf 3=?t->ST) ?p;exact λ_=>?t;conv=>lhs;reduce
def B2:ST:=by refine (?f:lq Hf 4=?t->ST) ?p;exact λ_=>?t;conv=>lhs;reduce
def oU:ST:=by refine (?f:lq Hf 6=?t->ST) ?p;exact λ_=>?t;conv=>lhs;reduce;rw[<- B2.eq_1]
def t234:R_ [] 234:=⟨_,mO (r:=Hf) (by kernel_rfl) (by conv=>lhs;reduce;rw[<- vL.eq_1,<- FR.eq_1,<- Lt.eq_1,<- Lu.eq_1,<- B2.eq_1,<- oU.eq_1])⟩
def amP:KF:=by refine (?f:kx 308=?t->KF) ?p;exact λ_=>?t;conv=>lhs;reduce
def Pb:ST:=by refine (?f:rx [] 308 amP=?t->ST) ?p;exact λ_=>?t;conv=>lhs;reduce
def B4:ST:=by refine (?f:lq Pb 0=?t->ST) ?p;exact λ_=>?t;conv=>lhs;reduce
def B5:ST:=by refine (?f:lq Pb 1=?t->ST) ?p;exact λ_=>?t;conv=>lhs;reduce
def LL:ST:=by refine (?f:lq Pb 2=?t->ST) ?p;exact λ_=>?t;conv=>lhs;reduce
def vM:ST:=by refine (?f:lq Pb 3=?t->ST) ?p;exact λ_=>?t;conv=>lhs;reduce
def t308:R_ [] 308:=⟨_,mO (r:=Pb) (by kernel_rfl) (by conv=>lhs;reduce;rw[<- B4.eq_1,<- B5.eq_1,<- LL.eq_1,<- vM.eq_1])⟩
def aq7:KF:=by refine (?f:kx 80=?t->KF) ?p;exact λ_=>?t;conv=>lhs;reduce
def afp:ST:=by refine (?f:rx [] 80 aq7=?t->ST) ?p;exact λ_=>?t;conv=>lhs;reduce
def Gw:ST:=by refine (?f:lq afp 0=?t->ST) ?p;exact λ_=>?t;conv=>lhs;reduce
def Gx:ST:=by refine (?f:lq afp 1=?t->ST) ?p;exact λ_=>?t;conv=>lhs;reduce
def Gy:ST:=by refine (?f:lq afp 2=?t->ST) ?p;exact λ_=>?t;conv=>lhs;reduce
def t80:R_ [] 80:=⟨_,mO (r:=afp) (by kernel_rfl) (by conv=>lhs;reduce;rw[<- Gw.eq_1,<- Gx.eq_1,<- Gy.eq_1])⟩
def amZ:KF:=by refine (?f:kx 471=?t->KF) ?p;exact λ_=>?t;conv=>lhs;reduce
def UI:ST:=by refine (?f:rx [41002] 471 amZ=?t->ST) ?p;exact λ_=>?t;conv=>lhs;reduce
def Cd:ST:=by refine (?f:lq UI 0=?t->ST) ?p;exact λ_=>?t;conv=>lhs;reduce
def vT:ST:=by refine (?f:lq UI 1=?t->ST) ?p;exact λ_=>?t;conv=>lhs;reduce
def uh:ST:=by refine (?f:lq UI 2=?t->ST) ?p;exact λ_=>?t;conv=>lhs;reduce;rw[<- vT.eq_1]
def Py:R_ [41002] 471:=⟨_,mO (r:=UI) (by kernel_rfl) (by conv=>lhs;reduce;rw[<- Cd.eq_1,<- vT.eq_1,<- uh.eq_1])⟩
def amK:KF:=by refine (?f:kx 237=?t->KF) ?p;exact λ_=>?t;conv=>lhs;reduce
def agG:ST:=by refine (?f:rx [] 237 amK=?t->ST) ?p;exact λ_=>?t;conv=>lhs;reduce
def FT:ST:=by refine (?f:lq agG 0=?t->ST) ?p;exact λ_=>?t;conv=>lhs;reduce
def t237:R_ [] 237:=⟨_,mO (r:=agG) (by kernel_rfl) (by conv=>lhs;reduce;rw[<- FT.eq_1])⟩
def uj:ST:=by refine (?f:lp [] 507 0=?t->ST) ?p;exact λ_=>?t;conv=>lhs;reduce
def Ck:ST:=by refine (?f:lp [] 507 1=?t->ST) ?p;exact λ_=>?t;conv=>lhs;reduce;rw[<- uj.eq_1]
def LR:ST:=by refine (?f:lp [] 507 2=?t->ST) ?p;exact λ_=>?t;conv=>lhs;reduce;rw[<- uj.eq_1,<- Ck.eq_1]
def Pz:R_ [] 507:=⟨_,by conv=>lhs;reduce;rw[<- uj.eq_1,<- Ck.eq_1,<- LR.eq_1]⟩
def t286:R_ [] 286:=⟨_,by conv=>lhs;reduce⟩
def yP:ST:=by refine (?f:lp [] 520 0=?t->ST) ?p;exact λ_=>?t;conv=>lhs;reduce
def Mu:R_ [] 520:=⟨_,by conv=>lhs;reduce;rw[<- yP.eq_1]⟩
def Gv:ST:=by refine (?f:lp [] 546 0=?t->ST) ?p;exact λ_=>?t;conv=>lhs;reduce
def Iz:R_ [] 546:=⟨_,by conv=>lhs;reduce;rw[<- Gv.eq_1]⟩
def Lp:ST:=by refine (?f:lp [] 215 0=?t->ST) ?p;exact λ_=>?t;conv=>lhs;reduce
def t215:R_ [] 215:=⟨_,by conv=>lhs;reduce;rw[<- Lp.eq_1]⟩
def LF:ST:=by refine (?f:lp [] 266 0=?t->ST) ?p;exact λ_=>?t;conv=>lhs;reduce
def t266:R_ [] 266:=⟨_,by conv=>lhs;reduce;rw[<- LF.eq_1]⟩
def R8:R_ [] 458:=⟨_,by conv=>lhs;reduce⟩
def uc:ST:=by refine (?f:lp [6003,12003] 223 0=?t->ST) ?p;exact λ_=>?t;conv=>lhs;reduce
def t223:R_ [6003,12003] 223:=⟨_,by conv=>lhs;reduce;rw[<- uc.eq_1]⟩
def FX:ST:=by refine (?f:lp [] 265 0=?t->ST) ?p;exact λ_=>?t;conv=>lhs;reduce
def t265:R_ [] 265:=⟨_,by conv=>lhs;reduce;rw[<- FX.eq_1]⟩
def t321:R_ [] 321:=⟨_,by conv=>lhs;reduce⟩
def qP:R_ [] 514:=⟨_,by conv=>lhs;reduce⟩
def ah7:ST:=by refine (?f:lp [] 113 0=?t->ST) ?p;exact λ_=>?t;conv=>lhs;reduce
def t113:R_ [] 113:=⟨_,by conv=>lhs;reduce;rw[<- ah7.eq_1]⟩
def anb:ST:=by refine (?f:lp [] 56 0=?t->ST) ?p;exact λ_=>?t;conv=>lhs;reduce
def t56:R_ [] 56:=⟨_,by conv=>lhs;reduce;rw[<- anb.eq_1]⟩
def LK:ST:=by refine (?f:lp [] 288 0=?t->ST) ?p;exact λ_=>?t;conv=>lhs;reduce
def t288:R_ [] 288:=⟨_,by conv=>lhs;reduce;rw[<- LK.eq_1]⟩
def t324:R_ [] 324:=⟨_,by conv=>lhs;reduce⟩
def Ll:ST:=by refine (?f:lp [] 204 0=?t->ST) ?p;exact λ_=>?t;conv=>lhs;reduce
def t204:R_ [] 204:=⟨_,by conv=>lhs;reduce;rw[<- Ll.eq_1]⟩
def t310:R_ [] 310:=⟨_,by conv=>lhs;reduce⟩
def LC:ST:=by refine (?f:lp [] 262 0=?t->ST) ?p;exact λ_=>?t;conv=>lhs;reduce
def t262:R_ [] 262:=⟨_,by conv=>lhs;reduce;rw[<- LC.eq_1]⟩
def afG:R_ [] 421:=⟨_,by conv=>lhs;reduce⟩
def XX:R_ [] 499:=⟨_,by conv=>lhs;reduce⟩
def t50:R_ [] 50:=⟨_,by conv=>lhs;reduce⟩
def akh:R_ [] 516:=⟨_,by conv=>lhs;reduce⟩
def afO:R_ [] 512:=⟨_,by conv=>lhs;reduce⟩
def t285:R_ [] 285:=⟨_,by conv=>lhs;reduce⟩
def aj9:R_ [] 484:=⟨_,by conv=>lhs;reduce⟩
def t5:R_ [] 5:=⟨_,by conv=>lhs;reduce⟩
def t65:R_ [] 65:=⟨_,by conv=>lhs;reduce⟩
def akf:R_ [] 501:=⟨_,by conv=>lhs;reduce⟩
def apG:R_ [] 468:=⟨_,by conv=>lhs;reduce⟩
def apK:R_ [] 485:=⟨_,by conv=>lhs;reduce⟩
def apX:R_ [] 540:=⟨_,by conv=>lhs;reduce⟩
def t323:R_ [] 323:=⟨_,by conv=>lhs;reduce⟩
def aqm:Bq ((o0.drop 52).take 13)=I:=by kernel_rfl
def akZ:Bq ((o0.drop 156).take 13)=I:=by kernel_rfl
def ak7:Bq ((o0.drop 260).take 13)=I:=by kernel_rfl
end
noncomputable section
def amS:KF:=by refine (?f:kx 395=?t->KF) ?p;exact λ_=>?t;conv=>lhs;reduce
def UH:ST:=by refine (?f:rx [] 395 amS=?t->ST) ?p;exact λ_=>?t;conv=>lhs;reduce
def yE:ST:=by refine (?f:lq UH 0=?t->ST) ?p;exact λ_=>?t;conv=>lhs;reduce
def yF:ST:=by refine (?f:lq UH 1=?t->ST) ?p;exact λ_=>?t;conv=>lhs;reduce
def lI:ST:=by refine (?f:lq UH 4=?t->ST) ?p;exact λ_=>?t;conv=>lhs;reduce;rw[<- yE.eq_1,<- yF.eq_1]
def afE:R_ [] 395:=⟨_,mO (r:=UH) (by kernel_rfl) (by conv=>lhs;reduce;rw[<- yE.eq_1,<- yF.eq_1,<- lI.eq_1])⟩
def amW:KF:=by refine (?f:kx 423=?t->KF) ?p;exact λ_=>?t;conv=>lhs;reduce
def agJ:ST:=by refine (?f:rx [73002] 423 amW=?t->ST) ?p;exact λ_=>?t;conv=>lhs;reduce
def j8:ST:=by refine (?f:lq agJ 0=?t->ST) ?p;exact λ_=>?t;conv=>lhs;reduce
def Pw:R_ [73002] 423:=⟨_,mO (r:=agJ) (by kernel_rfl) (by conv=>lhs;reduce;rw[<- j8.eq_1])⟩
def amY:KF:=by refine (?f:kx 461=?t->KF) ?p;exact λ_=>?t;conv=>lhs;reduce
def acp:ST:=by refine (?f:rx [132001,130001] 461 amY=?t->ST) ?p;exact λ_=>?t;conv=>lhs;reduce
def yH:ST:=by refine (?f:lq acp 0=?t->ST) ?p;exact λ_=>?t;conv=>lhs;reduce
def Cb:ST:=by refine (?f:lq acp 1=?t->ST) ?p;exact λ_=>?t;conv=>lhs;reduce;rw[<- yH.eq_1]
def qO:R_ [132001,130001] 461:=⟨_,mO (r:=acp) (by kernel_rfl) (by conv=>lhs;reduce;rw[<- yH.eq_1,<- Cb.eq_1])⟩
def am6:KF:=by refine (?f:kx 515=?t->KF) ?p;exact λ_=>?t;conv=>lhs;reduce
def acs:ST:=by refine (?f:rx [] 515 am6=?t->ST) ?p;exact λ_=>?t;conv=>lhs;reduce
def yO:ST:=by refine (?f:lq acs 0=?t->ST) ?p;exact λ_=>?t;conv=>lhs;reduce
def Cm:ST:=by refine (?f:lq acs 1=?t->ST) ?p;exact λ_=>?t;conv=>lhs;reduce;rw[<- yO.eq_1]
def A3:R_ [] 515:=⟨_,mO (r:=acs) (by kernel_rfl) (by conv=>lhs;reduce;rw[<- yO.eq_1,<- Cm.eq_1])⟩
def amV:KF:=by refine (?f:kx 422=?t->KF) ?p;exact λ_=>?t;conv=>lhs;reduce
def apl:ST:=by refine (?f:rx [38020] 422 amV=?t->ST) ?p;exact λ_=>?t;conv=>lhs;reduce
def tt:R_ [38020] 422:=⟨_,mO (r:=apl) (by kernel_rfl) (by conv=>lhs;reduce)⟩
def ug:ST:=by refine (?f:lp [] 453 0=?t->ST) ?p;exact λ_=>?t;conv=>lhs;reduce
def Ca:ST:=by refine (?f:lp [] 453 1=?t->ST) ?p;exact λ_=>?t;conv=>lhs;reduce;rw[<- ug.eq_1]
def LP:ST:=by refine (?f:lp [] 453 2=?t->ST) ?p;exact λ_=>?t;conv=>lhs;reduce;rw[<- ug.eq_1,<- Ca.eq_1]
def Px:R_ [] 453:=⟨_,by conv=>lhs;reduce;rw[<- ug.eq_1,<- Ca.eq_1,<- LP.eq_1]⟩
def yC:ST:=by refine (?f:lp [] 240 0=?t->ST) ?p;exact λ_=>?t;conv=>lhs;reduce
def Lv:ST:=by refine (?f:lp [] 240 1=?t->ST) ?p;exact λ_=>?t;conv=>lhs;reduce
def t240:R_ [] 240:=⟨_,by conv=>lhs;reduce;rw[<- yC.eq_1,<- Lv.eq_1]⟩
def t222:R_ [] 222:=⟨_,by conv=>lhs;reduce⟩
def C7:ST:=by refine (?f:lp [] 81 0=?t->ST) ?p;exact λ_=>?t;conv=>lhs;reduce
def t81:R_ [] 81:=⟨_,by conv=>lhs;reduce;rw[<- C7.eq_1]⟩
def LQ:ST:=by refine (?f:lp [] 474 0=?t->ST) ?p;exact λ_=>?t;conv=>lhs;reduce
def afK:R_ [] 474:=⟨_,by conv=>lhs;reduce;rw[<- LQ.eq_1]⟩
def LO:ST:=by refine (?f:lp [] 417 0=?t->ST) ?p;exact λ_=>?t;conv=>lhs;reduce
def afF:R_ [] 417:=⟨_,by conv=>lhs;reduce;rw[<- LO.eq_1]⟩
def BS:ST:=by refine (?f:lp [] 136 0=?t->ST) ?p;exact λ_=>?t;conv=>lhs;reduce
def t136:R_ [] 136:=⟨_,by conv=>lhs;reduce;rw[<- BS.eq_1]⟩
def oV:ST:=by refine (?f:lp [12003,6003] 280 0=?t->ST) ?p;exact λ_=>?t;conv=>lhs;reduce
def t280:R_ [12003,6003] 280:=⟨_,by conv=>lhs;reduce;rw[<- oV.eq_1]⟩
def B1:ST:=by refine (?f:lp [] 229 0=?t->ST) ?p;exact λ_=>?t;conv=>lhs;reduce
def t229:R_ [] 229:=⟨_,by conv=>lhs;reduce;rw[<- B1.eq_1]⟩
def AZ:R_ [] 493:=⟨_,by conv=>lhs;reduce⟩
def vR:ST:=by refine (?f:lp [] 451 0=?t->ST) ?p;exact λ_=>?t;conv=>lhs;reduce
def aj0:R_ [] 451:=⟨_,by conv=>lhs;reduce;rw[<- vR.eq_1]⟩
def LJ:ST:=by refine (?f:lp [] 281 0=?t->ST) ?p;exact λ_=>?t;conv=>lhs;reduce
def t281:R_ [] 281:=⟨_,by conv=>lhs;reduce;rw[<- LJ.eq_1]⟩
def apU:R_ [] 519:=⟨_,by conv=>lhs;reduce⟩
def Lh:ST:=by refine (?f:lp [] 129 0=?t->ST) ?p;exact λ_=>?t;conv=>lhs;reduce
def t129:R_ [] 129:=⟨_,by conv=>lhs;reduce;rw[<- Lh.eq_1]⟩
def Ln:ST:=by refine (?f:lp [] 210 0=?t->ST) ?p;exact λ_=>?t;conv=>lhs;reduce
def t210:R_ [] 210:=⟨_,by conv=>lhs;reduce;rw[<- Ln.eq_1]⟩
def TV:ST:=by refine (?f:lp [] 64 0=?t->ST) ?p;exact λ_=>?t;conv=>lhs;reduce
def t64:R_ [] 64:=⟨_,by conv=>lhs;reduce;rw[<- TV.eq_1]⟩
def afH:R_ [] 424:=⟨_,by conv=>lhs;reduce⟩
def XY:R_ [] 509:=⟨_,by conv=>lhs;reduce⟩
def t116:R_ [] 116:=⟨_,by conv=>lhs;reduce⟩
def t126:R_ [] 126:=⟨_,by conv=>lhs;reduce⟩
def aj2:R_ [] 462:=⟨_,by conv=>lhs;reduce⟩
def t130:R_ [] 130:=⟨_,by conv=>lhs;reduce⟩
def t114:R_ [] 114:=⟨_,by conv=>lhs;reduce⟩
def t128:R_ [] 128:=⟨_,by conv=>lhs;reduce⟩
def t277:R_ [] 277:=⟨_,by conv=>lhs;reduce⟩
def t124:R_ [] 124:=⟨_,by conv=>lhs;reduce⟩
def t263:R_ [] 263:=⟨_,by conv=>lhs;reduce⟩
def apv:R_ [] 396:=⟨_,by conv=>lhs;reduce⟩
def t209:R_ [] 209:=⟨_,by conv=>lhs;reduce⟩
def t74:R_ [] 74:=⟨_,by conv=>lhs;reduce⟩
def t218:R_ [] 218:=⟨_,by conv=>lhs;reduce⟩
def aqn:Bq ((o0.drop 65).take 13)=I:=by kernel_rfl
def ak0:Bq ((o0.drop 169).take 13)=I:=by kernel_rfl
def ak8:Bq ((o0.drop 273).take 13)=I:=by kernel_rfl
end
end Go.Proofs.YtbnmicpicjmgiaaGreatDoor
