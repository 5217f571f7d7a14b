/- Part of the proof. Condition: none. -/
import Derived.Test.YtbnmicpicjmgiaaGreatDoorZz04
set_option linter.all false
open Bool renaming true->I
namespace Go.Proofs.YtbnmicpicjmgiaaGreatDoor
set_option maxRecDepth 100000
set_option maxHeartbeats 400000000
noncomputable section
def amQ:KF:=by refine (?f:kx 313=?t->KF) ?p;exact λ_=>?t;conv=>lhs;reduce
def apk:ST:=by refine (?f:rx [] 313 amQ=?t->ST) ?p;exact λ_=>?t;conv=>lhs;reduce
def t313:R_ [] 313:=⟨_,mO (r:=apk) (by kernel_rfl) (by conv=>lhs;reduce)⟩
def amM:KF:=by refine (?f:kx 267=?t->KF) ?p;exact λ_=>?t;conv=>lhs;reduce
def agH:ST:=by refine (?f:rx [] 267 amM=?t->ST) ?p;exact λ_=>?t;conv=>lhs;reduce
def FY:ST:=by refine (?f:lq agH 0=?t->ST) ?p;exact λ_=>?t;conv=>lhs;reduce
def t267:R_ [] 267:=⟨_,mO (r:=agH) (by kernel_rfl) (by conv=>lhs;reduce;rw[<- FY.eq_1])⟩
def am4:KF:=by refine (?f:kx 495=?t->KF) ?p;exact λ_=>?t;conv=>lhs;reduce
def agK:ST:=by refine (?f:rx [] 495 am4=?t->ST) ?p;exact λ_=>?t;conv=>lhs;reduce
def lJ:ST:=by refine (?f:lq agK 0=?t->ST) ?p;exact λ_=>?t;conv=>lhs;reduce
def acU:R_ [] 495:=⟨_,mO (r:=agK) (by kernel_rfl) (by conv=>lhs;reduce;rw[<- lJ.eq_1])⟩
def amN:KF:=by refine (?f:kx 282=?t->KF) ?p;exact λ_=>?t;conv=>lhs;reduce
def apj:ST:=by refine (?f:rx [26003,18003,10003] 282 amN=?t->ST) ?p;exact λ_=>?t;conv=>lhs;reduce
def t282:R_ [26003,18003,10003] 282:=⟨_,mO (r:=apj) (by kernel_rfl) (by conv=>lhs;reduce)⟩
def amX:KF:=by refine (?f:kx 448=?t->KF) ?p;exact λ_=>?t;conv=>lhs;reduce
def aco:ST:=by refine (?f:rx [] 448 amX=?t->ST) ?p;exact λ_=>?t;conv=>lhs;reduce
def vQ:ST:=by refine (?f:lq aco 0=?t->ST) ?p;exact λ_=>?t;conv=>lhs;reduce
def qd:ST:=by refine (?f:lq aco 1=?t->ST) ?p;exact λ_=>?t;conv=>lhs;reduce;rw[<- vQ.eq_1]
def apy:R_ [] 448:=⟨_,mO (r:=aco) (by kernel_rfl) (by conv=>lhs;reduce;rw[<- vQ.eq_1,<- qd.eq_1])⟩
def t311:R_ [] 311:=⟨_,by conv=>lhs;reduce⟩
def BW:ST:=by refine (?f:lp [] 214 0=?t->ST) ?p;exact λ_=>?t;conv=>lhs;reduce
def BX:ST:=by refine (?f:lp [] 214 1=?t->ST) ?p;exact λ_=>?t;conv=>lhs;reduce
def t214:R_ [] 214:=⟨_,by conv=>lhs;reduce;rw[<- BW.eq_1,<- BX.eq_1]⟩
def HC:R_ [] 513:=⟨_,by conv=>lhs;reduce⟩
def vU:ST:=by refine (?f:lp [] 489 0=?t->ST) ?p;exact λ_=>?t;conv=>lhs;reduce
def akc:R_ [] 489:=⟨_,by conv=>lhs;reduce;rw[<- vU.eq_1]⟩
def Gj:ST:=by refine (?f:lp [21003] 497 0=?t->ST) ?p;exact λ_=>?t;conv=>lhs;reduce
def apM:R_ [21003] 497:=⟨_,by conv=>lhs;reduce;rw[<- Gj.eq_1]⟩
def t230:R_ [] 230:=⟨_,by conv=>lhs;reduce⟩
def LI:ST:=by refine (?f:lp [] 274 0=?t->ST) ?p;exact λ_=>?t;conv=>lhs;reduce
def t274:R_ [] 274:=⟨_,by conv=>lhs;reduce;rw[<- LI.eq_1]⟩
def Lj:ST:=by refine (?f:lp [] 202 0=?t->ST) ?p;exact λ_=>?t;conv=>lhs;reduce
def t202:R_ [] 202:=⟨_,by conv=>lhs;reduce;rw[<- Lj.eq_1]⟩
def Sa:R_ [] 511:=⟨_,by conv=>lhs;reduce⟩
def yJ:ST:=by refine (?f:lp [] 470 0=?t->ST) ?p;exact λ_=>?t;conv=>lhs;reduce
def aj4:R_ [] 470:=⟨_,by conv=>lhs;reduce;rw[<- yJ.eq_1]⟩
def FW:ST:=by refine (?f:lp [] 248 0=?t->ST) ?p;exact λ_=>?t;conv=>lhs;reduce
def t248:R_ [] 248:=⟨_,by conv=>lhs;reduce;rw[<- FW.eq_1]⟩
def ah_:ST:=by refine (?f:lp [] 120 0=?t->ST) ?p;exact λ_=>?t;conv=>lhs;reduce
def t120:R_ [] 120:=⟨_,by conv=>lhs;reduce;rw[<- ah_.eq_1]⟩
def t47:R_ [] 47:=⟨_,by conv=>lhs;reduce⟩
def ara:ST:=by refine (?f:lp [] 4 0=?t->ST) ?p;exact λ_=>?t;conv=>lhs;reduce
def t4:R_ [] 4:=⟨_,by conv=>lhs;reduce;rw[<- ara.eq_1]⟩
def t111:R_ [] 111:=⟨_,by conv=>lhs;reduce⟩
def F9:ST:=by refine (?f:lp [] 450 0=?t->ST) ?p;exact λ_=>?t;conv=>lhs;reduce
def ajZ:R_ [] 450:=⟨_,by conv=>lhs;reduce;rw[<- F9.eq_1]⟩
def LG:ST:=by refine (?f:lp [] 269 0=?t->ST) ?p;exact λ_=>?t;conv=>lhs;reduce
def t269:R_ [] 269:=⟨_,by conv=>lhs;reduce;rw[<- LG.eq_1]⟩
def t3:R_ [] 3:=⟨_,by conv=>lhs;reduce⟩
def TT:ST:=by refine (?f:lp [] 60 0=?t->ST) ?p;exact λ_=>?t;conv=>lhs;reduce
def t60:R_ [] 60:=⟨_,by conv=>lhs;reduce;rw[<- TT.eq_1]⟩
def FM:ST:=by refine (?f:lp [] 201 0=?t->ST) ?p;exact λ_=>?t;conv=>lhs;reduce
def t201:R_ [] 201:=⟨_,by conv=>lhs;reduce;rw[<- FM.eq_1]⟩
def ajU:R_ [] 398:=⟨_,by conv=>lhs;reduce⟩
def afM:R_ [] 483:=⟨_,by conv=>lhs;reduce⟩
def t309:R_ [] 309:=⟨_,by conv=>lhs;reduce⟩
def ake:R_ [] 496:=⟨_,by conv=>lhs;reduce⟩
def t211:R_ [] 211:=⟨_,by conv=>lhs;reduce⟩
def t108:R_ [] 108:=⟨_,by conv=>lhs;reduce⟩
def t45:R_ [] 45:=⟨_,by conv=>lhs;reduce⟩
def apx:R_ [] 413:=⟨_,by conv=>lhs;reduce⟩
def apL:R_ [] 492:=⟨_,by conv=>lhs;reduce⟩
def t238:R_ [] 238:=⟨_,by conv=>lhs;reduce⟩
def t268:R_ [] 268:=⟨_,by conv=>lhs;reduce⟩
def apH:R_ [] 473:=⟨_,by conv=>lhs;reduce⟩
def t99:R_ [] 99:=⟨_,by conv=>lhs;reduce⟩
def aqo:Bq ((o0.drop 78).take 13)=I:=by kernel_rfl
def ak1:Bq ((o0.drop 182).take 13)=I:=by kernel_rfl
def ak9:Bq ((o0.drop 286).take 13)=I:=by kernel_rfl
end
noncomputable section
def amG:KF:=by refine (?f:kx 220=?t->KF) ?p;exact λ_=>?t;conv=>lhs;reduce
def UG:ST:=by refine (?f:rx [] 220 amG=?t->ST) ?p;exact λ_=>?t;conv=>lhs;reduce
def FN:ST:=by refine (?f:lq UG 0=?t->ST) ?p;exact λ_=>?t;conv=>lhs;reduce
def jc:ST:=by refine (?f:lq UG 4=?t->ST) ?p;exact λ_=>?t;conv=>lhs;reduce;rw[<- FN.eq_1]
def FO:ST:=by refine (?f:lq UG 5=?t->ST) ?p;exact λ_=>?t;conv=>lhs;reduce
def t220:R_ [] 220:=⟨_,mO (r:=UG) (by kernel_rfl) (by conv=>lhs;reduce;rw[<- FN.eq_1,<- jc.eq_1,<- FO.eq_1])⟩
def am3:KF:=by refine (?f:kx 494=?t->KF) ?p;exact λ_=>?t;conv=>lhs;reduce
def apm:ST:=by refine (?f:rx [38020] 494 am3=?t->ST) ?p;exact λ_=>?t;conv=>lhs;reduce
def xK:R_ [38020] 494:=⟨_,mO (r:=apm) (by kernel_rfl) (by conv=>lhs;reduce)⟩
def am7:KF:=by refine (?f:kx 525=?t->KF) ?p;exact λ_=>?t;conv=>lhs;reduce
def acu:ST:=by refine (?f:rx [111001,104002,73002,55002] 525 am7=?t->ST) ?p;exact λ_=>?t;conv=>lhs;reduce
def Cn:ST:=by refine (?f:lq acu 0=?t->ST) ?p;exact λ_=>?t;conv=>lhs;reduce
def uk:ST:=by refine (?f:lq acu 1=?t->ST) ?p;exact λ_=>?t;conv=>lhs;reduce
def sr:R_ [111001,104002,73002,55002] 525:=⟨_,mO (r:=acu) (by kernel_rfl) (by conv=>lhs;reduce;rw[<- Cn.eq_1,<- uk.eq_1])⟩
def am1:KF:=by refine (?f:kx 481=?t->KF) ?p;exact λ_=>?t;conv=>lhs;reduce
def acq:ST:=by refine (?f:rx [] 481 am1=?t->ST) ?p;exact λ_=>?t;conv=>lhs;reduce
def yM:ST:=by refine (?f:lq acq 0=?t->ST) ?p;exact λ_=>?t;conv=>lhs;reduce
def qf:ST:=by refine (?f:lq acq 2=?t->ST) ?p;exact λ_=>?t;conv=>lhs;reduce;rw[<- yM.eq_1]
def aj7:R_ [] 481:=⟨_,mO (r:=acq) (by kernel_rfl) (by conv=>lhs;reduce;rw[<- yM.eq_1,<- qf.eq_1])⟩
def amL:KF:=by refine (?f:kx 239=?t->KF) ?p;exact λ_=>?t;conv=>lhs;reduce
def api:ST:=by refine (?f:rx [] 239 amL=?t->ST) ?p;exact λ_=>?t;conv=>lhs;reduce
def t239:R_ [] 239:=⟨_,mO (r:=api) (by kernel_rfl) (by conv=>lhs;reduce)⟩
def yB:ST:=by refine (?f:lp [] 205 0=?t->ST) ?p;exact λ_=>?t;conv=>lhs;reduce
def BT:ST:=by refine (?f:lp [] 205 1=?t->ST) ?p;exact λ_=>?t;conv=>lhs;reduce;rw[<- yB.eq_1]
def Lm:ST:=by refine (?f:lp [] 205 2=?t->ST) ?p;exact λ_=>?t;conv=>lhs;reduce;rw[<- yB.eq_1,<- BT.eq_1]
def t205:R_ [] 205:=⟨_,by conv=>lhs;reduce;rw[<- yB.eq_1,<- BT.eq_1,<- Lm.eq_1]⟩
def t119:R_ [] 119:=⟨_,by conv=>lhs;reduce⟩
def Pv:R_ [] 399:=⟨_,by conv=>lhs;reduce⟩
def t55:R_ [] 55:=⟨_,by conv=>lhs;reduce⟩
def nX:ST:=by refine (?f:lp [49003] 283 0=?t->ST) ?p;exact λ_=>?t;conv=>lhs;reduce
def t283:R_ [49003] 283:=⟨_,by conv=>lhs;reduce;rw[<- nX.eq_1]⟩
def Jz:ST:=by refine (?f:lp [] 78 0=?t->ST) ?p;exact λ_=>?t;conv=>lhs;reduce
def t78:R_ [] 78:=⟨_,by conv=>lhs;reduce;rw[<- Jz.eq_1]⟩
def FV:ST:=by refine (?f:lp [] 244 0=?t->ST) ?p;exact λ_=>?t;conv=>lhs;reduce
def t244:R_ [] 244:=⟨_,by conv=>lhs;reduce;rw[<- FV.eq_1]⟩
def LM:ST:=by refine (?f:lp [] 314 0=?t->ST) ?p;exact λ_=>?t;conv=>lhs;reduce
def t314:R_ [] 314:=⟨_,by conv=>lhs;reduce;rw[<- LM.eq_1]⟩
def B8:ST:=by refine (?f:lp [] 391 0=?t->ST) ?p;exact λ_=>?t;conv=>lhs;reduce
def B9:ST:=by refine (?f:lp [] 391 1=?t->ST) ?p;exact λ_=>?t;conv=>lhs;reduce
def apu:R_ [] 391:=⟨_,by conv=>lhs;reduce;rw[<- B8.eq_1,<- B9.eq_1]⟩
def t70:R_ [] 70:=⟨_,by conv=>lhs;reduce⟩
def LB:ST:=by refine (?f:lp [] 261 0=?t->ST) ?p;exact λ_=>?t;conv=>lhs;reduce
def t261:R_ [] 261:=⟨_,by conv=>lhs;reduce;rw[<- LB.eq_1]⟩
def ah9:ST:=by refine (?f:lp [] 118 0=?t->ST) ?p;exact λ_=>?t;conv=>lhs;reduce
def t118:R_ [] 118:=⟨_,by conv=>lhs;reduce;rw[<- ah9.eq_1]⟩
def ana:ST:=by refine (?f:lp [] 54 0=?t->ST) ?p;exact λ_=>?t;conv=>lhs;reduce
def t54:R_ [] 54:=⟨_,by conv=>lhs;reduce;rw[<- ana.eq_1]⟩
def t117:R_ [] 117:=⟨_,by conv=>lhs;reduce⟩
def t146:R_ [] 146:=⟨_,by conv=>lhs;reduce⟩
def Gk:ST:=by refine (?f:lp [] 502 0=?t->ST) ?p;exact λ_=>?t;conv=>lhs;reduce
def apN:R_ [] 502:=⟨_,by conv=>lhs;reduce;rw[<- Gk.eq_1]⟩
def TW:ST:=by refine (?f:lp [] 66 0=?t->ST) ?p;exact λ_=>?t;conv=>lhs;reduce
def t66:R_ [] 66:=⟨_,by conv=>lhs;reduce;rw[<- TW.eq_1]⟩
def T3:ST:=by refine (?f:lp [] 96 0=?t->ST) ?p;exact λ_=>?t;conv=>lhs;reduce
def t96:R_ [] 96:=⟨_,by conv=>lhs;reduce;rw[<- T3.eq_1]⟩
def TZ:ST:=by refine (?f:lp [] 82 0=?t->ST) ?p;exact λ_=>?t;conv=>lhs;reduce
def t82:R_ [] 82:=⟨_,by conv=>lhs;reduce;rw[<- TZ.eq_1]⟩
def Lx:ST:=by refine (?f:lp [] 255 0=?t->ST) ?p;exact λ_=>?t;conv=>lhs;reduce
def t255:R_ [] 255:=⟨_,by conv=>lhs;reduce;rw[<- Lx.eq_1]⟩
def t144:R_ [] 144:=⟨_,by conv=>lhs;reduce⟩
def t48:R_ [] 48:=⟨_,by conv=>lhs;reduce⟩
def afN:R_ [] 504:=⟨_,by conv=>lhs;reduce⟩
def afJ:R_ [] 459:=⟨_,by conv=>lhs;reduce⟩
def t76:R_ [] 76:=⟨_,by conv=>lhs;reduce⟩
def apY:R_ [] 543:=⟨_,by conv=>lhs;reduce⟩
def t219:R_ [] 219:=⟨_,by conv=>lhs;reduce⟩
def ajW:R_ [] 402:=⟨_,by conv=>lhs;reduce⟩
def apw:R_ [] 400:=⟨_,by conv=>lhs;reduce⟩
def apO:R_ [] 506:=⟨_,by conv=>lhs;reduce⟩
def akj:R_ [] 541:=⟨_,by conv=>lhs;reduce⟩
def apD:R_ [] 463:=⟨_,by conv=>lhs;reduce⟩
def apJ:R_ [] 479:=⟨_,by conv=>lhs;reduce⟩
def aqp:Bq ((o0.drop 91).take 13)=I:=by kernel_rfl
def ak2:Bq ((o0.drop 195).take 13)=I:=by kernel_rfl
def ak_:Bq ((o0.drop 299).take 13)=I:=by kernel_rfl
end
end Go.Proofs.YtbnmicpicjmgiaaGreatDoor
