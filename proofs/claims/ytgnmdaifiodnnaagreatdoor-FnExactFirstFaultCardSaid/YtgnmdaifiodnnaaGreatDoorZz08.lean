/- Part of the proof. Condition: none. -/
import Derived.Test.YtgnmdaifiodnnaaGreatDoorZz04
set_option linter.all false
open Bool renaming true->I
namespace Go.Proofs.YtgnmdaifiodnnaaGreatDoor
set_option maxRecDepth 100000
set_option maxHeartbeats 400000000
noncomputable section
def alW:KF:=by refine (?f:kx 313=?t->KF) ?p;exact λ_=>?t;conv=>lhs;reduce
def aog:ST:=by refine (?f:rx [] 313 alW=?t->ST) ?p;exact λ_=>?t;conv=>lhs;reduce
def t313:R_ [] 313:=⟨_,mZ (r:=aog) (by kernel_rfl) (by conv=>lhs;reduce)⟩
def alS:KF:=by refine (?f:kx 267=?t->KF) ?p;exact λ_=>?t;conv=>lhs;reduce
def af3:ST:=by refine (?f:rx [] 267 alS=?t->ST) ?p;exact λ_=>?t;conv=>lhs;reduce
def FU:ST:=by refine (?f:lq af3 0=?t->ST) ?p;exact λ_=>?t;conv=>lhs;reduce
def t267:R_ [] 267:=⟨_,mZ (r:=af3) (by kernel_rfl) (by conv=>lhs;reduce;rw[<- FU.eq_1])⟩
def al_:KF:=by refine (?f:kx 495=?t->KF) ?p;exact λ_=>?t;conv=>lhs;reduce
def af6:ST:=by refine (?f:rx [] 495 al_=?t->ST) ?p;exact λ_=>?t;conv=>lhs;reduce
def lO:ST:=by refine (?f:lq af6 0=?t->ST) ?p;exact λ_=>?t;conv=>lhs;reduce
def ack:R_ [] 495:=⟨_,mZ (r:=af6) (by kernel_rfl) (by conv=>lhs;reduce;rw[<- lO.eq_1])⟩
def alT:KF:=by refine (?f:kx 282=?t->KF) ?p;exact λ_=>?t;conv=>lhs;reduce
def aof:ST:=by refine (?f:rx [26003,18003,10003] 282 alT=?t->ST) ?p;exact λ_=>?t;conv=>lhs;reduce
def t282:R_ [26003,18003,10003] 282:=⟨_,mZ (r:=aof) (by kernel_rfl) (by conv=>lhs;reduce)⟩
def al3:KF:=by refine (?f:kx 448=?t->KF) ?p;exact λ_=>?t;conv=>lhs;reduce
def abP:ST:=by refine (?f:rx [] 448 al3=?t->ST) ?p;exact λ_=>?t;conv=>lhs;reduce
def vW:ST:=by refine (?f:lq abP 0=?t->ST) ?p;exact λ_=>?t;conv=>lhs;reduce
def qc:ST:=by refine (?f:lq abP 1=?t->ST) ?p;exact λ_=>?t;conv=>lhs;reduce;rw[<- vW.eq_1]
def aou:R_ [] 448:=⟨_,mZ (r:=abP) (by kernel_rfl) (by conv=>lhs;reduce;rw[<- vW.eq_1,<- qc.eq_1])⟩
def t311:R_ [] 311:=⟨_,by conv=>lhs;reduce⟩
def BR:ST:=by refine (?f:lp [] 214 0=?t->ST) ?p;exact λ_=>?t;conv=>lhs;reduce
def BS:ST:=by refine (?f:lp [] 214 1=?t->ST) ?p;exact λ_=>?t;conv=>lhs;reduce
def t214:R_ [] 214:=⟨_,by conv=>lhs;reduce;rw[<- BR.eq_1,<- BS.eq_1]⟩
def Hy:R_ [] 513:=⟨_,by conv=>lhs;reduce⟩
def C0:ST:=by refine (?f:lp [] 81 0=?t->ST) ?p;exact λ_=>?t;conv=>lhs;reduce
def t81:R_ [] 81:=⟨_,by conv=>lhs;reduce;rw[<- C0.eq_1]⟩
def Lh:ST:=by refine (?f:lp [] 215 0=?t->ST) ?p;exact λ_=>?t;conv=>lhs;reduce
def t215:R_ [] 215:=⟨_,by conv=>lhs;reduce;rw[<- Lh.eq_1]⟩
def LG:ST:=by refine (?f:lp [] 417 0=?t->ST) ?p;exact λ_=>?t;conv=>lhs;reduce
def ae0:R_ [] 417:=⟨_,by conv=>lhs;reduce;rw[<- LG.eq_1]⟩
def RQ:R_ [] 458:=⟨_,by conv=>lhs;reduce⟩
def ud:ST:=by refine (?f:lp [6003,12003] 223 0=?t->ST) ?p;exact λ_=>?t;conv=>lhs;reduce
def t223:R_ [6003,12003] 223:=⟨_,by conv=>lhs;reduce;rw[<- ud.eq_1]⟩
def RS:R_ [] 511:=⟨_,by conv=>lhs;reduce⟩
def t321:R_ [] 321:=⟨_,by conv=>lhs;reduce⟩
def Gk:ST:=by refine (?f:lp [35001] 521 0=?t->ST) ?p;exact λ_=>?t;conv=>lhs;reduce
def aoM:R_ [35001] 521:=⟨_,by conv=>lhs;reduce;rw[<- Gk.eq_1]⟩
def amh:ST:=by refine (?f:lp [] 56 0=?t->ST) ?p;exact λ_=>?t;conv=>lhs;reduce
def t56:R_ [] 56:=⟨_,by conv=>lhs;reduce;rw[<- amh.eq_1]⟩
def Gg:ST:=by refine (?f:lp [] 505 0=?t->ST) ?p;exact λ_=>?t;conv=>lhs;reduce
def ajv:R_ [] 505:=⟨_,by conv=>lhs;reduce;rw[<- Gg.eq_1]⟩
def aoy:R_ [] 465:=⟨_,by conv=>lhs;reduce⟩
def adu:ST:=by refine (?f:lp [] 1 0=?t->ST) ?p;exact λ_=>?t;conv=>lhs;reduce
def t1:R_ [] 1:=⟨_,by conv=>lhs;reduce;rw[<- adu.eq_1]⟩
def t53:R_ [] 53:=⟨_,by conv=>lhs;reduce⟩
def ae2:R_ [] 424:=⟨_,by conv=>lhs;reduce⟩
def LF:ST:=by refine (?f:lp [] 317 0=?t->ST) ?p;exact λ_=>?t;conv=>lhs;reduce
def t317:R_ [] 317:=⟨_,by conv=>lhs;reduce;rw[<- LF.eq_1]⟩
def t278:R_ [] 278:=⟨_,by conv=>lhs;reduce⟩
def t275:R_ [] 275:=⟨_,by conv=>lhs;reduce⟩
def t68:R_ [] 68:=⟨_,by conv=>lhs;reduce⟩
def ajs:R_ [] 490:=⟨_,by conv=>lhs;reduce⟩
def t227:R_ [] 227:=⟨_,by conv=>lhs;reduce⟩
def t67:R_ [] 67:=⟨_,by conv=>lhs;reduce⟩
def t250:R_ [] 250:=⟨_,by conv=>lhs;reduce⟩
def t92:R_ [] 92:=⟨_,by conv=>lhs;reduce⟩
def t98:R_ [] 98:=⟨_,by conv=>lhs;reduce⟩
def t238:R_ [] 238:=⟨_,by conv=>lhs;reduce⟩
def aow:R_ [] 457:=⟨_,by conv=>lhs;reduce⟩
def t247:R_ [] 247:=⟨_,by conv=>lhs;reduce⟩
def ape:Bn ((o9.drop 72).take 12)=I:=by kernel_rfl
def akg:Bn ((o9.drop 168).take 12)=I:=by kernel_rfl
def ako:Bn ((o9.drop 264).take 12)=I:=by kernel_rfl
end
noncomputable section
def alM:KF:=by refine (?f:kx 220=?t->KF) ?p;exact λ_=>?t;conv=>lhs;reduce
def Um:ST:=by refine (?f:rx [] 220 alM=?t->ST) ?p;exact λ_=>?t;conv=>lhs;reduce
def FI:ST:=by refine (?f:lq Um 0=?t->ST) ?p;exact λ_=>?t;conv=>lhs;reduce
def jc:ST:=by refine (?f:lq Um 4=?t->ST) ?p;exact λ_=>?t;conv=>lhs;reduce;rw[<- FI.eq_1]
def FJ:ST:=by refine (?f:lq Um 5=?t->ST) ?p;exact λ_=>?t;conv=>lhs;reduce
def t220:R_ [] 220:=⟨_,mZ (r:=Um) (by kernel_rfl) (by conv=>lhs;reduce;rw[<- FI.eq_1,<- jc.eq_1,<- FJ.eq_1])⟩
def al9:KF:=by refine (?f:kx 494=?t->KF) ?p;exact λ_=>?t;conv=>lhs;reduce
def aoi:ST:=by refine (?f:rx [38020] 494 al9=?t->ST) ?p;exact λ_=>?t;conv=>lhs;reduce
def xO:R_ [38020] 494:=⟨_,mZ (r:=aoi) (by kernel_rfl) (by conv=>lhs;reduce)⟩
def amc:KF:=by refine (?f:kx 525=?t->KF) ?p;exact λ_=>?t;conv=>lhs;reduce
def abU:ST:=by refine (?f:rx [111001,104002,73002,55002] 525 amc=?t->ST) ?p;exact λ_=>?t;conv=>lhs;reduce
def Ch:ST:=by refine (?f:lq abU 0=?t->ST) ?p;exact λ_=>?t;conv=>lhs;reduce
def um:ST:=by refine (?f:lq abU 1=?t->ST) ?p;exact λ_=>?t;conv=>lhs;reduce
def sq:R_ [111001,104002,73002,55002] 525:=⟨_,mZ (r:=abU) (by kernel_rfl) (by conv=>lhs;reduce;rw[<- Ch.eq_1,<- um.eq_1])⟩
def al7:KF:=by refine (?f:kx 481=?t->KF) ?p;exact λ_=>?t;conv=>lhs;reduce
def abR:ST:=by refine (?f:rx [] 481 al7=?t->ST) ?p;exact λ_=>?t;conv=>lhs;reduce
def yM:ST:=by refine (?f:lq abR 0=?t->ST) ?p;exact λ_=>?t;conv=>lhs;reduce
def qe:ST:=by refine (?f:lq abR 2=?t->ST) ?p;exact λ_=>?t;conv=>lhs;reduce;rw[<- yM.eq_1]
def ajl:R_ [] 481:=⟨_,mZ (r:=abR) (by kernel_rfl) (by conv=>lhs;reduce;rw[<- yM.eq_1,<- qe.eq_1])⟩
def alR:KF:=by refine (?f:kx 239=?t->KF) ?p;exact λ_=>?t;conv=>lhs;reduce
def aoe:ST:=by refine (?f:rx [] 239 alR=?t->ST) ?p;exact λ_=>?t;conv=>lhs;reduce
def t239:R_ [] 239:=⟨_,mZ (r:=aoe) (by kernel_rfl) (by conv=>lhs;reduce)⟩
def yB:ST:=by refine (?f:lp [] 205 0=?t->ST) ?p;exact λ_=>?t;conv=>lhs;reduce
def BO:ST:=by refine (?f:lp [] 205 1=?t->ST) ?p;exact λ_=>?t;conv=>lhs;reduce;rw[<- yB.eq_1]
def Le:ST:=by refine (?f:lp [] 205 2=?t->ST) ?p;exact λ_=>?t;conv=>lhs;reduce;rw[<- yB.eq_1,<- BO.eq_1]
def t205:R_ [] 205:=⟨_,by conv=>lhs;reduce;rw[<- yB.eq_1,<- BO.eq_1,<- Le.eq_1]⟩
def t119:R_ [] 119:=⟨_,by conv=>lhs;reduce⟩
def Pg:R_ [] 399:=⟨_,by conv=>lhs;reduce⟩
def v7:ST:=by refine (?f:lp [] 489 0=?t->ST) ?p;exact λ_=>?t;conv=>lhs;reduce
def ajr:R_ [] 489:=⟨_,by conv=>lhs;reduce;rw[<- v7.eq_1]⟩
def LI:ST:=by refine (?f:lp [] 474 0=?t->ST) ?p;exact λ_=>?t;conv=>lhs;reduce
def ae5:R_ [] 474:=⟨_,by conv=>lhs;reduce;rw[<- LI.eq_1]⟩
def Lv:ST:=by refine (?f:lp [] 266 0=?t->ST) ?p;exact λ_=>?t;conv=>lhs;reduce
def t266:R_ [] 266:=⟨_,by conv=>lhs;reduce;rw[<- Lv.eq_1]⟩
def BN:ST:=by refine (?f:lp [] 136 0=?t->ST) ?p;exact λ_=>?t;conv=>lhs;reduce
def t136:R_ [] 136:=⟨_,by conv=>lhs;reduce;rw[<- BN.eq_1]⟩
def Lb:ST:=by refine (?f:lp [] 202 0=?t->ST) ?p;exact λ_=>?t;conv=>lhs;reduce
def t202:R_ [] 202:=⟨_,by conv=>lhs;reduce;rw[<- Lb.eq_1]⟩
def B3:ST:=by refine (?f:lp [] 391 0=?t->ST) ?p;exact λ_=>?t;conv=>lhs;reduce
def B4:ST:=by refine (?f:lp [] 391 1=?t->ST) ?p;exact λ_=>?t;conv=>lhs;reduce
def aoq:R_ [] 391:=⟨_,by conv=>lhs;reduce;rw[<- B3.eq_1,<- B4.eq_1]⟩
def BQ:ST:=by refine (?f:lp [] 212 0=?t->ST) ?p;exact λ_=>?t;conv=>lhs;reduce
def Lg:ST:=by refine (?f:lp [] 212 1=?t->ST) ?p;exact λ_=>?t;conv=>lhs;reduce;rw[<- BQ.eq_1]
def t212:R_ [] 212:=⟨_,by conv=>lhs;reduce;rw[<- BQ.eq_1,<- Lg.eq_1]⟩
def TC:ST:=by refine (?f:lp [] 71 0=?t->ST) ?p;exact λ_=>?t;conv=>lhs;reduce
def t71:R_ [] 71:=⟨_,by conv=>lhs;reduce;rw[<- TC.eq_1]⟩
def ahr:ST:=by refine (?f:lp [] 118 0=?t->ST) ?p;exact λ_=>?t;conv=>lhs;reduce
def t118:R_ [] 118:=⟨_,by conv=>lhs;reduce;rw[<- ahr.eq_1]⟩
def ap8:ST:=by refine (?f:lp [] 4 0=?t->ST) ?p;exact λ_=>?t;conv=>lhs;reduce
def t4:R_ [] 4:=⟨_,by conv=>lhs;reduce;rw[<- ap8.eq_1]⟩
def t111:R_ [] 111:=⟨_,by conv=>lhs;reduce⟩
def aoL:R_ [] 519:=⟨_,by conv=>lhs;reduce⟩
def t3:R_ [] 3:=⟨_,by conv=>lhs;reduce⟩
def Tz:ST:=by refine (?f:lp [] 64 0=?t->ST) ?p;exact λ_=>?t;conv=>lhs;reduce
def t64:R_ [] 64:=⟨_,by conv=>lhs;reduce;rw[<- Tz.eq_1]⟩
def Ln:ST:=by refine (?f:lp [] 243 0=?t->ST) ?p;exact λ_=>?t;conv=>lhs;reduce
def t243:R_ [] 243:=⟨_,by conv=>lhs;reduce;rw[<- Ln.eq_1]⟩
def Lo:ST:=by refine (?f:lp [] 255 0=?t->ST) ?p;exact λ_=>?t;conv=>lhs;reduce
def t255:R_ [] 255:=⟨_,by conv=>lhs;reduce;rw[<- Lo.eq_1]⟩
def XB:R_ [] 499:=⟨_,by conv=>lhs;reduce⟩
def ae7:R_ [] 483:=⟨_,by conv=>lhs;reduce⟩
def ajg:R_ [] 462:=⟨_,by conv=>lhs;reduce⟩
def ajc:R_ [] 449:=⟨_,by conv=>lhs;reduce⟩
def t211:R_ [] 211:=⟨_,by conv=>lhs;reduce⟩
def t112:R_ [] 112:=⟨_,by conv=>lhs;reduce⟩
def aja:R_ [] 402:=⟨_,by conv=>lhs;reduce⟩
def ajq:R_ [] 488:=⟨_,by conv=>lhs;reduce⟩
def aoA:R_ [] 468:=⟨_,by conv=>lhs;reduce⟩
def aoD:R_ [] 485:=⟨_,by conv=>lhs;reduce⟩
def t259:R_ [] 259:=⟨_,by conv=>lhs;reduce⟩
def aoO:R_ [] 540:=⟨_,by conv=>lhs;reduce⟩
def t323:R_ [] 323:=⟨_,by conv=>lhs;reduce⟩
def apf:Bn ((o9.drop 84).take 12)=I:=by kernel_rfl
def akh:Bn ((o9.drop 180).take 12)=I:=by kernel_rfl
def akp:Bn ((o9.drop 276).take 12)=I:=by kernel_rfl
end
end Go.Proofs.YtgnmdaifiodnnaaGreatDoor
