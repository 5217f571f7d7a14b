/- Part of the proof: a machine over plain data, its proof, the functions of the program run on symbols, what they answer. Condition: none. -/
import Derived.Test.YthlpjklbafakfaaGreatDoorZz04
set_option linter.unusedVariables false
set_option linter.unusedSimpArgs false
open Bool renaming true->I
namespace Go.Proofs.YthlpjklbafakfaaGreatDoor
set_option maxRecDepth 100000
set_option maxHeartbeats 400000000
section
noncomputable section
def ahF:KF:=by refine (?f:kx 313=?t->KF) ?p;exact λ_=>?t;conv=>lhs;reduce
def ajy:ST:=by refine (?f:rx [] 313 ahF=?t->ST) ?p;exact λ_=>?t;conv=>lhs;reduce
def lg:R_ [] 313:=⟨_,nU (r:=ajy) (by kernel_rfl) (by conv=>lhs;reduce)⟩
def ahv:KF:=by refine (?f:kx 220=?t->KF) ?p;exact λ_=>?t;conv=>lhs;reduce
def QN:ST:=by refine (?f:rx [] 220 ahv=?t->ST) ?p;exact λ_=>?t;conv=>lhs;reduce
def DJ:ST:=by refine (?f:lq QN 0=?t->ST) ?p;exact λ_=>?t;conv=>lhs;reduce
def iN:ST:=by refine (?f:lq QN 4=?t->ST) ?p;exact λ_=>?t;conv=>lhs;reduce;rw[<- DJ.eq_1]
def DK:ST:=by refine (?f:lq QN 5=?t->ST) ?p;exact λ_=>?t;conv=>lhs;reduce
def t220:R_ [] 220:=⟨_,nU (r:=QN) (by kernel_rfl) (by conv=>lhs;reduce;rw[<- DJ.eq_1,<- iN.eq_1,<- DK.eq_1])⟩
def ahE:KF:=by refine (?f:kx 308=?t->KF) ?p;exact λ_=>?t;conv=>lhs;reduce
def L4:ST:=by refine (?f:rx [] 308 ahE=?t->ST) ?p;exact λ_=>?t;conv=>lhs;reduce
def AL:ST:=by refine (?f:lq L4 0=?t->ST) ?p;exact λ_=>?t;conv=>lhs;reduce
def AM:ST:=by refine (?f:lq L4 1=?t->ST) ?p;exact λ_=>?t;conv=>lhs;reduce
def I1:ST:=by refine (?f:lq L4 2=?t->ST) ?p;exact λ_=>?t;conv=>lhs;reduce
def uZ:ST:=by refine (?f:lq L4 3=?t->ST) ?p;exact λ_=>?t;conv=>lhs;reduce
def FN:R_ [] 308:=⟨_,nU (r:=L4) (by kernel_rfl) (by conv=>lhs;reduce;rw[<- AL.eq_1,<- AM.eq_1,<- I1.eq_1,<- uZ.eq_1])⟩
def ahJ:KF:=by refine (?f:kx 407=?t->KF) ?p;exact λ_=>?t;conv=>lhs;reduce
def ajz:ST:=by refine (?f:rx [] 407 ahJ=?t->ST) ?p;exact λ_=>?t;conv=>lhs;reduce
def ano:R_ [] 407:=⟨_,nU (r:=ajz) (by kernel_rfl) (by conv=>lhs;reduce)⟩
def ahz:KF:=by refine (?f:kx 237=?t->KF) ?p;exact λ_=>?t;conv=>lhs;reduce
def ab8:ST:=by refine (?f:rx [] 237 ahz=?t->ST) ?p;exact λ_=>?t;conv=>lhs;reduce
def DO:ST:=by refine (?f:lq ab8 0=?t->ST) ?p;exact λ_=>?t;conv=>lhs;reduce
def t237:R_ [] 237:=⟨_,nU (r:=ab8) (by kernel_rfl) (by conv=>lhs;reduce;rw[<- DO.eq_1])⟩
def AA:ST:=by refine (?f:lp [] 208 0=?t->ST) ?p;exact λ_=>?t;conv=>lhs;reduce
def t208:R_ [] 208:=⟨_,by conv=>lhs;reduce;rw[<- AA.eq_1]⟩
def ajL:R_ [] 286:=⟨_,by conv=>lhs;reduce⟩
def BE:ST:=by refine (?f:lp [] 81 0=?t->ST) ?p;exact λ_=>?t;conv=>lhs;reduce
def t81:R_ [] 81:=⟨_,by conv=>lhs;reduce;rw[<- BE.eq_1]⟩
def AK:ST:=by refine (?f:lp [] 246 0=?t->ST) ?p;exact λ_=>?t;conv=>lhs;reduce
def t246:R_ [] 246:=⟨_,by conv=>lhs;reduce;rw[<- AK.eq_1]⟩
def IY:ST:=by refine (?f:lp [] 274 0=?t->ST) ?p;exact λ_=>?t;conv=>lhs;reduce
def t274:R_ [] 274:=⟨_,by conv=>lhs;reduce;rw[<- IY.eq_1]⟩
def I2:ST:=by refine (?f:lp [] 314 0=?t->ST) ?p;exact λ_=>?t;conv=>lhs;reduce
def ajQ:R_ [] 314:=⟨_,by conv=>lhs;reduce;rw[<- I2.eq_1]⟩
def AQ:ST:=by refine (?f:lp [] 391 0=?t->ST) ?p;exact λ_=>?t;conv=>lhs;reduce
def AS:ST:=by refine (?f:lp [] 391 1=?t->ST) ?p;exact λ_=>?t;conv=>lhs;reduce
def afl:R_ [] 391:=⟨_,by conv=>lhs;reduce;rw[<- AQ.eq_1,<- AS.eq_1]⟩
def DF:ST:=by refine (?f:lp [] 100 0=?t->ST) ?p;exact λ_=>?t;conv=>lhs;reduce
def t100:R_ [] 100:=⟨_,by conv=>lhs;reduce;rw[<- DF.eq_1]⟩
def t249:R_ [] 249:=⟨_,by conv=>lhs;reduce⟩
def IU:ST:=by refine (?f:lp [] 264 0=?t->ST) ?p;exact λ_=>?t;conv=>lhs;reduce
def t264:R_ [] 264:=⟨_,by conv=>lhs;reduce;rw[<- IU.eq_1]⟩
def Lt:ST:=by refine (?f:lp [] 79 0=?t->ST) ?p;exact λ_=>?t;conv=>lhs;reduce
def t79:R_ [] 79:=⟨_,by conv=>lhs;reduce;rw[<- Lt.eq_1]⟩
def abj:R_ [] 424:=⟨_,by conv=>lhs;reduce⟩
def abe:R_ [] 398:=⟨_,by conv=>lhs;reduce⟩
def D5:ST:=by refine (?f:lp [] 425 0=?t->ST) ?p;exact λ_=>?t;conv=>lhs;reduce
def aj9:R_ [] 425:=⟨_,by conv=>lhs;reduce;rw[<- D5.eq_1]⟩
def abf:R_ [] 401:=⟨_,by conv=>lhs;reduce⟩
def t270:R_ [] 270:=⟨_,by conv=>lhs;reduce⟩
def akb:R_ [5004] 428:=⟨_,by conv=>lhs;reduce⟩
def afo:R_ [] 413:=⟨_,by conv=>lhs;reduce⟩
def t98:R_ [] 98:=⟨_,by conv=>lhs;reduce⟩
def t103:R_ [] 103:=⟨_,by conv=>lhs;reduce⟩
def t218:R_ [] 218:=⟨_,by conv=>lhs;reduce⟩
theorem akE:zX ((nY.drop 63).take 9)=I:=by kernel_rfl
theorem af6:zX ((nY.drop 135).take 9)=I:=by kernel_rfl
theorem agd:zX ((nY.drop 207).take 9)=I:=by kernel_rfl
end
end
end Go.Proofs.YthlpjklbafakfaaGreatDoor
