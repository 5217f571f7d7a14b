/- Part of the proof: a machine over plain data, its proof, the functions of the program run on symbols, what they answer. Condition: none. -/
import Derived.Test.YthlpjklbafakfaaGreatDoorZz04
set_option linter.unusedVariables false
set_option linter.unusedSimpArgs false
open Bool renaming true->I
namespace Go.Proofs.YthlpjklbafakfaaGreatDoor
set_option maxRecDepth 100000
set_option maxHeartbeats 400000000
section
noncomputable section
def ahS:KF:=by refine (?f:kx 437=?t->KF) ?p;exact λ_=>?t;conv=>lhs;reduce
def ajC:ST:=by refine (?f:rx [] 437 ahS=?t->ST) ?p;exact λ_=>?t;conv=>lhs;reduce
def JC:R_ [] 437:=⟨_,nU (r:=ajC) (by kernel_rfl) (by conv=>lhs;reduce)⟩
def ahB:KF:=by refine (?f:kx 267=?t->KF) ?p;exact λ_=>?t;conv=>lhs;reduce
def ab9:ST:=by refine (?f:rx [] 267 ahB=?t->ST) ?p;exact λ_=>?t;conv=>lhs;reduce
def DU:ST:=by refine (?f:lq ab9 0=?t->ST) ?p;exact λ_=>?t;conv=>lhs;reduce
def t267:R_ [] 267:=⟨_,nU (r:=ab9) (by kernel_rfl) (by conv=>lhs;reduce;rw[<- DU.eq_1])⟩
def alz:KF:=by refine (?f:kx 80=?t->KF) ?p;exact λ_=>?t;conv=>lhs;reduce
def aaV:ST:=by refine (?f:rx [] 80 alz=?t->ST) ?p;exact λ_=>?t;conv=>lhs;reduce
def D6:ST:=by refine (?f:lq aaV 0=?t->ST) ?p;exact λ_=>?t;conv=>lhs;reduce
def D7:ST:=by refine (?f:lq aaV 1=?t->ST) ?p;exact λ_=>?t;conv=>lhs;reduce
def D8:ST:=by refine (?f:lq aaV 2=?t->ST) ?p;exact λ_=>?t;conv=>lhs;reduce
def t80:R_ [] 80:=⟨_,nU (r:=aaV) (by kernel_rfl) (by conv=>lhs;reduce;rw[<- D6.eq_1,<- D7.eq_1,<- D8.eq_1])⟩
def ahG:KF:=by refine (?f:kx 322=?t->KF) ?p;exact λ_=>?t;conv=>lhs;reduce
def Xr:ST:=by refine (?f:rx [] 322 ahG=?t->ST) ?p;exact λ_=>?t;conv=>lhs;reduce
def DX:ST:=by refine (?f:lq Xr 0=?t->ST) ?p;exact λ_=>?t;conv=>lhs;reduce
def tf:ST:=by refine (?f:lq Xr 1=?t->ST) ?p;exact λ_=>?t;conv=>lhs;reduce
def ajU:R_ [] 322:=⟨_,nU (r:=Xr) (by kernel_rfl) (by conv=>lhs;reduce;rw[<- DX.eq_1,<- tf.eq_1])⟩
def adN:ST:=by refine (?f:lp [] 412 0=?t->ST) ?p;exact λ_=>?t;conv=>lhs;reduce
def ant:R_ [] 412:=⟨_,by conv=>lhs;reduce;rw[<- adN.eq_1]⟩
def AD:ST:=by refine (?f:lp [] 214 0=?t->ST) ?p;exact λ_=>?t;conv=>lhs;reduce
def AE:ST:=by refine (?f:lp [] 214 1=?t->ST) ?p;exact λ_=>?t;conv=>lhs;reduce
def t214:R_ [] 214:=⟨_,by conv=>lhs;reduce;rw[<- AD.eq_1,<- AE.eq_1]⟩
def ank:R_ [] 399:=⟨_,by conv=>lhs;reduce⟩
def Ox:R_ [] 418:=⟨_,by conv=>lhs;reduce⟩
def nP:ST:=by refine (?f:lp [49003] 283 0=?t->ST) ?p;exact λ_=>?t;conv=>lhs;reduce
def t283:R_ [49003] 283:=⟨_,by conv=>lhs;reduce;rw[<- nP.eq_1]⟩
def DW:ST:=by refine (?f:lp [] 320 0=?t->ST) ?p;exact λ_=>?t;conv=>lhs;reduce
def ajS:R_ [] 320:=⟨_,by conv=>lhs;reduce;rw[<- DW.eq_1]⟩
def t245:R_ [] 245:=⟨_,by conv=>lhs;reduce⟩
def AI:ST:=by refine (?f:lp [] 229 0=?t->ST) ?p;exact λ_=>?t;conv=>lhs;reduce
def t229:R_ [] 229:=⟨_,by conv=>lhs;reduce;rw[<- AI.eq_1]⟩
def AB:ST:=by refine (?f:lp [] 212 0=?t->ST) ?p;exact λ_=>?t;conv=>lhs;reduce
def IG:ST:=by refine (?f:lp [] 212 1=?t->ST) ?p;exact λ_=>?t;conv=>lhs;reduce;rw[<- AB.eq_1]
def t212:R_ [] 212:=⟨_,by conv=>lhs;reduce;rw[<- AB.eq_1,<- IG.eq_1]⟩
def I4:ST:=by refine (?f:lp [] 357 0=?t->ST) ?p;exact λ_=>?t;conv=>lhs;reduce
def aj4:R_ [] 357:=⟨_,by conv=>lhs;reduce;rw[<- I4.eq_1]⟩
def IJ:ST:=by refine (?f:lp [] 233 0=?t->ST) ?p;exact λ_=>?t;conv=>lhs;reduce
def t233:R_ [] 233:=⟨_,by conv=>lhs;reduce;rw[<- IJ.eq_1]⟩
def akc:R_ [5004] 429:=⟨_,by conv=>lhs;reduce⟩
def DI:ST:=by refine (?f:lp [] 203 0=?t->ST) ?p;exact λ_=>?t;conv=>lhs;reduce
def t203:R_ [] 203:=⟨_,by conv=>lhs;reduce;rw[<- DI.eq_1]⟩
def IP:ST:=by refine (?f:lp [] 255 0=?t->ST) ?p;exact λ_=>?t;conv=>lhs;reduce
def t255:R_ [] 255:=⟨_,by conv=>lhs;reduce;rw[<- IP.eq_1]⟩
def t216:R_ [] 216:=⟨_,by conv=>lhs;reduce⟩
def ann:R_ [] 405:=⟨_,by conv=>lhs;reduce⟩
def t76:R_ [] 76:=⟨_,by conv=>lhs;reduce⟩
def t277:R_ [] 277:=⟨_,by conv=>lhs;reduce⟩
def abg:R_ [] 402:=⟨_,by conv=>lhs;reduce⟩
def t241:R_ [] 241:=⟨_,by conv=>lhs;reduce⟩
def t209:R_ [] 209:=⟨_,by conv=>lhs;reduce⟩
def t217:R_ [] 217:=⟨_,by conv=>lhs;reduce⟩
theorem akB:zX ((nY.drop 36).take 9)=I:=by kernel_rfl
theorem af3:zX ((nY.drop 108).take 9)=I:=by kernel_rfl
theorem aga:zX ((nY.drop 180).take 9)=I:=by kernel_rfl
end
end
end Go.Proofs.YthlpjklbafakfaaGreatDoor
