/- Part of the proof: a machine over plain data, its proof, the functions of the program run on symbols, what they answer. Condition: none. -/
import Derived.Test.YthlpjklbafakfaaGreatDoorZz04
set_option linter.unusedVariables false
set_option linter.unusedSimpArgs false
open Bool renaming true->I
namespace Go.Proofs.YthlpjklbafakfaaGreatDoor
set_option maxRecDepth 100000
set_option maxHeartbeats 400000000
section
noncomputable section
def ahM:KF:=by refine (?f:kx 419=?t->KF) ?p;exact λ_=>?t;conv=>lhs;reduce
def L5:ST:=by refine (?f:rx [57020] 419 ahM=?t->ST) ?p;exact λ_=>?t;conv=>lhs;reduce
def u5:ST:=by refine (?f:lq L5 0=?t->ST) ?p;exact λ_=>?t;conv=>lhs;reduce
def qQ:ST:=by refine (?f:lq L5 4=?t->ST) ?p;exact λ_=>?t;conv=>lhs;reduce;rw[<- u5.eq_1]
def u7:ST:=by refine (?f:lq L5 5=?t->ST) ?p;exact λ_=>?t;conv=>lhs;reduce
def qR:ST:=by refine (?f:lq L5 9=?t->ST) ?p;exact λ_=>?t;conv=>lhs;reduce;rw[<- u7.eq_1]
def wG:R_ [57020] 419:=⟨_,nU (r:=L5) (by kernel_rfl) (by conv=>lhs;reduce;rw[<- u5.eq_1,<- qQ.eq_1,<- u7.eq_1,<- qR.eq_1])⟩
def ahw:KF:=by refine (?f:kx 225=?t->KF) ?p;exact λ_=>?t;conv=>lhs;reduce
def ab7:ST:=by refine (?f:rx [73003,69003,63003,53003] 225 ahw=?t->ST) ?p;exact λ_=>?t;conv=>lhs;reduce
def jw:ST:=by refine (?f:lq ab7 0=?t->ST) ?p;exact λ_=>?t;conv=>lhs;reduce
def t225:R_ [73003,69003,63003,53003] 225:=⟨_,nU (r:=ab7) (by kernel_rfl) (by conv=>lhs;reduce;rw[<- jw.eq_1])⟩
def ahx:KF:=by refine (?f:kx 228=?t->KF) ?p;exact λ_=>?t;conv=>lhs;reduce
def Xq:ST:=by refine (?f:rx [] 228 ahx=?t->ST) ?p;exact λ_=>?t;conv=>lhs;reduce
def AH:ST:=by refine (?f:lq Xq 0=?t->ST) ?p;exact λ_=>?t;conv=>lhs;reduce
def DM:ST:=by refine (?f:lq Xq 1=?t->ST) ?p;exact λ_=>?t;conv=>lhs;reduce;rw[<- AH.eq_1]
def t228:R_ [] 228:=⟨_,nU (r:=Xq) (by kernel_rfl) (by conv=>lhs;reduce;rw[<- AH.eq_1,<- DM.eq_1])⟩
def nQ:ST:=by refine (?f:lp [44002,29002] 432 0=?t->ST) ?p;exact λ_=>?t;conv=>lhs;reduce
def afq:R_ [44002,29002] 432:=⟨_,by conv=>lhs;reduce;rw[<- nQ.eq_1]⟩
def anu:R_ [] 414:=⟨_,by conv=>lhs;reduce⟩
def Hb:ST:=by refine (?f:lp [] 77 0=?t->ST) ?p;exact λ_=>?t;conv=>lhs;reduce
def t77:R_ [] 77:=⟨_,by conv=>lhs;reduce;rw[<- Hb.eq_1]⟩
def IV:ST:=by refine (?f:lp [] 266 0=?t->ST) ?p;exact λ_=>?t;conv=>lhs;reduce
def t266:R_ [] 266:=⟨_,by conv=>lhs;reduce;rw[<- IV.eq_1]⟩
def t226:R_ [] 226:=⟨_,by conv=>lhs;reduce⟩
def DT:ST:=by refine (?f:lp [] 265 0=?t->ST) ?p;exact λ_=>?t;conv=>lhs;reduce
def t265:R_ [] 265:=⟨_,by conv=>lhs;reduce;rw[<- DT.eq_1]⟩
def aj7:R_ [] 389:=⟨_,by conv=>lhs;reduce⟩
def IZ:ST:=by refine (?f:lp [] 281 0=?t->ST) ?p;exact λ_=>?t;conv=>lhs;reduce
def t281:R_ [] 281:=⟨_,by conv=>lhs;reduce;rw[<- IZ.eq_1]⟩
def ajW:R_ [] 324:=⟨_,by conv=>lhs;reduce⟩
def t236:R_ [] 236:=⟨_,by conv=>lhs;reduce⟩
def IN:ST:=by refine (?f:lp [] 243 0=?t->ST) ?p;exact λ_=>?t;conv=>lhs;reduce
def t243:R_ [] 243:=⟨_,by conv=>lhs;reduce;rw[<- IN.eq_1]⟩
def aj0:R_ [] 328:=⟨_,by conv=>lhs;reduce⟩
def DL:ST:=by refine (?f:lp [] 221 0=?t->ST) ?p;exact λ_=>?t;conv=>lhs;reduce
def t221:R_ [] 221:=⟨_,by conv=>lhs;reduce;rw[<- DL.eq_1]⟩
def afk:R_ [] 343:=⟨_,by conv=>lhs;reduce⟩
def anv:R_ [] 415:=⟨_,by conv=>lhs;reduce⟩
def abl:R_ [] 436:=⟨_,by conv=>lhs;reduce⟩
def abb:R_ [] 331:=⟨_,by conv=>lhs;reduce⟩
def t263:R_ [] 263:=⟨_,by conv=>lhs;reduce⟩
def aka:R_ [] 427:=⟨_,by conv=>lhs;reduce⟩
def t74:R_ [] 74:=⟨_,by conv=>lhs;reduce⟩
def t75:R_ [] 75:=⟨_,by conv=>lhs;reduce⟩
theorem aky:zX ((nY.drop 9).take 9)=I:=by kernel_rfl
theorem akG:zX ((nY.drop 81).take 9)=I:=by kernel_rfl
theorem af8:zX ((nY.drop 153).take 9)=I:=by kernel_rfl
end
end
end Go.Proofs.YthlpjklbafakfaaGreatDoor
