/- Part of the proof: a machine over plain data, its proof, the functions of the program run on symbols, what they answer. Condition: none. -/
import Derived.Test.YthlpjklbafakfaaGreatDoorZz04
set_option linter.unusedVariables false
set_option linter.unusedSimpArgs false
open Bool renaming true->I
namespace Go.Proofs.YthlpjklbafakfaaGreatDoor
set_option maxRecDepth 100000
set_option maxHeartbeats 400000000
section
noncomputable section
def ahK:KF:=by refine (?f:kx 409=?t->KF) ?p;exact λ_=>?t;conv=>lhs;reduce
def aca:ST:=by refine (?f:rx [] 409 ahK=?t->ST) ?p;exact λ_=>?t;conv=>lhs;reduce
def adL:ST:=by refine (?f:lq aca 0=?t->ST) ?p;exact λ_=>?t;conv=>lhs;reduce
def anq:R_ [] 409:=⟨_,nU (r:=aca) (by kernel_rfl) (by conv=>lhs;reduce;rw[<- adL.eq_1])⟩
def ahO:KF:=by refine (?f:kx 423=?t->KF) ?p;exact λ_=>?t;conv=>lhs;reduce
def acb:ST:=by refine (?f:rx [73002] 423 ahO=?t->ST) ?p;exact λ_=>?t;conv=>lhs;reduce
def fI:ST:=by refine (?f:lq acb 0=?t->ST) ?p;exact λ_=>?t;conv=>lhs;reduce
def Md:R_ [73002] 423:=⟨_,nU (r:=acb) (by kernel_rfl) (by conv=>lhs;reduce;rw[<- fI.eq_1])⟩
def alB:KF:=by refine (?f:kx 97=?t->KF) ?p;exact λ_=>?t;conv=>lhs;reduce
def ajE:ST:=by refine (?f:rx [] 97 alB=?t->ST) ?p;exact λ_=>?t;conv=>lhs;reduce
def Lv:ST:=by refine (?f:lq ajE 0=?t->ST) ?p;exact λ_=>?t;conv=>lhs;reduce
def t97:R_ [] 97:=⟨_,nU (r:=ajE) (by kernel_rfl) (by conv=>lhs;reduce;rw[<- Lv.eq_1])⟩
def ahA:KF:=by refine (?f:kx 239=?t->KF) ?p;exact λ_=>?t;conv=>lhs;reduce
def ajw:ST:=by refine (?f:rx [] 239 ahA=?t->ST) ?p;exact λ_=>?t;conv=>lhs;reduce
def t239:R_ [] 239:=⟨_,nU (r:=ajw) (by kernel_rfl) (by conv=>lhs;reduce)⟩
def afi:R_ [] 311:=⟨_,by conv=>lhs;reduce⟩
def adM:ST:=by refine (?f:lp [] 411 0=?t->ST) ?p;exact λ_=>?t;conv=>lhs;reduce
def ans:R_ [] 411:=⟨_,by conv=>lhs;reduce;rw[<- adM.eq_1]⟩
def anr:R_ [] 410:=⟨_,by conv=>lhs;reduce⟩
def xD:ST:=by refine (?f:lp [] 420 0=?t->ST) ?p;exact λ_=>?t;conv=>lhs;reduce
def D4:ST:=by refine (?f:lp [] 420 1=?t->ST) ?p;exact λ_=>?t;conv=>lhs;reduce;rw[<- xD.eq_1]
def afp:R_ [] 420:=⟨_,by conv=>lhs;reduce;rw[<- xD.eq_1,<- D4.eq_1]⟩
def D3:ST:=by refine (?f:lp [] 417 0=?t->ST) ?p;exact λ_=>?t;conv=>lhs;reduce
def abh:R_ [] 417:=⟨_,by conv=>lhs;reduce;rw[<- D3.eq_1]⟩
def oK:ST:=by refine (?f:lp [12003,6003] 280 0=?t->ST) ?p;exact λ_=>?t;conv=>lhs;reduce
def t280:R_ [12003,6003] 280:=⟨_,by conv=>lhs;reduce;rw[<- oK.eq_1]⟩
def DY:ST:=by refine (?f:lp [] 325 0=?t->ST) ?p;exact λ_=>?t;conv=>lhs;reduce
def ajX:R_ [] 325:=⟨_,by conv=>lhs;reduce;rw[<- DY.eq_1]⟩
def AP:ST:=by refine (?f:lp [] 329 0=?t->ST) ?p;exact λ_=>?t;conv=>lhs;reduce
def aj1:R_ [] 329:=⟨_,by conv=>lhs;reduce;rw[<- AP.eq_1]⟩
def D1:ST:=by refine (?f:lp [] 386 0=?t->ST) ?p;exact λ_=>?t;conv=>lhs;reduce
def aj6:R_ [] 386:=⟨_,by conv=>lhs;reduce;rw[<- D1.eq_1]⟩
def II:ST:=by refine (?f:lp [] 232 0=?t->ST) ?p;exact λ_=>?t;conv=>lhs;reduce
def t232:R_ [] 232:=⟨_,by conv=>lhs;reduce;rw[<- II.eq_1]⟩
def Ov:R_ [] 310:=⟨_,by conv=>lhs;reduce⟩
def DH:ST:=by refine (?f:lp [] 201 0=?t->ST) ?p;exact λ_=>?t;conv=>lhs;reduce
def t201:R_ [] 201:=⟨_,by conv=>lhs;reduce;rw[<- DH.eq_1]⟩
def DP:ST:=by refine (?f:lp [] 242 0=?t->ST) ?p;exact λ_=>?t;conv=>lhs;reduce
def t242:R_ [] 242:=⟨_,by conv=>lhs;reduce;rw[<- DP.eq_1]⟩
def t207:R_ [] 207:=⟨_,by conv=>lhs;reduce⟩
def ajP:R_ [] 309:=⟨_,by conv=>lhs;reduce⟩
def t285:R_ [] 285:=⟨_,by conv=>lhs;reduce⟩
def t250:R_ [] 250:=⟨_,by conv=>lhs;reduce⟩
def afj:R_ [] 316:=⟨_,by conv=>lhs;reduce⟩
def XR:R_ [] 312:=⟨_,by conv=>lhs;reduce⟩
def t258:R_ [] 258:=⟨_,by conv=>lhs;reduce⟩
def t259:R_ [] 259:=⟨_,by conv=>lhs;reduce⟩
def t102:R_ [] 102:=⟨_,by conv=>lhs;reduce⟩
theorem akz:zX ((nY.drop 18).take 9)=I:=by kernel_rfl
theorem af1:zX ((nY.drop 90).take 9)=I:=by kernel_rfl
theorem af9:zX ((nY.drop 162).take 9)=I:=by kernel_rfl
end
end
end Go.Proofs.YthlpjklbafakfaaGreatDoor
