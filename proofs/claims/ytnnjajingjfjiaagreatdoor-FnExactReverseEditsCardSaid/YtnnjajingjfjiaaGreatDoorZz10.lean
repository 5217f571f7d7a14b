/- Part of the proof: a machine over plain data, its proof, the functions of the program run on symbols, what they answer. Condition: none. -/
import Derived.Test.YtnnjajingjfjiaaGreatDoorZz04
set_option linter.unusedVariables false
set_option linter.unusedSimpArgs false
open Bool renaming true->I
namespace Go.Proofs.YtnnjajingjfjiaaGreatDoor
set_option maxRecDepth 100000
set_option maxHeartbeats 400000000
section
noncomputable section
def FK:ST:=by refine (?f:lp [] 267 0=?t->ST) ?p;exact λ_=>?t;conv=>lhs;reduce
def t267:R_ [] 267:=⟨_,by conv=>lhs;reduce;rw[<- FK.eq_1]⟩
def FU:ST:=by refine (?f:lp [] 80 0=?t->ST) ?p;exact λ_=>?t;conv=>lhs;reduce
def FV:ST:=by refine (?f:lp [] 80 1=?t->ST) ?p;exact λ_=>?t;conv=>lhs;reduce
def FW:ST:=by refine (?f:lp [] 80 2=?t->ST) ?p;exact λ_=>?t;conv=>lhs;reduce
def t80:R_ [] 80:=⟨_,by conv=>lhs;reduce;rw[<- FU.eq_1,<- FV.eq_1,<- FW.eq_1]⟩
def t239:R_ [] 239:=⟨_,by conv=>lhs;reduce⟩
def pG:ST:=by refine (?f:lp [] 347 0=?t->ST) ?p;exact λ_=>?t;conv=>lhs;reduce
def uI:ST:=by refine (?f:lp [] 347 1=?t->ST) ?p;exact λ_=>?t;conv=>lhs;reduce;rw[<- pG.eq_1]
def ac7:R_ [] 347:=⟨_,by conv=>lhs;reduce;rw[<- pG.eq_1,<- uI.eq_1]⟩
def t222:R_ [] 222:=⟨_,by conv=>lhs;reduce⟩
def CZ:ST:=by refine (?f:lp [] 81 0=?t->ST) ?p;exact λ_=>?t;conv=>lhs;reduce
def t81:R_ [] 81:=⟨_,by conv=>lhs;reduce;rw[<- CZ.eq_1]⟩
def FM:ST:=by refine (?f:lp [] 320 0=?t->ST) ?p;exact λ_=>?t;conv=>lhs;reduce
def t320:R_ [] 320:=⟨_,by conv=>lhs;reduce;rw[<- FM.eq_1]⟩
def KJ:ST:=by refine (?f:lp [] 202 0=?t->ST) ?p;exact λ_=>?t;conv=>lhs;reduce
def t202:R_ [] 202:=⟨_,by conv=>lhs;reduce;rw[<- KJ.eq_1]⟩
def FJ:ST:=by refine (?f:lp [] 265 0=?t->ST) ?p;exact λ_=>?t;conv=>lhs;reduce
def t265:R_ [] 265:=⟨_,by conv=>lhs;reduce;rw[<- FJ.eq_1]⟩
def KC:ST:=by refine (?f:lp [] 138 0=?t->ST) ?p;exact λ_=>?t;conv=>lhs;reduce
def t138:R_ [] 138:=⟨_,by conv=>lhs;reduce;rw[<- KC.eq_1]⟩
def FI:ST:=by refine (?f:lp [] 248 0=?t->ST) ?p;exact λ_=>?t;conv=>lhs;reduce
def t248:R_ [] 248:=⟨_,by conv=>lhs;reduce;rw[<- FI.eq_1]⟩
def aff:ST:=by refine (?f:lp [] 145 0=?t->ST) ?p;exact λ_=>?t;conv=>lhs;reduce
def t145:R_ [] 145:=⟨_,by conv=>lhs;reduce;rw[<- aff.eq_1]⟩
def afe:ST:=by refine (?f:lp [] 125 0=?t->ST) ?p;exact λ_=>?t;conv=>lhs;reduce
def t125:R_ [] 125:=⟨_,by conv=>lhs;reduce;rw[<- afe.eq_1]⟩
def Ky:ST:=by refine (?f:lp [] 110 0=?t->ST) ?p;exact λ_=>?t;conv=>lhs;reduce
def t110:R_ [] 110:=⟨_,by conv=>lhs;reduce;rw[<- Ky.eq_1]⟩
def Le:ST:=by refine (?f:lp [] 346 0=?t->ST) ?p;exact λ_=>?t;conv=>lhs;reduce
def alH:R_ [] 346:=⟨_,by conv=>lhs;reduce;rw[<- Le.eq_1]⟩
def KU:ST:=by refine (?f:lp [] 233 0=?t->ST) ?p;exact λ_=>?t;conv=>lhs;reduce
def t233:R_ [] 233:=⟨_,by conv=>lhs;reduce;rw[<- KU.eq_1]⟩
def Tn:ST:=by refine (?f:lp [] 32 0=?t->ST) ?p;exact λ_=>?t;conv=>lhs;reduce
def t32:R_ [] 32:=⟨_,by conv=>lhs;reduce;rw[<- Tn.eq_1]⟩
def Tt:ST:=by refine (?f:lp [] 66 0=?t->ST) ?p;exact λ_=>?t;conv=>lhs;reduce
def t66:R_ [] 66:=⟨_,by conv=>lhs;reduce;rw[<- Tt.eq_1]⟩
def Ts:ST:=by refine (?f:lp [] 64 0=?t->ST) ?p;exact λ_=>?t;conv=>lhs;reduce
def t64:R_ [] 64:=⟨_,by conv=>lhs;reduce;rw[<- Ts.eq_1]⟩
def KK:ST:=by refine (?f:lp [] 203 0=?t->ST) ?p;exact λ_=>?t;conv=>lhs;reduce
def t203:R_ [] 203:=⟨_,by conv=>lhs;reduce;rw[<- KK.eq_1]⟩
def FC:ST:=by refine (?f:lp [] 221 0=?t->ST) ?p;exact λ_=>?t;conv=>lhs;reduce
def t221:R_ [] 221:=⟨_,by conv=>lhs;reduce;rw[<- FC.eq_1]⟩
def t9:R_ [] 9:=⟨_,by conv=>lhs;reduce⟩
def ac8:R_ [] 349:=⟨_,by conv=>lhs;reduce⟩
def t62:R_ [] 62:=⟨_,by conv=>lhs;reduce⟩
def t285:R_ [] 285:=⟨_,by conv=>lhs;reduce⟩
def t169:R_ [] 169:=⟨_,by conv=>lhs;reduce⟩
def t45:R_ [] 45:=⟨_,by conv=>lhs;reduce⟩
def t63:R_ [] 63:=⟨_,by conv=>lhs;reduce⟩
def t260:R_ [] 260:=⟨_,by conv=>lhs;reduce⟩
def t217:R_ [] 217:=⟨_,by conv=>lhs;reduce⟩
def t99:R_ [] 99:=⟨_,by conv=>lhs;reduce⟩
theorem amc:Bo ((qq.drop 55).take 11)=I:=by kernel_rfl
theorem ahJ:Bo ((qq.drop 143).take 11)=I:=by kernel_rfl
theorem ahR:Bo ((qq.drop 231).take 11)=I:=by kernel_rfl
end
end
end Go.Proofs.YtnnjajingjfjiaaGreatDoor
