/- Part of the proof: a machine over plain data, its proof, the functions of the program run on symbols, what they answer. Condition: none. -/
import Derived.Test.YtgfcijiikgjbcaaGreatDoorZz04
set_option linter.unusedVariables false
set_option linter.unusedSimpArgs false
open Bool renaming true->I
namespace Go.Proofs.YtgfcijiikgjbcaaGreatDoor
set_option maxRecDepth 100000
set_option maxHeartbeats 400000000
section
noncomputable section
def AV:ST:=by refine (?f:lp [] 308 0=?t->ST) ?p;exact λ_=>?t;conv=>lhs;reduce
def AW:ST:=by refine (?f:lp [] 308 1=?t->ST) ?p;exact λ_=>?t;conv=>lhs;reduce
def Jm:ST:=by refine (?f:lp [] 308 2=?t->ST) ?p;exact λ_=>?t;conv=>lhs;reduce
def vn:ST:=by refine (?f:lp [] 308 3=?t->ST) ?p;exact λ_=>?t;conv=>lhs;reduce
def Gq:R_ [] 308:=⟨_,by conv=>lhs;reduce;rw[<- AV.eq_1,<- AW.eq_1,<- Jm.eq_1,<- vn.eq_1]⟩
def Ep:ST:=by refine (?f:lp [] 80 0=?t->ST) ?p;exact λ_=>?t;conv=>lhs;reduce
def Er:ST:=by refine (?f:lp [] 80 1=?t->ST) ?p;exact λ_=>?t;conv=>lhs;reduce
def Es:ST:=by refine (?f:lp [] 80 2=?t->ST) ?p;exact λ_=>?t;conv=>lhs;reduce
def t80:R_ [] 80:=⟨_,by conv=>lhs;reduce;rw[<- Ep.eq_1,<- Er.eq_1,<- Es.eq_1]⟩
def t239:R_ [] 239:=⟨_,by conv=>lhs;reduce⟩
def pa:ST:=by refine (?f:lp [] 347 0=?t->ST) ?p;exact λ_=>?t;conv=>lhs;reduce
def tw:ST:=by refine (?f:lp [] 347 1=?t->ST) ?p;exact λ_=>?t;conv=>lhs;reduce;rw[<- pa.eq_1]
def aa9:R_ [] 347:=⟨_,by conv=>lhs;reduce;rw[<- pa.eq_1,<- tw.eq_1]⟩
def t222:R_ [] 222:=⟨_,by conv=>lhs;reduce⟩
def og:ST:=by refine (?f:lp [49003] 283 0=?t->ST) ?p;exact λ_=>?t;conv=>lhs;reduce
def Tn:R_ [49003] 283:=⟨_,by conv=>lhs;reduce;rw[<- og.eq_1]⟩
def Ec:ST:=by refine (?f:lp [] 244 0=?t->ST) ?p;exact λ_=>?t;conv=>lhs;reduce
def t244:R_ [] 244:=⟨_,by conv=>lhs;reduce;rw[<- Ec.eq_1]⟩
def t226:R_ [] 226:=⟨_,by conv=>lhs;reduce⟩
def Ed:ST:=by refine (?f:lp [] 248 0=?t->ST) ?p;exact λ_=>?t;conv=>lhs;reduce
def t248:R_ [] 248:=⟨_,by conv=>lhs;reduce;rw[<- Ed.eq_1]⟩
def ac0:ST:=by refine (?f:lp [] 120 0=?t->ST) ?p;exact λ_=>?t;conv=>lhs;reduce
def t120:R_ [] 120:=⟨_,by conv=>lhs;reduce;rw[<- ac0.eq_1]⟩
def LR:ST:=by refine (?f:lp [] 46 0=?t->ST) ?p;exact λ_=>?t;conv=>lhs;reduce
def t46:R_ [] 46:=⟨_,by conv=>lhs;reduce;rw[<- LR.eq_1]⟩
def akh:ST:=by refine (?f:lp [] 4 0=?t->ST) ?p;exact λ_=>?t;conv=>lhs;reduce
def t4:R_ [] 4:=⟨_,by conv=>lhs;reduce;rw[<- akh.eq_1]⟩
def Jl:ST:=by refine (?f:lp [] 288 0=?t->ST) ?p;exact λ_=>?t;conv=>lhs;reduce
def aiC:R_ [] 288:=⟨_,by conv=>lhs;reduce;rw[<- Jl.eq_1]⟩
def ZY:ST:=by refine (?f:lp [] 1 0=?t->ST) ?p;exact λ_=>?t;conv=>lhs;reduce
def t1:R_ [] 1:=⟨_,by conv=>lhs;reduce;rw[<- ZY.eq_1]⟩
def I1:ST:=by refine (?f:lp [] 204 0=?t->ST) ?p;exact λ_=>?t;conv=>lhs;reduce
def t204:R_ [] 204:=⟨_,by conv=>lhs;reduce;rw[<- I1.eq_1]⟩
def Ja:ST:=by refine (?f:lp [] 243 0=?t->ST) ?p;exact λ_=>?t;conv=>lhs;reduce
def t243:R_ [] 243:=⟨_,by conv=>lhs;reduce;rw[<- Ja.eq_1]⟩
def D4:ST:=by refine (?f:lp [] 201 0=?t->ST) ?p;exact λ_=>?t;conv=>lhs;reduce
def t201:R_ [] 201:=⟨_,by conv=>lhs;reduce;rw[<- D4.eq_1]⟩
def XM:R_ [] 278:=⟨_,by conv=>lhs;reduce⟩
def aiT:R_ [] 356:=⟨_,by conv=>lhs;reduce⟩
def t114:R_ [] 114:=⟨_,by conv=>lhs;reduce⟩
def t94:R_ [] 94:=⟨_,by conv=>lhs;reduce⟩
def t250:R_ [] 250:=⟨_,by conv=>lhs;reduce⟩
def aiO:R_ [] 327:=⟨_,by conv=>lhs;reduce⟩
def t74:R_ [] 74:=⟨_,by conv=>lhs;reduce⟩
def t218:R_ [] 218:=⟨_,by conv=>lhs;reduce⟩
theorem ajm:UD ((xf.drop 156).take 26)=I:=by kernel_rfl
end
end
end Go.Proofs.YtgfcijiikgjbcaaGreatDoor
