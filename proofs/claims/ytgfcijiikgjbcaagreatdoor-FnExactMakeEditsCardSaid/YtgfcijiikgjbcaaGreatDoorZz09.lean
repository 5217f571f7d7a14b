/- Part of the proof: a machine over plain data, its proof, the functions of the program run on symbols, what they answer. Condition: none. -/
import Derived.Test.YtgfcijiikgjbcaaGreatDoorZz04
set_option linter.unusedVariables false
set_option linter.unusedSimpArgs false
open Bool renaming true->I
namespace Go.Proofs.YtgfcijiikgjbcaaGreatDoor
set_option maxRecDepth 100000
set_option maxHeartbeats 400000000
section
noncomputable section
def Eg:ST:=by refine (?f:lp [] 267 0=?t->ST) ?p;exact λ_=>?t;conv=>lhs;reduce
def t267:R_ [] 267:=⟨_,by conv=>lhs;reduce;rw[<- Eg.eq_1]⟩
def LV:ST:=by refine (?f:lp [] 97 0=?t->ST) ?p;exact λ_=>?t;conv=>lhs;reduce
def t97:R_ [] 97:=⟨_,by conv=>lhs;reduce;rw[<- LV.eq_1]⟩
def kP:ST:=by refine (?f:lp [26019] 93 0=?t->ST) ?p;exact λ_=>?t;conv=>lhs;reduce
def t93:R_ [26019] 93:=⟨_,by conv=>lhs;reduce;rw[<- kP.eq_1]⟩
def Cj:R_ [] 348:=⟨_,by conv=>lhs;reduce⟩
def t55:R_ [] 55:=⟨_,by conv=>lhs;reduce⟩
def Hv:ST:=by refine (?f:lp [] 78 0=?t->ST) ?p;exact λ_=>?t;conv=>lhs;reduce
def t78:R_ [] 78:=⟨_,by conv=>lhs;reduce;rw[<- Hv.eq_1]⟩
def Jj:ST:=by refine (?f:lp [] 274 0=?t->ST) ?p;exact λ_=>?t;conv=>lhs;reduce
def aix:R_ [] 274:=⟨_,by conv=>lhs;reduce;rw[<- Jj.eq_1]⟩
def FC:R_ [] 284:=⟨_,by conv=>lhs;reduce⟩
def AZ:ST:=by refine (?f:lp [] 329 0=?t->ST) ?p;exact λ_=>?t;conv=>lhs;reduce
def aiQ:R_ [] 329:=⟨_,by conv=>lhs;reduce;rw[<- AZ.eq_1]⟩
def acY:ST:=by refine (?f:lp [] 115 0=?t->ST) ?p;exact λ_=>?t;conv=>lhs;reduce
def t115:R_ [] 115:=⟨_,by conv=>lhs;reduce;rw[<- acY.eq_1]⟩
def En:ST:=by refine (?f:lp [] 361 0=?t->ST) ?p;exact λ_=>?t;conv=>lhs;reduce
def abc:R_ [] 361:=⟨_,by conv=>lhs;reduce;rw[<- En.eq_1]⟩
def Jk:ST:=by refine (?f:lp [] 281 0=?t->ST) ?p;exact λ_=>?t;conv=>lhs;reduce
def aiz:R_ [] 281:=⟨_,by conv=>lhs;reduce;rw[<- Jk.eq_1]⟩
def Z8:ST:=by refine (?f:lp [] 2 0=?t->ST) ?p;exact λ_=>?t;conv=>lhs;reduce
def t2:R_ [] 2:=⟨_,by conv=>lhs;reduce;rw[<- Z8.eq_1]⟩
def aae:ST:=by refine (?f:lp [] 6 0=?t->ST) ?p;exact λ_=>?t;conv=>lhs;reduce
def t6:R_ [] 6:=⟨_,by conv=>lhs;reduce;rw[<- aae.eq_1]⟩
def t3:R_ [] 3:=⟨_,by conv=>lhs;reduce⟩
def Qx:ST:=by refine (?f:lp [] 82 0=?t->ST) ?p;exact λ_=>?t;conv=>lhs;reduce
def t82:R_ [] 82:=⟨_,by conv=>lhs;reduce;rw[<- Qx.eq_1]⟩
def Ee:ST:=by refine (?f:lp [] 262 0=?t->ST) ?p;exact λ_=>?t;conv=>lhs;reduce
def t262:R_ [] 262:=⟨_,by conv=>lhs;reduce;rw[<- Ee.eq_1]⟩
def t116:R_ [] 116:=⟨_,by conv=>lhs;reduce⟩
def aiE:R_ [] 309:=⟨_,by conv=>lhs;reduce⟩
def t227:R_ [] 227:=⟨_,by conv=>lhs;reduce⟩
def t112:R_ [] 112:=⟨_,by conv=>lhs;reduce⟩
def t59:R_ [] 59:=⟨_,by conv=>lhs;reduce⟩
def t92:R_ [] 92:=⟨_,by conv=>lhs;reduce⟩
def t259:R_ [] 259:=⟨_,by conv=>lhs;reduce⟩
def t217:R_ [] 217:=⟨_,by conv=>lhs;reduce⟩
theorem ajk:UD ((xf.drop 104).take 26)=I:=by kernel_rfl
end
end
end Go.Proofs.YtgfcijiikgjbcaaGreatDoor
