/- Part of the proof: a machine over plain data, its proof, the functions of the program run on symbols, what they answer. Condition: none. -/
import Derived.Test.YtgfcijiikgjbcaaGreatDoorZz04
set_option linter.unusedVariables false
set_option linter.unusedSimpArgs false
open Bool renaming true->I
namespace Go.Proofs.YtgfcijiikgjbcaaGreatDoor
set_option maxRecDepth 100000
set_option maxHeartbeats 400000000
section
noncomputable section
def jv:ST:=by refine (?f:lp [73003,69003,63003,53003] 225 0=?t->ST) ?p;exact λ_=>?t;conv=>lhs;reduce
def t225:R_ [73003,69003,63003,53003] 225:=⟨_,by conv=>lhs;reduce;rw[<- jv.eq_1]⟩
def xP:ST:=by refine (?f:lp [59003] 362 0=?t->ST) ?p;exact λ_=>?t;conv=>lhs;reduce
def aiV:R_ [59003] 362:=⟨_,by conv=>lhs;reduce;rw[<- xP.eq_1]⟩
def Ea:ST:=by refine (?f:lp [] 237 0=?t->ST) ?p;exact λ_=>?t;conv=>lhs;reduce
def t237:R_ [] 237:=⟨_,by conv=>lhs;reduce;rw[<- Ea.eq_1]⟩
def MN:R_ [] 360:=⟨_,by conv=>lhs;reduce⟩
def Eo:ST:=by refine (?f:lp [39003,96001,65001] 363 0=?t->ST) ?p;exact λ_=>?t;conv=>lhs;reduce
def O6:R_ [39003,96001,65001] 363:=⟨_,by conv=>lhs;reduce;rw[<- Eo.eq_1]⟩
def AU:ST:=by refine (?f:lp [] 246 0=?t->ST) ?p;exact λ_=>?t;conv=>lhs;reduce
def t246:R_ [] 246:=⟨_,by conv=>lhs;reduce;rw[<- AU.eq_1]⟩
def A3:ST:=by refine (?f:lp [42003] 350 0=?t->ST) ?p;exact λ_=>?t;conv=>lhs;reduce
def Jq:ST:=by refine (?f:lp [42003] 350 1=?t->ST) ?p;exact λ_=>?t;conv=>lhs;reduce;rw[<- A3.eq_1]
def aiS:R_ [42003] 350:=⟨_,by conv=>lhs;reduce;rw[<- A3.eq_1,<- Jq.eq_1]⟩
def Ef:ST:=by refine (?f:lp [] 265 0=?t->ST) ?p;exact λ_=>?t;conv=>lhs;reduce
def t265:R_ [] 265:=⟨_,by conv=>lhs;reduce;rw[<- Ef.eq_1]⟩
def Qw:ST:=by refine (?f:lp [] 71 0=?t->ST) ?p;exact λ_=>?t;conv=>lhs;reduce
def t71:R_ [] 71:=⟨_,by conv=>lhs;reduce;rw[<- Qw.eq_1]⟩
def acW:ST:=by refine (?f:lp [] 109 0=?t->ST) ?p;exact λ_=>?t;conv=>lhs;reduce
def t109:R_ [] 109:=⟨_,by conv=>lhs;reduce;rw[<- acW.eq_1]⟩
def abb:R_ [] 355:=⟨_,by conv=>lhs;reduce⟩
def IZ:ST:=by refine (?f:lp [] 110 0=?t->ST) ?p;exact λ_=>?t;conv=>lhs;reduce
def t110:R_ [] 110:=⟨_,by conv=>lhs;reduce;rw[<- IZ.eq_1]⟩
def Qv:ST:=by refine (?f:lp [] 69 0=?t->ST) ?p;exact λ_=>?t;conv=>lhs;reduce
def t69:R_ [] 69:=⟨_,by conv=>lhs;reduce;rw[<- Qv.eq_1]⟩
def Jf:ST:=by refine (?f:lp [] 264 0=?t->ST) ?p;exact λ_=>?t;conv=>lhs;reduce
def t264:R_ [] 264:=⟨_,by conv=>lhs;reduce;rw[<- Jf.eq_1]⟩
def LS:ST:=by refine (?f:lp [] 79 0=?t->ST) ?p;exact λ_=>?t;conv=>lhs;reduce
def t79:R_ [] 79:=⟨_,by conv=>lhs;reduce;rw[<- LS.eq_1]⟩
def LU:ST:=by refine (?f:lp [] 95 0=?t->ST) ?p;exact λ_=>?t;conv=>lhs;reduce
def t95:R_ [] 95:=⟨_,by conv=>lhs;reduce;rw[<- LU.eq_1]⟩
def Jo:ST:=by refine (?f:lp [] 317 0=?t->ST) ?p;exact λ_=>?t;conv=>lhs;reduce
def aiG:R_ [] 317:=⟨_,by conv=>lhs;reduce;rw[<- Jo.eq_1]⟩
def t9:R_ [] 9:=⟨_,by conv=>lhs;reduce⟩
def XL:R_ [] 275:=⟨_,by conv=>lhs;reduce⟩
def aiN:R_ [] 326:=⟨_,by conv=>lhs;reduce⟩
def t67:R_ [] 67:=⟨_,by conv=>lhs;reduce⟩
def t45:R_ [] 45:=⟨_,by conv=>lhs;reduce⟩
def t238:R_ [] 238:=⟨_,by conv=>lhs;reduce⟩
def t209:R_ [] 209:=⟨_,by conv=>lhs;reduce⟩
def t75:R_ [] 75:=⟨_,by conv=>lhs;reduce⟩
theorem ajn:UD ((xf.drop 182).take 26)=I:=by kernel_rfl
end
end
end Go.Proofs.YtgfcijiikgjbcaaGreatDoor
