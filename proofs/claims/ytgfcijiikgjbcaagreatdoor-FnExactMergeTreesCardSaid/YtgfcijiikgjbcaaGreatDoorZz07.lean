/- Part of the proof: a machine over plain data, its proof, the functions of the program run on symbols, what they answer. Condition: none. -/
import Derived.Test.YtgfcijiikgjbcaaGreatDoorZz04
set_option linter.unusedVariables false
set_option linter.unusedSimpArgs false
open Bool renaming true->I
namespace Go.Proofs.YtgfcijiikgjbcaaGreatDoor
set_option maxRecDepth 100000
set_option maxHeartbeats 400000000
section
noncomputable section
def k9:R_ [] 313:=⟨_,by conv=>lhs;reduce⟩
def uu:R_ [] 354:=⟨_,by conv=>lhs;reduce⟩
def xl:ST:=by refine (?f:lp [] 89 0=?t->ST) ?p;exact λ_=>?t;conv=>lhs;reduce
def Et:ST:=by refine (?f:lp [] 89 1=?t->ST) ?p;exact λ_=>?t;conv=>lhs;reduce;rw[<- xl.eq_1]
def Eu:ST:=by refine (?f:lp [] 89 2=?t->ST) ?p;exact λ_=>?t;conv=>lhs;reduce;rw[<- xl.eq_1,<- Et.eq_1]
def BL:ST:=by refine (?f:lp [] 89 3=?t->ST) ?p;exact λ_=>?t;conv=>lhs;reduce;rw[<- xl.eq_1,<- Et.eq_1,<- Eu.eq_1]
def t89:R_ [] 89:=⟨_,by conv=>lhs;reduce;rw[<- xl.eq_1,<- Et.eq_1,<- Eu.eq_1,<- BL.eq_1]⟩
def AM:ST:=by refine (?f:lp [] 214 0=?t->ST) ?p;exact λ_=>?t;conv=>lhs;reduce
def AN:ST:=by refine (?f:lp [] 214 1=?t->ST) ?p;exact λ_=>?t;conv=>lhs;reduce
def t214:R_ [] 214:=⟨_,by conv=>lhs;reduce;rw[<- AM.eq_1,<- AN.eq_1]⟩
def El:ST:=by refine (?f:lp [45003] 351 0=?t->ST) ?p;exact λ_=>?t;conv=>lhs;reduce
def To:R_ [45003] 351:=⟨_,by conv=>lhs;reduce;rw[<- El.eq_1]⟩
def I5:ST:=by refine (?f:lp [] 215 0=?t->ST) ?p;exact λ_=>?t;conv=>lhs;reduce
def t215:R_ [] 215:=⟨_,by conv=>lhs;reduce;rw[<- I5.eq_1]⟩
def Jn:ST:=by refine (?f:lp [] 314 0=?t->ST) ?p;exact λ_=>?t;conv=>lhs;reduce
def aiF:R_ [] 314:=⟨_,by conv=>lhs;reduce;rw[<- Jn.eq_1]⟩
def o9:ST:=by refine (?f:lp [12003,6003] 280 0=?t->ST) ?p;exact λ_=>?t;conv=>lhs;reduce
def O2:R_ [12003,6003] 280:=⟨_,by conv=>lhs;reduce;rw[<- o9.eq_1]⟩
def aiI:R_ [] 321:=⟨_,by conv=>lhs;reduce⟩
def agH:ST:=by refine (?f:lp [] 12 0=?t->ST) ?p;exact λ_=>?t;conv=>lhs;reduce
def t12:R_ [] 12:=⟨_,by conv=>lhs;reduce;rw[<- agH.eq_1]⟩
def agI:ST:=by refine (?f:lp [] 27 0=?t->ST) ?p;exact λ_=>?t;conv=>lhs;reduce
def t27:R_ [] 27:=⟨_,by conv=>lhs;reduce;rw[<- agI.eq_1]⟩
def t249:R_ [] 249:=⟨_,by conv=>lhs;reduce⟩
def Jh:ST:=by refine (?f:lp [] 269 0=?t->ST) ?p;exact λ_=>?t;conv=>lhs;reduce
def ais:R_ [] 269:=⟨_,by conv=>lhs;reduce;rw[<- Jh.eq_1]⟩
def I3:ST:=by refine (?f:lp [] 210 0=?t->ST) ?p;exact λ_=>?t;conv=>lhs;reduce
def t210:R_ [] 210:=⟨_,by conv=>lhs;reduce;rw[<- I3.eq_1]⟩
def Ji:ST:=by refine (?f:lp [] 271 0=?t->ST) ?p;exact λ_=>?t;conv=>lhs;reduce
def aiu:R_ [] 271:=⟨_,by conv=>lhs;reduce;rw[<- Ji.eq_1]⟩
def Qq:ST:=by refine (?f:lp [] 60 0=?t->ST) ?p;exact λ_=>?t;conv=>lhs;reduce
def t60:R_ [] 60:=⟨_,by conv=>lhs;reduce;rw[<- Qq.eq_1]⟩
def Jc:ST:=by refine (?f:lp [] 256 0=?t->ST) ?p;exact λ_=>?t;conv=>lhs;reduce
def t256:R_ [] 256:=⟨_,by conv=>lhs;reduce;rw[<- Jc.eq_1]⟩
def t48:R_ [] 48:=⟨_,by conv=>lhs;reduce⟩
def t50:R_ [] 50:=⟨_,by conv=>lhs;reduce⟩
def aa8:R_ [] 285:=⟨_,by conv=>lhs;reduce⟩
def t31:R_ [] 31:=⟨_,by conv=>lhs;reduce⟩
def t63:R_ [] 63:=⟨_,by conv=>lhs;reduce⟩
def t263:R_ [] 263:=⟨_,by conv=>lhs;reduce⟩
def aiw:R_ [] 273:=⟨_,by conv=>lhs;reduce⟩
def t99:R_ [] 99:=⟨_,by conv=>lhs;reduce⟩
theorem aji:UD ((xf.drop 52).take 26)=I:=by kernel_rfl
end
end
end Go.Proofs.YtgfcijiikgjbcaaGreatDoor
