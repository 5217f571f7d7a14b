/- Part of the proof: a machine over plain data, its proof, the functions of the program run on symbols, what they answer. Condition: none. -/
import Derived.Test.YtnnjajingjfjiaaGreatDoorZz04
set_option linter.unusedVariables false
set_option linter.unusedSimpArgs false
open Bool renaming true->I
namespace Go.Proofs.YtnnjajingjfjiaaGreatDoor
set_option maxRecDepth 100000
set_option maxHeartbeats 400000000
section
noncomputable section
def FA:ST:=by refine (?f:lp [] 220 0=?t->ST) ?p;exact λ_=>?t;conv=>lhs;reduce
def iK:ST:=by refine (?f:lp [] 220 4=?t->ST) ?p;exact λ_=>?t;conv=>lhs;reduce;rw[<- FA.eq_1]
def FB:ST:=by refine (?f:lp [] 220 5=?t->ST) ?p;exact λ_=>?t;conv=>lhs;reduce
def t220:R_ [] 220:=⟨_,by conv=>lhs;reduce;rw[<- FA.eq_1,<- iK.eq_1,<- FB.eq_1]⟩
def adN:ST:=by refine (?f:lp [] 97 0=?t->ST) ?p;exact λ_=>?t;conv=>lhs;reduce
def t97:R_ [] 97:=⟨_,by conv=>lhs;reduce;rw[<- adN.eq_1]⟩
def kT:ST:=by refine (?f:lp [26019] 93 0=?t->ST) ?p;exact λ_=>?t;conv=>lhs;reduce
def t93:R_ [26019] 93:=⟨_,by conv=>lhs;reduce;rw[<- kT.eq_1]⟩
def O_:R_ [] 360:=⟨_,by conv=>lhs;reduce⟩
def FT:ST:=by refine (?f:lp [39003,96001,65001] 363 0=?t->ST) ?p;exact λ_=>?t;conv=>lhs;reduce
def RJ:R_ [39003,96001,65001] 363:=⟨_,by conv=>lhs;reduce;rw[<- FT.eq_1]⟩
def RH:R_ [73002] 352:=⟨_,by conv=>lhs;reduce⟩
def Cc:ST:=by refine (?f:lp [42003] 350 0=?t->ST) ?p;exact λ_=>?t;conv=>lhs;reduce
def Lf:ST:=by refine (?f:lp [42003] 350 1=?t->ST) ?p;exact λ_=>?t;conv=>lhs;reduce;rw[<- Cc.eq_1]
def alI:R_ [42003] 350:=⟨_,by conv=>lhs;reduce;rw[<- Cc.eq_1,<- Lf.eq_1]⟩
def Lc:ST:=by refine (?f:lp [] 314 0=?t->ST) ?p;exact λ_=>?t;conv=>lhs;reduce
def t314:R_ [] 314:=⟨_,by conv=>lhs;reduce;rw[<- Lc.eq_1]⟩
def KH:ST:=by refine (?f:lp [] 142 0=?t->ST) ?p;exact λ_=>?t;conv=>lhs;reduce
def t142:R_ [] 142:=⟨_,by conv=>lhs;reduce;rw[<- KH.eq_1]⟩
def BZ:ST:=by refine (?f:lp [] 212 0=?t->ST) ?p;exact λ_=>?t;conv=>lhs;reduce
def KP:ST:=by refine (?f:lp [] 212 1=?t->ST) ?p;exact λ_=>?t;conv=>lhs;reduce;rw[<- BZ.eq_1]
def t212:R_ [] 212:=⟨_,by conv=>lhs;reduce;rw[<- BZ.eq_1,<- KP.eq_1]⟩
def adb:R_ [21002] 365:=⟨_,by conv=>lhs;reduce⟩
def ajv:ST:=by refine (?f:lp [] 12 0=?t->ST) ?p;exact λ_=>?t;conv=>lhs;reduce
def t12:R_ [] 12:=⟨_,by conv=>lhs;reduce;rw[<- ajv.eq_1]⟩
def ac_:R_ [] 355:=⟨_,by conv=>lhs;reduce⟩
def anf:ST:=by refine (?f:lp [] 4 0=?t->ST) ?p;exact λ_=>?t;conv=>lhs;reduce
def t4:R_ [] 4:=⟨_,by conv=>lhs;reduce;rw[<- anf.eq_1]⟩
def aao:R_ [] 371:=⟨_,by conv=>lhs;reduce⟩
def abV:ST:=by refine (?f:lp [] 2 0=?t->ST) ?p;exact λ_=>?t;conv=>lhs;reduce
def t2:R_ [] 2:=⟨_,by conv=>lhs;reduce;rw[<- abV.eq_1]⟩
def Kz:ST:=by refine (?f:lp [] 129 0=?t->ST) ?p;exact λ_=>?t;conv=>lhs;reduce
def t129:R_ [] 129:=⟨_,by conv=>lhs;reduce;rw[<- Kz.eq_1]⟩
def KN:ST:=by refine (?f:lp [] 210 0=?t->ST) ?p;exact λ_=>?t;conv=>lhs;reduce
def t210:R_ [] 210:=⟨_,by conv=>lhs;reduce;rw[<- KN.eq_1]⟩
def t310:R_ [] 310:=⟨_,by conv=>lhs;reduce⟩
def Fz:ST:=by refine (?f:lp [] 201 0=?t->ST) ?p;exact λ_=>?t;conv=>lhs;reduce
def t201:R_ [] 201:=⟨_,by conv=>lhs;reduce;rw[<- Fz.eq_1]⟩
def K0:ST:=by refine (?f:lp [] 255 0=?t->ST) ?p;exact λ_=>?t;conv=>lhs;reduce
def t255:R_ [] 255:=⟨_,by conv=>lhs;reduce;rw[<- K0.eq_1]⟩
def adf:R_ [] 379:=⟨_,by conv=>lhs;reduce⟩
def t275:R_ [] 275:=⟨_,by conv=>lhs;reduce⟩
def t15:R_ [] 15:=⟨_,by conv=>lhs;reduce⟩
def t227:R_ [] 227:=⟨_,by conv=>lhs;reduce⟩
def t31:R_ [] 31:=⟨_,by conv=>lhs;reduce⟩
def t28:R_ [] 28:=⟨_,by conv=>lhs;reduce⟩
def t35:R_ [] 35:=⟨_,by conv=>lhs;reduce⟩
def t263:R_ [] 263:=⟨_,by conv=>lhs;reduce⟩
def t218:R_ [] 218:=⟨_,by conv=>lhs;reduce⟩
def t323:R_ [] 323:=⟨_,by conv=>lhs;reduce⟩
theorem ama:Bo ((qq.drop 33).take 11)=I:=by kernel_rfl
theorem ahH:Bo ((qq.drop 121).take 11)=I:=by kernel_rfl
theorem ahP:Bo ((qq.drop 209).take 11)=I:=by kernel_rfl
end
end
end Go.Proofs.YtnnjajingjfjiaaGreatDoor
