/- Part of the proof: a machine over plain data, its proof, the functions of the program run on symbols, what they answer. Condition: none. -/
import Derived.Test.YtgfcijiikgjbcaaGreatDoorZz04
set_option linter.unusedVariables false
set_option linter.unusedSimpArgs false
open Bool renaming true->I
namespace Go.Proofs.YtgfcijiikgjbcaaGreatDoor
set_option maxRecDepth 100000
set_option maxHeartbeats 400000000
section
noncomputable section
def ake:KF:=by refine (?f:kx 359=?t->KF) ?p;exact λ_=>?t;conv=>lhs;reduce
def aaS:ST:=by refine (?f:rx [] 359 ake=?t->ST) ?p;exact λ_=>?t;conv=>lhs;reduce
def k8:ST:=by refine (?f:lq aaS 0=?t->ST) ?p;exact λ_=>?t;conv=>lhs;reduce
def pc:ST:=by refine (?f:lq aaS 1=?t->ST) ?p;exact λ_=>?t;conv=>lhs;reduce
def mr:ST:=by refine (?f:lq aaS 2=?t->ST) ?p;exact λ_=>?t;conv=>lhs;reduce;rw[<- k8.eq_1,<- pc.eq_1]
def Tp:R_ [] 359:=⟨_,aeC (r:=aaS) (by kernel_rfl) (by conv=>lhs;reduce;rw[<- k8.eq_1,<- pc.eq_1,<- mr.eq_1])⟩
def AQ:ST:=by refine (?f:lp [] 228 0=?t->ST) ?p;exact λ_=>?t;conv=>lhs;reduce
def D9:ST:=by refine (?f:lp [] 228 1=?t->ST) ?p;exact λ_=>?t;conv=>lhs;reduce;rw[<- AQ.eq_1]
def t228:R_ [] 228:=⟨_,by conv=>lhs;reduce;rw[<- AQ.eq_1,<- D9.eq_1]⟩
def xM:ST:=by refine (?f:lp [] 205 0=?t->ST) ?p;exact λ_=>?t;conv=>lhs;reduce
def AJ:ST:=by refine (?f:lp [] 205 1=?t->ST) ?p;exact λ_=>?t;conv=>lhs;reduce;rw[<- xM.eq_1]
def I2:ST:=by refine (?f:lp [] 205 2=?t->ST) ?p;exact λ_=>?t;conv=>lhs;reduce;rw[<- xM.eq_1,<- AJ.eq_1]
def t205:R_ [] 205:=⟨_,by conv=>lhs;reduce;rw[<- xM.eq_1,<- AJ.eq_1,<- I2.eq_1]⟩
def xN:ST:=by refine (?f:lp [] 240 0=?t->ST) ?p;exact λ_=>?t;conv=>lhs;reduce
def I_:ST:=by refine (?f:lp [] 240 1=?t->ST) ?p;exact λ_=>?t;conv=>lhs;reduce
def t240:R_ [] 240:=⟨_,by conv=>lhs;reduce;rw[<- xN.eq_1,<- I_.eq_1]⟩
def O4:R_ [73002] 352:=⟨_,by conv=>lhs;reduce⟩
def O5:R_ [] 358:=⟨_,by conv=>lhs;reduce⟩
def I0:ST:=by refine (?f:lp [] 202 0=?t->ST) ?p;exact λ_=>?t;conv=>lhs;reduce
def t202:R_ [] 202:=⟨_,by conv=>lhs;reduce;rw[<- I0.eq_1]⟩
def AS:ST:=by refine (?f:lp [] 229 0=?t->ST) ?p;exact λ_=>?t;conv=>lhs;reduce
def t229:R_ [] 229:=⟨_,by conv=>lhs;reduce;rw[<- AS.eq_1]⟩
def abd:R_ [21002] 365:=⟨_,by conv=>lhs;reduce⟩
def agG:ST:=by refine (?f:lp [] 10 0=?t->ST) ?p;exact λ_=>?t;conv=>lhs;reduce
def t10:R_ [] 10:=⟨_,by conv=>lhs;reduce;rw[<- agG.eq_1]⟩
def agK:ST:=by refine (?f:lp [] 51 0=?t->ST) ?p;exact λ_=>?t;conv=>lhs;reduce
def t51:R_ [] 51:=⟨_,by conv=>lhs;reduce;rw[<- agK.eq_1]⟩
def t111:R_ [] 111:=⟨_,by conv=>lhs;reduce⟩
def aiL:R_ [] 324:=⟨_,by conv=>lhs;reduce⟩
def t26:R_ [] 26:=⟨_,by conv=>lhs;reduce⟩
def Qs:ST:=by refine (?f:lp [] 64 0=?t->ST) ?p;exact λ_=>?t;conv=>lhs;reduce
def t64:R_ [] 64:=⟨_,by conv=>lhs;reduce;rw[<- Qs.eq_1]⟩
def D5:ST:=by refine (?f:lp [] 203 0=?t->ST) ?p;exact λ_=>?t;conv=>lhs;reduce
def t203:R_ [] 203:=⟨_,by conv=>lhs;reduce;rw[<- D5.eq_1]⟩
def aiP:R_ [] 328:=⟨_,by conv=>lhs;reduce⟩
def aiv:R_ [] 272:=⟨_,by conv=>lhs;reduce⟩
def aiW:R_ [] 366:=⟨_,by conv=>lhs;reduce⟩
def ait:R_ [] 270:=⟨_,by conv=>lhs;reduce⟩
def t219:R_ [] 219:=⟨_,by conv=>lhs;reduce⟩
def t65:R_ [] 65:=⟨_,by conv=>lhs;reduce⟩
def t258:R_ [] 258:=⟨_,by conv=>lhs;reduce⟩
def t247:R_ [] 247:=⟨_,by conv=>lhs;reduce⟩
theorem ajh:UD ((xf.drop 26).take 26)=I:=by kernel_rfl
end
end
end Go.Proofs.YtgfcijiikgjbcaaGreatDoor
