/- Part of the proof: a machine over plain data, its proof, the functions of the program run on symbols, what they answer. Condition: none. -/
import Derived.Test.YtnnjajingjfjiaaGreatDoorZz04
set_option linter.unusedVariables false
set_option linter.unusedSimpArgs false
open Bool renaming true->I
namespace Go.Proofs.YtnnjajingjfjiaaGreatDoor
set_option maxRecDepth 100000
set_option maxHeartbeats 400000000
section
noncomputable section
def am9:KF:=by refine (?f:kx 234=?t->KF) ?p;exact λ_=>?t;conv=>lhs;reduce
def Re:ST:=by refine (?f:rx [] 234 am9=?t->ST) ?p;exact λ_=>?t;conv=>lhs;reduce
def wE:ST:=by refine (?f:lq Re 0=?t->ST) ?p;exact λ_=>?t;conv=>lhs;reduce
def FE:ST:=by refine (?f:lq Re 1=?t->ST) ?p;exact λ_=>?t;conv=>lhs;reduce;rw[<- wE.eq_1]
def KV:ST:=by refine (?f:lq Re 2=?t->ST) ?p;exact λ_=>?t;conv=>lhs;reduce
def KW:ST:=by refine (?f:lq Re 3=?t->ST) ?p;exact λ_=>?t;conv=>lhs;reduce
def B6:ST:=by refine (?f:lq Re 4=?t->ST) ?p;exact λ_=>?t;conv=>lhs;reduce
def pE:ST:=by refine (?f:lq Re 6=?t->ST) ?p;exact λ_=>?t;conv=>lhs;reduce;rw[<- B6.eq_1]
def t234:R_ [] 234:=⟨_,aaF (r:=Re) (by kernel_rfl) (by conv=>lhs;reduce;rw[<- wE.eq_1,<- FE.eq_1,<- KV.eq_1,<- KW.eq_1,<- B6.eq_1,<- pE.eq_1])⟩
def vy:R_ [] 354:=⟨_,by conv=>lhs;reduce⟩
def t311:R_ [] 311:=⟨_,by conv=>lhs;reduce⟩
def DD:R_ [] 348:=⟨_,by conv=>lhs;reduce⟩
def wI:ST:=by refine (?f:lp [] 370 0=?t->ST) ?p;exact λ_=>?t;conv=>lhs;reduce
def agO:R_ [] 370:=⟨_,by conv=>lhs;reduce;rw[<- wI.eq_1]⟩
def I7:ST:=by refine (?f:lp [] 77 0=?t->ST) ?p;exact λ_=>?t;conv=>lhs;reduce
def t77:R_ [] 77:=⟨_,by conv=>lhs;reduce;rw[<- I7.eq_1]⟩
def FH:ST:=by refine (?f:lp [] 244 0=?t->ST) ?p;exact λ_=>?t;conv=>lhs;reduce
def t244:R_ [] 244:=⟨_,by conv=>lhs;reduce;rw[<- FH.eq_1]⟩
def uG:ST:=by refine (?f:lp [6003,12003] 223 0=?t->ST) ?p;exact λ_=>?t;conv=>lhs;reduce
def t223:R_ [6003,12003] 223:=⟨_,by conv=>lhs;reduce;rw[<- uG.eq_1]⟩
def B5:ST:=by refine (?f:lp [] 229 0=?t->ST) ?p;exact λ_=>?t;conv=>lhs;reduce
def t229:R_ [] 229:=⟨_,by conv=>lhs;reduce;rw[<- B5.eq_1]⟩
def K3:ST:=by refine (?f:lp [] 261 0=?t->ST) ?p;exact λ_=>?t;conv=>lhs;reduce
def t261:R_ [] 261:=⟨_,by conv=>lhs;reduce;rw[<- K3.eq_1]⟩
def afb:ST:=by refine (?f:lp [] 115 0=?t->ST) ?p;exact λ_=>?t;conv=>lhs;reduce
def t115:R_ [] 115:=⟨_,by conv=>lhs;reduce;rw[<- afb.eq_1]⟩
def N_:ST:=by refine (?f:lp [] 46 0=?t->ST) ?p;exact λ_=>?t;conv=>lhs;reduce
def t46:R_ [] 46:=⟨_,by conv=>lhs;reduce;rw[<- N_.eq_1]⟩
def ajA:ST:=by refine (?f:lp [] 51 0=?t->ST) ?p;exact λ_=>?t;conv=>lhs;reduce
def t51:R_ [] 51:=⟨_,by conv=>lhs;reduce;rw[<- ajA.eq_1]⟩
def KB:ST:=by refine (?f:lp [] 137 0=?t->ST) ?p;exact λ_=>?t;conv=>lhs;reduce
def t137:R_ [] 137:=⟨_,by conv=>lhs;reduce;rw[<- KB.eq_1]⟩
def KG:ST:=by refine (?f:lp [] 141 0=?t->ST) ?p;exact λ_=>?t;conv=>lhs;reduce
def t141:R_ [] 141:=⟨_,by conv=>lhs;reduce;rw[<- KG.eq_1]⟩
def agT:R_ [] 382:=⟨_,by conv=>lhs;reduce⟩
def abL:ST:=by refine (?f:lp [] 1 0=?t->ST) ?p;exact λ_=>?t;conv=>lhs;reduce
def t1:R_ [] 1:=⟨_,by conv=>lhs;reduce;rw[<- abL.eq_1]⟩
def t53:R_ [] 53:=⟨_,by conv=>lhs;reduce⟩
def t11:R_ [] 11:=⟨_,by conv=>lhs;reduce⟩
def FG:ST:=by refine (?f:lp [] 242 0=?t->ST) ?p;exact λ_=>?t;conv=>lhs;reduce
def t242:R_ [] 242:=⟨_,by conv=>lhs;reduce;rw[<- FG.eq_1]⟩
def t116:R_ [] 116:=⟨_,by conv=>lhs;reduce⟩
def t126:R_ [] 126:=⟨_,by conv=>lhs;reduce⟩
def t235:R_ [] 235:=⟨_,by conv=>lhs;reduce⟩
def t135:R_ [] 135:=⟨_,by conv=>lhs;reduce⟩
def t108:R_ [] 108:=⟨_,by conv=>lhs;reduce⟩
def t67:R_ [] 67:=⟨_,by conv=>lhs;reduce⟩
def t316:R_ [] 316:=⟨_,by conv=>lhs;reduce⟩
def t124:R_ [] 124:=⟨_,by conv=>lhs;reduce⟩
def t209:R_ [] 209:=⟨_,by conv=>lhs;reduce⟩
def t74:R_ [] 74:=⟨_,by conv=>lhs;reduce⟩
theorem al8:Bo ((qq.drop 0).take 11)=I:=by kernel_rfl
theorem amf:Bo ((qq.drop 88).take 11)=I:=by kernel_rfl
theorem ahM:Bo ((qq.drop 176).take 11)=I:=by kernel_rfl
end
end
end Go.Proofs.YtnnjajingjfjiaaGreatDoor
