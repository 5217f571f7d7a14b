/- Part of the proof: a machine over plain data, its proof, the functions of the program run on symbols, what they answer. Condition: none. -/
import Derived.Test.YtnnjajingjfjiaaGreatDoorZz04
set_option linter.unusedVariables false
set_option linter.unusedSimpArgs false
open Bool renaming true->I
namespace Go.Proofs.YtnnjajingjfjiaaGreatDoor
set_option maxRecDepth 100000
set_option maxHeartbeats 400000000
section
noncomputable section
def t313:R_ [] 313:=⟨_,by conv=>lhs;reduce⟩
def anb:KF:=by refine (?f:kx 374=?t->KF) ?p;exact λ_=>?t;conv=>lhs;reduce
def agD:ST:=by refine (?f:rx [] 374 anb=?t->ST) ?p;exact λ_=>?t;conv=>lhs;reduce
def Ce:ST:=by refine (?f:lq agD 0=?t->ST) ?p;exact λ_=>?t;conv=>lhs;reduce
def qY:ST:=by refine (?f:lq agD 1=?t->ST) ?p;exact λ_=>?t;conv=>lhs;reduce
def alL:R_ [] 374:=⟨_,aaF (r:=agD) (by kernel_rfl) (by conv=>lhs;reduce;rw[<- Ce.eq_1,<- qY.eq_1])⟩
def FF:ST:=by refine (?f:lp [] 237 0=?t->ST) ?p;exact λ_=>?t;conv=>lhs;reduce
def t237:R_ [] 237:=⟨_,by conv=>lhs;reduce;rw[<- FF.eq_1]⟩
def B0:ST:=by refine (?f:lp [] 214 0=?t->ST) ?p;exact λ_=>?t;conv=>lhs;reduce
def B1:ST:=by refine (?f:lp [] 214 1=?t->ST) ?p;exact λ_=>?t;conv=>lhs;reduce
def t214:R_ [] 214:=⟨_,by conv=>lhs;reduce;rw[<- B0.eq_1,<- B1.eq_1]⟩
def wH:ST:=by refine (?f:lp [] 369 0=?t->ST) ?p;exact λ_=>?t;conv=>lhs;reduce
def aan:R_ [] 369:=⟨_,by conv=>lhs;reduce;rw[<- wH.eq_1]⟩
def KQ:ST:=by refine (?f:lp [] 215 0=?t->ST) ?p;exact λ_=>?t;conv=>lhs;reduce
def t215:R_ [] 215:=⟨_,by conv=>lhs;reduce;rw[<- KQ.eq_1]⟩
def K6:ST:=by refine (?f:lp [] 266 0=?t->ST) ?p;exact λ_=>?t;conv=>lhs;reduce
def t266:R_ [] 266:=⟨_,by conv=>lhs;reduce;rw[<- K6.eq_1]⟩
def BV:ST:=by refine (?f:lp [] 194 0=?t->ST) ?p;exact λ_=>?t;conv=>lhs;reduce
def t194:R_ [] 194:=⟨_,by conv=>lhs;reduce;rw[<- BV.eq_1]⟩
def t245:R_ [] 245:=⟨_,by conv=>lhs;reduce⟩
def t127:R_ [] 127:=⟨_,by conv=>lhs;reduce⟩
def Fy:ST:=by refine (?f:lp [] 100 0=?t->ST) ?p;exact λ_=>?t;conv=>lhs;reduce
def t100:R_ [] 100:=⟨_,by conv=>lhs;reduce;rw[<- Fy.eq_1]⟩
def ajw:ST:=by refine (?f:lp [] 14 0=?t->ST) ?p;exact λ_=>?t;conv=>lhs;reduce
def t14:R_ [] 14:=⟨_,by conv=>lhs;reduce;rw[<- ajw.eq_1]⟩
def ajB:ST:=by refine (?f:lp [] 54 0=?t->ST) ?p;exact λ_=>?t;conv=>lhs;reduce
def t54:R_ [] 54:=⟨_,by conv=>lhs;reduce;rw[<- ajB.eq_1]⟩
def ajz:ST:=by refine (?f:lp [] 49 0=?t->ST) ?p;exact λ_=>?t;conv=>lhs;reduce
def t49:R_ [] 49:=⟨_,by conv=>lhs;reduce;rw[<- ajz.eq_1]⟩
def La:ST:=by refine (?f:lp [] 288 0=?t->ST) ?p;exact λ_=>?t;conv=>lhs;reduce
def t288:R_ [] 288:=⟨_,by conv=>lhs;reduce;rw[<- La.eq_1]⟩
def Tu:ST:=by refine (?f:lp [] 69 0=?t->ST) ?p;exact λ_=>?t;conv=>lhs;reduce
def t69:R_ [] 69:=⟨_,by conv=>lhs;reduce;rw[<- Tu.eq_1]⟩
def agU:R_ [] 383:=⟨_,by conv=>lhs;reduce⟩
def Oa:ST:=by refine (?f:lp [] 79 0=?t->ST) ?p;exact λ_=>?t;conv=>lhs;reduce
def t79:R_ [] 79:=⟨_,by conv=>lhs;reduce;rw[<- Oa.eq_1]⟩
def K8:ST:=by refine (?f:lp [] 271 0=?t->ST) ?p;exact λ_=>?t;conv=>lhs;reduce
def t271:R_ [] 271:=⟨_,by conv=>lhs;reduce;rw[<- K8.eq_1]⟩
def Tq:ST:=by refine (?f:lp [] 61 0=?t->ST) ?p;exact λ_=>?t;conv=>lhs;reduce
def t61:R_ [] 61:=⟨_,by conv=>lhs;reduce;rw[<- Tq.eq_1]⟩
def t328:R_ [] 328:=⟨_,by conv=>lhs;reduce⟩
def t207:R_ [] 207:=⟨_,by conv=>lhs;reduce⟩
def agQ:R_ [] 376:=⟨_,by conv=>lhs;reduce⟩
def t326:R_ [] 326:=⟨_,by conv=>lhs;reduce⟩
def t133:R_ [] 133:=⟨_,by conv=>lhs;reduce⟩
def t167:R_ [] 167:=⟨_,by conv=>lhs;reduce⟩
def t219:R_ [] 219:=⟨_,by conv=>lhs;reduce⟩
def t65:R_ [] 65:=⟨_,by conv=>lhs;reduce⟩
def t238:R_ [] 238:=⟨_,by conv=>lhs;reduce⟩
def t268:R_ [] 268:=⟨_,by conv=>lhs;reduce⟩
theorem al_:Bo ((qq.drop 22).take 11)=I:=by kernel_rfl
theorem ahG:Bo ((qq.drop 110).take 11)=I:=by kernel_rfl
theorem ahO:Bo ((qq.drop 198).take 11)=I:=by kernel_rfl
end
end
end Go.Proofs.YtnnjajingjfjiaaGreatDoor
