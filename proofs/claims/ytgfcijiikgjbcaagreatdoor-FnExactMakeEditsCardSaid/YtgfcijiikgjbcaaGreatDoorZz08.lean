/- Part of the proof: a machine over plain data, its proof, the functions of the program run on symbols, what they answer. Condition: none. -/
import Derived.Test.YtgfcijiikgjbcaaGreatDoorZz04
set_option linter.unusedVariables false
set_option linter.unusedSimpArgs false
open Bool renaming true->I
namespace Go.Proofs.YtgfcijiikgjbcaaGreatDoor
set_option maxRecDepth 100000
set_option maxHeartbeats 400000000
section
noncomputable section
def D6:ST:=by refine (?f:lp [] 220 0=?t->ST) ?p;exact λ_=>?t;conv=>lhs;reduce
def iN:ST:=by refine (?f:lp [] 220 4=?t->ST) ?p;exact λ_=>?t;conv=>lhs;reduce;rw[<- D6.eq_1]
def D7:ST:=by refine (?f:lp [] 220 5=?t->ST) ?p;exact λ_=>?t;conv=>lhs;reduce
def t220:R_ [] 220:=⟨_,by conv=>lhs;reduce;rw[<- D6.eq_1,<- iN.eq_1,<- D7.eq_1]⟩
def pO:R_ [26003,18003,10003] 282:=⟨_,by conv=>lhs;reduce⟩
def aez:R_ [] 311:=⟨_,by conv=>lhs;reduce⟩
def t119:R_ [] 119:=⟨_,by conv=>lhs;reduce⟩
def vm:ST:=by refine (?f:lp [] 251 0=?t->ST) ?p;exact λ_=>?t;conv=>lhs;reduce
def t251:R_ [] 251:=⟨_,by conv=>lhs;reduce;rw[<- vm.eq_1]⟩
def Hu:ST:=by refine (?f:lp [] 77 0=?t->ST) ?p;exact λ_=>?t;conv=>lhs;reduce
def t77:R_ [] 77:=⟨_,by conv=>lhs;reduce;rw[<- Hu.eq_1]⟩
def Ei:ST:=by refine (?f:lp [] 320 0=?t->ST) ?p;exact λ_=>?t;conv=>lhs;reduce
def aiH:R_ [] 320:=⟨_,by conv=>lhs;reduce;rw[<- Ei.eq_1]⟩
def Ek:ST:=by refine (?f:lp [] 325 0=?t->ST) ?p;exact λ_=>?t;conv=>lhs;reduce
def aiM:R_ [] 325:=⟨_,by conv=>lhs;reduce;rw[<- Ek.eq_1]⟩
def Je:ST:=by refine (?f:lp [] 261 0=?t->ST) ?p;exact λ_=>?t;conv=>lhs;reduce
def t261:R_ [] 261:=⟨_,by conv=>lhs;reduce;rw[<- Je.eq_1]⟩
def acX:ST:=by refine (?f:lp [] 113 0=?t->ST) ?p;exact λ_=>?t;conv=>lhs;reduce
def t113:R_ [] 113:=⟨_,by conv=>lhs;reduce;rw[<- acX.eq_1]⟩
def agL:ST:=by refine (?f:lp [] 54 0=?t->ST) ?p;exact λ_=>?t;conv=>lhs;reduce
def t54:R_ [] 54:=⟨_,by conv=>lhs;reduce;rw[<- agL.eq_1]⟩
def Em:ST:=by refine (?f:lp [] 353 0=?t->ST) ?p;exact λ_=>?t;conv=>lhs;reduce
def aba:R_ [] 353:=⟨_,by conv=>lhs;reduce;rw[<- Em.eq_1]⟩
def I7:ST:=by refine (?f:lp [] 233 0=?t->ST) ?p;exact λ_=>?t;conv=>lhs;reduce
def t233:R_ [] 233:=⟨_,by conv=>lhs;reduce;rw[<- I7.eq_1]⟩
def Jd:ST:=by refine (?f:lp [] 257 0=?t->ST) ?p;exact λ_=>?t;conv=>lhs;reduce
def t257:R_ [] 257:=⟨_,by conv=>lhs;reduce;rw[<- Jd.eq_1]⟩
def t53:R_ [] 53:=⟨_,by conv=>lhs;reduce⟩
def t11:R_ [] 11:=⟨_,by conv=>lhs;reduce⟩
def Eb:ST:=by refine (?f:lp [] 242 0=?t->ST) ?p;exact λ_=>?t;conv=>lhs;reduce
def t242:R_ [] 242:=⟨_,by conv=>lhs;reduce;rw[<- Eb.eq_1]⟩
def t216:R_ [] 216:=⟨_,by conv=>lhs;reduce⟩
def t235:R_ [] 235:=⟨_,by conv=>lhs;reduce⟩
def t62:R_ [] 62:=⟨_,by conv=>lhs;reduce⟩
def aiy:R_ [] 277:=⟨_,by conv=>lhs;reduce⟩
def aeA:R_ [] 316:=⟨_,by conv=>lhs;reduce⟩
def t39:R_ [] 39:=⟨_,by conv=>lhs;reduce⟩
def t268:R_ [] 268:=⟨_,by conv=>lhs;reduce⟩
def aiK:R_ [] 323:=⟨_,by conv=>lhs;reduce⟩
theorem ajj:UD ((xf.drop 78).take 26)=I:=by kernel_rfl
end
end
end Go.Proofs.YtgfcijiikgjbcaaGreatDoor
