/- Part of the proof: a machine over plain data, its proof, the functions of the program run on symbols, what they answer. Condition: none. -/
import Derived.Test.YtnnjajingjfjiaaGreatDoorZz04
set_option linter.unusedVariables false
set_option linter.unusedSimpArgs false
open Bool renaming true->I
namespace Go.Proofs.YtnnjajingjfjiaaGreatDoor
set_option maxRecDepth 100000
set_option maxHeartbeats 400000000
section
noncomputable section
def am_:KF:=by refine (?f:kx 359=?t->KF) ?p;exact λ_=>?t;conv=>lhs;reduce
def acP:ST:=by refine (?f:rx [] 359 am_=?t->ST) ?p;exact λ_=>?t;conv=>lhs;reduce
def lh:ST:=by refine (?f:lq acP 0=?t->ST) ?p;exact λ_=>?t;conv=>lhs;reduce
def pH:ST:=by refine (?f:lq acP 1=?t->ST) ?p;exact λ_=>?t;conv=>lhs;reduce
def mm:ST:=by refine (?f:lq acP 2=?t->ST) ?p;exact λ_=>?t;conv=>lhs;reduce;rw[<- lh.eq_1,<- pH.eq_1]
def V5:R_ [] 359:=⟨_,aaF (r:=acP) (by kernel_rfl) (by conv=>lhs;reduce;rw[<- lh.eq_1,<- pH.eq_1,<- mm.eq_1])⟩
def t282:R_ [26003,18003,10003] 282:=⟨_,by conv=>lhs;reduce⟩
def yo:ST:=by refine (?f:lp [] 89 0=?t->ST) ?p;exact λ_=>?t;conv=>lhs;reduce
def FX:ST:=by refine (?f:lp [] 89 1=?t->ST) ?p;exact λ_=>?t;conv=>lhs;reduce;rw[<- yo.eq_1]
def FY:ST:=by refine (?f:lp [] 89 2=?t->ST) ?p;exact λ_=>?t;conv=>lhs;reduce;rw[<- yo.eq_1,<- FX.eq_1]
def C0:ST:=by refine (?f:lp [] 89 3=?t->ST) ?p;exact λ_=>?t;conv=>lhs;reduce;rw[<- yo.eq_1,<- FX.eq_1,<- FY.eq_1]
def t89:R_ [] 89:=⟨_,by conv=>lhs;reduce;rw[<- yo.eq_1,<- FX.eq_1,<- FY.eq_1,<- C0.eq_1]⟩
def t119:R_ [] 119:=⟨_,by conv=>lhs;reduce⟩
def FP:ST:=by refine (?f:lp [45003] 351 0=?t->ST) ?p;exact λ_=>?t;conv=>lhs;reduce
def V4:R_ [45003] 351:=⟨_,by conv=>lhs;reduce;rw[<- FP.eq_1]⟩
def B7:ST:=by refine (?f:lp [] 246 0=?t->ST) ?p;exact λ_=>?t;conv=>lhs;reduce
def t246:R_ [] 246:=⟨_,by conv=>lhs;reduce;rw[<- B7.eq_1]⟩
def K9:ST:=by refine (?f:lp [] 274 0=?t->ST) ?p;exact λ_=>?t;conv=>lhs;reduce
def t274:R_ [] 274:=⟨_,by conv=>lhs;reduce;rw[<- K9.eq_1]⟩
def pF:ST:=by refine (?f:lp [12003,6003] 280 0=?t->ST) ?p;exact λ_=>?t;conv=>lhs;reduce
def t280:R_ [12003,6003] 280:=⟨_,by conv=>lhs;reduce;rw[<- pF.eq_1]⟩
def t70:R_ [] 70:=⟨_,by conv=>lhs;reduce⟩
def Cb:ST:=by refine (?f:lp [] 329 0=?t->ST) ?p;exact λ_=>?t;conv=>lhs;reduce
def t329:R_ [] 329:=⟨_,by conv=>lhs;reduce;rw[<- Cb.eq_1]⟩
def ae_:ST:=by refine (?f:lp [] 109 0=?t->ST) ?p;exact λ_=>?t;conv=>lhs;reduce
def t109:R_ [] 109:=⟨_,by conv=>lhs;reduce;rw[<- ae_.eq_1]⟩
def t47:R_ [] 47:=⟨_,by conv=>lhs;reduce⟩
def ajy:ST:=by refine (?f:lp [] 29 0=?t->ST) ?p;exact λ_=>?t;conv=>lhs;reduce
def t29:R_ [] 29:=⟨_,by conv=>lhs;reduce;rw[<- ajy.eq_1]⟩
def t249:R_ [] 249:=⟨_,by conv=>lhs;reduce⟩
def KA:ST:=by refine (?f:lp [] 132 0=?t->ST) ?p;exact λ_=>?t;conv=>lhs;reduce
def t132:R_ [] 132:=⟨_,by conv=>lhs;reduce;rw[<- KA.eq_1]⟩
def KS:ST:=by refine (?f:lp [] 232 0=?t->ST) ?p;exact λ_=>?t;conv=>lhs;reduce
def t232:R_ [] 232:=⟨_,by conv=>lhs;reduce;rw[<- KS.eq_1]⟩
def ab4:ST:=by refine (?f:lp [] 6 0=?t->ST) ?p;exact λ_=>?t;conv=>lhs;reduce
def t6:R_ [] 6:=⟨_,by conv=>lhs;reduce;rw[<- ab4.eq_1]⟩
def KL:ST:=by refine (?f:lp [] 204 0=?t->ST) ?p;exact λ_=>?t;conv=>lhs;reduce
def t204:R_ [] 204:=⟨_,by conv=>lhs;reduce;rw[<- KL.eq_1]⟩
def Ob:ST:=by refine (?f:lp [] 95 0=?t->ST) ?p;exact λ_=>?t;conv=>lhs;reduce
def t95:R_ [] 95:=⟨_,by conv=>lhs;reduce;rw[<- Ob.eq_1]⟩
def K1:ST:=by refine (?f:lp [] 256 0=?t->ST) ?p;exact λ_=>?t;conv=>lhs;reduce
def t256:R_ [] 256:=⟨_,by conv=>lhs;reduce;rw[<- K1.eq_1]⟩
def t216:R_ [] 216:=⟨_,by conv=>lhs;reduce⟩
def t48:R_ [] 48:=⟨_,by conv=>lhs;reduce⟩
def t309:R_ [] 309:=⟨_,by conv=>lhs;reduce⟩
def t76:R_ [] 76:=⟨_,by conv=>lhs;reduce⟩
def t112:R_ [] 112:=⟨_,by conv=>lhs;reduce⟩
def t277:R_ [] 277:=⟨_,by conv=>lhs;reduce⟩
def t52:R_ [] 52:=⟨_,by conv=>lhs;reduce⟩
def t92:R_ [] 92:=⟨_,by conv=>lhs;reduce⟩
def t39:R_ [] 39:=⟨_,by conv=>lhs;reduce⟩
def t247:R_ [] 247:=⟨_,by conv=>lhs;reduce⟩
theorem al9:Bo ((qq.drop 11).take 11)=I:=by kernel_rfl
theorem amg:Bo ((qq.drop 99).take 11)=I:=by kernel_rfl
theorem ahN:Bo ((qq.drop 187).take 11)=I:=by kernel_rfl
end
end
end Go.Proofs.YtnnjajingjfjiaaGreatDoor
