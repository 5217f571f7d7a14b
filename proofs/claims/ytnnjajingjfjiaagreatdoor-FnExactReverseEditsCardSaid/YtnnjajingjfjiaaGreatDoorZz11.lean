/- Part of the proof: a machine over plain data, its proof, the functions of the program run on symbols, what they answer. Condition: none. -/
import Derived.Test.YtnnjajingjfjiaaGreatDoorZz04
set_option linter.unusedVariables false
set_option linter.unusedSimpArgs false
open Bool renaming true->I
namespace Go.Proofs.YtnnjajingjfjiaaGreatDoor
set_option maxRecDepth 100000
set_option maxHeartbeats 400000000
section
noncomputable section
def ana:KF:=by refine (?f:kx 364=?t->KF) ?p;exact λ_=>?t;conv=>lhs;reduce
def ao4:ST:=by refine (?f:rx [104002,19020] 364 ana=?t->ST) ?p;exact λ_=>?t;conv=>lhs;reduce
def zi:R_ [104002,19020] 364:=⟨_,aaF (r:=ao4) (by kernel_rfl) (by conv=>lhs;reduce)⟩
def yS:ST:=by refine (?f:lp [59003] 362 0=?t->ST) ?p;exact λ_=>?t;conv=>lhs;reduce
def alK:R_ [59003] 362:=⟨_,by conv=>lhs;reduce;rw[<- yS.eq_1]⟩
def B4:ST:=by refine (?f:lp [] 228 0=?t->ST) ?p;exact λ_=>?t;conv=>lhs;reduce
def FD:ST:=by refine (?f:lp [] 228 1=?t->ST) ?p;exact λ_=>?t;conv=>lhs;reduce;rw[<- B4.eq_1]
def t228:R_ [] 228:=⟨_,by conv=>lhs;reduce;rw[<- B4.eq_1,<- FD.eq_1]⟩
def yP:ST:=by refine (?f:lp [] 205 0=?t->ST) ?p;exact λ_=>?t;conv=>lhs;reduce
def BX:ST:=by refine (?f:lp [] 205 1=?t->ST) ?p;exact λ_=>?t;conv=>lhs;reduce;rw[<- yP.eq_1]
def KM:ST:=by refine (?f:lp [] 205 2=?t->ST) ?p;exact λ_=>?t;conv=>lhs;reduce;rw[<- yP.eq_1,<- BX.eq_1]
def t205:R_ [] 205:=⟨_,by conv=>lhs;reduce;rw[<- yP.eq_1,<- BX.eq_1,<- KM.eq_1]⟩
def yQ:ST:=by refine (?f:lp [] 240 0=?t->ST) ?p;exact λ_=>?t;conv=>lhs;reduce
def KY:ST:=by refine (?f:lp [] 240 1=?t->ST) ?p;exact λ_=>?t;conv=>lhs;reduce
def t240:R_ [] 240:=⟨_,by conv=>lhs;reduce;rw[<- yQ.eq_1,<- KY.eq_1]⟩
def t55:R_ [] 55:=⟨_,by conv=>lhs;reduce⟩
def t230:R_ [] 230:=⟨_,by conv=>lhs;reduce⟩
def BW:ST:=by refine (?f:lp [] 197 0=?t->ST) ?p;exact λ_=>?t;conv=>lhs;reduce
def t197:R_ [] 197:=⟨_,by conv=>lhs;reduce;rw[<- BW.eq_1]⟩
def t284:R_ [] 284:=⟨_,by conv=>lhs;reduce⟩
def t147:R_ [] 147:=⟨_,by conv=>lhs;reduce⟩
def Cd:ST:=by refine (?f:lp [] 373 0=?t->ST) ?p;exact λ_=>?t;conv=>lhs;reduce
def agP:R_ [] 373:=⟨_,by conv=>lhs;reduce;rw[<- Cd.eq_1]⟩
def afa:ST:=by refine (?f:lp [] 113 0=?t->ST) ?p;exact λ_=>?t;conv=>lhs;reduce
def t113:R_ [] 113:=⟨_,by conv=>lhs;reduce;rw[<- afa.eq_1]⟩
def ajC:ST:=by refine (?f:lp [] 56 0=?t->ST) ?p;exact λ_=>?t;conv=>lhs;reduce
def t56:R_ [] 56:=⟨_,by conv=>lhs;reduce;rw[<- ajC.eq_1]⟩
def K_:ST:=by refine (?f:lp [] 281 0=?t->ST) ?p;exact λ_=>?t;conv=>lhs;reduce
def t281:R_ [] 281:=⟨_,by conv=>lhs;reduce;rw[<- K_.eq_1]⟩
def t140:R_ [] 140:=⟨_,by conv=>lhs;reduce⟩
def Lg:ST:=by refine (?f:lp [] 357 0=?t->ST) ?p;exact λ_=>?t;conv=>lhs;reduce
def alJ:R_ [] 357:=⟨_,by conv=>lhs;reduce;rw[<- Lg.eq_1]⟩
def KE:ST:=by refine (?f:lp [] 139 0=?t->ST) ?p;exact λ_=>?t;conv=>lhs;reduce
def t139:R_ [] 139:=⟨_,by conv=>lhs;reduce;rw[<- KE.eq_1]⟩
def t3:R_ [] 3:=⟨_,by conv=>lhs;reduce⟩
def Tx:ST:=by refine (?f:lp [] 96 0=?t->ST) ?p;exact λ_=>?t;conv=>lhs;reduce
def t96:R_ [] 96:=⟨_,by conv=>lhs;reduce;rw[<- Tx.eq_1]⟩
def KZ:ST:=by refine (?f:lp [] 243 0=?t->ST) ?p;exact λ_=>?t;conv=>lhs;reduce
def t243:R_ [] 243:=⟨_,by conv=>lhs;reduce;rw[<- KZ.eq_1]⟩
def t131:R_ [] 131:=⟨_,by conv=>lhs;reduce⟩
def t144:R_ [] 144:=⟨_,by conv=>lhs;reduce⟩
def t272:R_ [] 272:=⟨_,by conv=>lhs;reduce⟩
def t68:R_ [] 68:=⟨_,by conv=>lhs;reduce⟩
def t211:R_ [] 211:=⟨_,by conv=>lhs;reduce⟩
def t213:R_ [] 213:=⟨_,by conv=>lhs;reduce⟩
def t33:R_ [] 33:=⟨_,by conv=>lhs;reduce⟩
def t327:R_ [] 327:=⟨_,by conv=>lhs;reduce⟩
def t241:R_ [] 241:=⟨_,by conv=>lhs;reduce⟩
def t273:R_ [] 273:=⟨_,by conv=>lhs;reduce⟩
theorem amd:Bo ((qq.drop 66).take 11)=I:=by kernel_rfl
theorem ahK:Bo ((qq.drop 154).take 11)=I:=by kernel_rfl
theorem ahS:Bo ((qq.drop 242).take 11)=I:=by kernel_rfl
end
end
end Go.Proofs.YtnnjajingjfjiaaGreatDoor
