/- Part of the proof: a machine over plain data, its proof, the functions of the program run on symbols, what they answer. Condition: none. -/
import Derived.Test.YthlpjklbafakfaaGreatDoorZz04
set_option linter.unusedVariables false
set_option linter.unusedSimpArgs false
open Bool renaming true->I
namespace Go.Proofs.YthlpjklbafakfaaGreatDoor
set_option maxRecDepth 100000
set_option maxHeartbeats 400000000
section
noncomputable section
def ahL:KF:=by refine (?f:kx 416=?t->KF) ?p;exact λ_=>?t;conv=>lhs;reduce
def ajA:ST:=by refine (?f:rx [23014,20014,89029,85028,79014,78014,71014,58014,42028,34014,104028,98015,61019,42033] 416 ahL=?t->ST) ?p;exact λ_=>?t;conv=>lhs;reduce
def anw:R_ [23014,20014,89029,85028,79014,78014,71014,58014,42028,34014,104028,98015,61019,42033] 416:=⟨_,nU (r:=ajA) (by kernel_rfl) (by conv=>lhs;reduce)⟩
def anp:R_ [10014] 408:=⟨_,by conv=>lhs;reduce⟩
def afn:R_ [] 400:=⟨_,by conv=>lhs;reduce⟩
def t238:R_ [] 238:=⟨_,by conv=>lhs;reduce⟩
def t273:R_ [] 273:=⟨_,by conv=>lhs;reduce⟩
def t247:R_ [] 247:=⟨_,by conv=>lhs;reduce⟩
theorem akx:zX ((nY.drop 0).take 9)=I:=by kernel_rfl
theorem akF:zX ((nY.drop 72).take 9)=I:=by kernel_rfl
theorem af7:zX ((nY.drop 144).take 9)=I:=by kernel_rfl
end
end
end Go.Proofs.YthlpjklbafakfaaGreatDoor
