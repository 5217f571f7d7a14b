/- Part of the proof: a machine over plain data, its proof, the functions of the program run on symbols, what they answer. Condition: none. -/
import Derived.Test.YtnnjajingjfjiaaGreatDoorZz15
import Derived.Test.YtnnjajingjfjiaaGreatDoorZz18
set_option linter.unusedVariables false
set_option linter.unusedSimpArgs false
set_option linter.unusedSectionVars false
open List renaming mem_cons->aL
open Nat renaming lt_succ_self->aP
open SizeOf renaming sizeOf->aw
open Bool renaming true->I,false->J
namespace Go.Proofs.YtnnjajingjfjiaaGreatDoor
set_option maxRecDepth 100000
set_option maxHeartbeats 400000000
theorem Qb{B:Nat}(m:Nat):∀es:M (M D),aw es < m->dw B 3 es->∃xs:M ck,es=xs.map cK:=by
 induction m with
 |zero=>intro es h;omega
 |succ m j=>
  intro es l ok;refine nK λe b=>?_;obtain⟨g,f,d,a,h,_,_,_,_,c⟩:=mI (ok.mem e b);obtain⟨i,rfl⟩:=j a (by have:=iE (k:=4) (fl:=J) (xs:=a) b (by rw[h];simp only[aL,true_or,or_true]);omega) c;exact⟨⟨g,f,d,i⟩,by rw[h,aO]⟩
theorem EE{B:Nat}{es:M (M D)}(ok:dw B 3 es):∃a:M ck,es=a.map cK:=Qb _ es (aP _) ok
section
open Go.RowKit
noncomputable section
def ae4:KF:=by refine (?f:kx 372=?t->KF) ?p;exact λ_=>?t;conv=>lhs;reduce
theorem akp:okF Tryz.prog num 372 ae4=I:=by kernel_rfl
def ae5:KF:=by refine (?f:kx 381=?t->KF) ?p;exact λ_=>?t;conv=>lhs;reduce
theorem akq:okF Tryz.prog num 381 ae5=I:=by kernel_rfl
def ae6:KF:=by refine (?f:kx 384=?t->KF) ?p;exact λ_=>?t;conv=>lhs;reduce
theorem akr:okF Tryz.prog num 384 ae6=I:=by kernel_rfl
end
end
end Go.Proofs.YtnnjajingjfjiaaGreatDoor
