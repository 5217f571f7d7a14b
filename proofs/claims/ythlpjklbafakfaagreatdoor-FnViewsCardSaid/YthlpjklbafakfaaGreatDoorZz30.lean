/- Part of the proof: a machine over plain data, its proof, the functions of the program run on symbols, what they answer. Condition: none. -/
import Derived.Test.YthlpjklbafakfaaGreatDoorZz13
import Derived.Test.YthlpjklbafakfaaGreatDoorZz29
set_option linter.unusedVariables false
set_option linter.unusedSimpArgs false
open Bool renaming and_eq_true->af,not_eq_true'->bY,false_or->fh,true->I
open List renaming all_eq_true->bg,forall_mem_cons->gC,any_eq_true->kN
open Nat renaming beq->fj,eq_of_beq_eq_true->gl
open Option renaming some->Z
namespace Go.Proofs.YthlpjklbafakfaaGreatDoor
set_option maxRecDepth 100000
section
theorem alR:∀p∈abm,YP Tryz.prog num p.1 p.2:=by
 unfold abm;refine gC.2 ⟨.of aii rfl,?_⟩;refine gC.2 ⟨.of aij rfl,?_⟩;refine gC.2 ⟨.ext x9001,?_⟩;refine gC.2 ⟨.ext x9002,?_⟩;refine gC.2 ⟨.ext x9003,?_⟩;exact λ_ h=>by cases h
theorem fsS:fs.all (λf=>nY.any λp=>fj p.2.f f)=I:=by kernel_rfl
theorem fsX:fs.all (λf=>!ud f exs)=I:=by kernel_rfl
theorem ail(f:Nat)(kf:KF)(h:T f=Z kf):YP Tryz.prog num f kf:=by
 have j:=h;unfold T at h
 split at h
 ·rename_i k g;cases h;exact alR (f,_) (Ef abm g)
 ·split at h
  ·rename_i i;have d:=Iy i;obtain⟨p,e,a⟩:=kN.1 (bg.1 fsS f d);have a:=gl a;have b:=cg p e;have c:=bg.1 fsX f d;rw[bY]at c;simp only[cg1,a,j,c,fh,af]at b;exact .of b.1 b.2.1.2
  ·cases h
end
end Go.Proofs.YthlpjklbafakfaaGreatDoor
