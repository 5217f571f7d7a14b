/- Part. Condition: none. -/
import Derived.Test.YtgnmdaifiodnnaaGreatDoorZz09
import Derived.Test.YtgnmdaifiodnnaaGreatDoorZz25
set_option linter.all false
open Bool renaming and_eq_true->aw,not_eq_true'->cx,false_or->fV,true->I
open List renaming all_eq_true->bG,forall_mem_cons->cz,any_eq_true->fG
open Nat renaming beq->gI,eq_of_beq_eq_true->o0
open Option renaming some->Z
namespace Go.Proofs.YtgnmdaifiodnnaaGreatDoor
set_option maxRecDepth 100000
def aql:∀p∈ae_,OkK Tryz.prog num p.1 p.2:=by unfold ae_;refine cz.2 ⟨.of amP rfl,?_⟩;refine cz.2 ⟨.of amQ rfl,?_⟩;refine cz.2 ⟨.of aqj rfl,?_⟩;refine cz.2 ⟨.of aqk rfl,?_⟩;refine cz.2 ⟨.of amI rfl,?_⟩;refine cz.2 ⟨.of amJ rfl,?_⟩;refine cz.2 ⟨.of amK rfl,?_⟩;refine cz.2 ⟨.of amL rfl,?_⟩;refine cz.2 ⟨.of amM rfl,?_⟩;refine cz.2 ⟨.of amN rfl,?_⟩;refine cz.2 ⟨.of amO rfl,?_⟩;refine cz.2 ⟨.of amS rfl,?_⟩;refine cz.2 ⟨.of amT rfl,?_⟩;refine cz.2 ⟨.of amU rfl,?_⟩;refine cz.2 ⟨.of amV rfl,?_⟩;refine cz.2 ⟨.ext x9001,?_⟩;refine cz.2 ⟨.ext x9002,?_⟩;refine cz.2 ⟨.ext x9003,?_⟩;exact λ_ h=>by cases h
def fsS:fs.all (λf=>o9.any λp=>gI p.2.f f)=I:=by kernel_rfl
def fsX:fs.all (λf=>!yw f exs)=I:=by kernel_rfl
def afW(f:Nat)(c:KF)(h:T f=Z c):OkK Tryz.prog num f c:=by have l:=h;unfold T at h;split at h;{rename_i k i;cases h;exact aql (f,_) (Gz ae_ i)};split at h;{rename_i j;have e:=K7 j;obtain⟨p,g,a⟩:=fG.1 (bG.1 fsS f e);have a:=o0 a;have b:=cg p g;have d:=bG.1 fsX f e;rw[cx]at d;simp only[cg1,a,l,d,fV,aw]at b;exact .of b.1 b.2.1.1.2};cases h
end Go.Proofs.YtgnmdaifiodnnaaGreatDoor
