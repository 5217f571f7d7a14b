/- Part of the proof. Condition: none. -/
import Derived.Test.YtbnmicpicjmgiaaGreatDoorZz09
import Derived.Test.YtbnmicpicjmgiaaGreatDoorZz25
set_option linter.all false
open Bool renaming and_eq_true->aw,not_eq_true'->dm,false_or->fU,true->I
open List renaming forall_mem_cons->bw,all_eq_true->bF,any_eq_true->fC
open Nat renaming beq->gH,eq_of_beq_eq_true->yc
open Option renaming some->Z
namespace Go.Proofs.YtbnmicpicjmgiaaGreatDoor
set_option maxRecDepth 100000
def art:∀p∈afQ,OkK Tryz.prog num p.1 p.2:=by unfold afQ;refine bw.2 ⟨.of anV rfl,?_⟩;refine bw.2 ⟨.of anW rfl,?_⟩;refine bw.2 ⟨.of arp rfl,?_⟩;refine bw.2 ⟨.of arq rfl,?_⟩;refine bw.2 ⟨.of ars rfl,?_⟩;refine bw.2 ⟨.of anD rfl,?_⟩;refine bw.2 ⟨.of anE rfl,?_⟩;refine bw.2 ⟨.of anF rfl,?_⟩;refine bw.2 ⟨.of anG rfl,?_⟩;refine bw.2 ⟨.of anH rfl,?_⟩;refine bw.2 ⟨.of anI rfl,?_⟩;refine bw.2 ⟨.of anJ rfl,?_⟩;refine bw.2 ⟨.of anK rfl,?_⟩;refine bw.2 ⟨.of anL rfl,?_⟩;refine bw.2 ⟨.of anM rfl,?_⟩;refine bw.2 ⟨.of anN rfl,?_⟩;refine bw.2 ⟨.of anO rfl,?_⟩;refine bw.2 ⟨.of anP rfl,?_⟩;refine bw.2 ⟨.of anQ rfl,?_⟩;refine bw.2 ⟨.of anR rfl,?_⟩;refine bw.2 ⟨.of anS rfl,?_⟩;refine bw.2 ⟨.of anT rfl,?_⟩;refine bw.2 ⟨.of anU rfl,?_⟩;refine bw.2 ⟨.of anY rfl,?_⟩;refine bw.2 ⟨.of anZ rfl,?_⟩;refine bw.2 ⟨.of an0 rfl,?_⟩;refine bw.2 ⟨.of an1 rfl,?_⟩;refine bw.2 ⟨.ext x9001,?_⟩;refine bw.2 ⟨.ext x9002,?_⟩;refine bw.2 ⟨.ext x9003,?_⟩;exact λ_ h=>by cases h
def fsS:fs.all (λf=>o0.any λp=>gH p.2.f f)=I:=by kernel_rfl
def fsX:fs.all (λf=>!yw f exs)=I:=by kernel_rfl
def an2(f:Nat)(c:KF)(h:T f=Z c):OkK Tryz.prog num f c:=by have l:=h;unfold T at h;split at h;{rename_i k i;cases h;exact art (f,_) (GH afQ i)};split at h;{rename_i j;have e:=Ld j;obtain⟨p,g,a⟩:=fC.1 (bF.1 fsS f e);have a:=yc a;have b:=cg p g;have d:=bF.1 fsX f e;rw[dm]at d;simp only[cg1,a,l,d,fU,aw]at b;exact .of b.1 b.2.1.1.2};cases h
end Go.Proofs.YtbnmicpicjmgiaaGreatDoor
