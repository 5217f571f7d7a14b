/- Part of the proof: a machine over plain data, its proof, the functions of the program run on symbols, what they answer. Condition: none. -/
import Derived.Test.YtnnjajingjfjiaaGreatDoorZz13
import Derived.Test.YtnnjajingjfjiaaGreatDoorZz33
set_option linter.unusedVariables false
set_option linter.unusedSimpArgs false
open Bool renaming and_eq_true->ai,not_eq_true'->cq,false_or->gA,true->I
open List renaming forall_mem_cons->br,all_eq_true->bw,any_eq_true->kI
open Nat renaming beq->gR,eq_of_beq_eq_true->l8
open Option renaming some->Z
namespace Go.Proofs.YtnnjajingjfjiaaGreatDoor
set_option maxRecDepth 100000
section
theorem anw:∀p∈adg,OkK Tryz.prog num p.1 p.2:=by
 unfold adg;refine br.2 ⟨.of akm rfl,?_⟩;refine br.2 ⟨.of akn rfl,?_⟩;refine br.2 ⟨.of anp rfl,?_⟩;refine br.2 ⟨.of anq rfl,?_⟩;refine br.2 ⟨.of anr rfl,?_⟩;refine br.2 ⟨.of ans rfl,?_⟩;refine br.2 ⟨.of ant rfl,?_⟩;refine br.2 ⟨.of anu rfl,?_⟩;refine br.2 ⟨.of anv rfl,?_⟩;refine br.2 ⟨.of aj5 rfl,?_⟩;refine br.2 ⟨.of aj6 rfl,?_⟩;refine br.2 ⟨.of aj7 rfl,?_⟩;refine br.2 ⟨.of aj8 rfl,?_⟩;refine br.2 ⟨.of aj9 rfl,?_⟩;refine br.2 ⟨.of aj_ rfl,?_⟩;refine br.2 ⟨.of aka rfl,?_⟩;refine br.2 ⟨.of akb rfl,?_⟩;refine br.2 ⟨.of akc rfl,?_⟩;refine br.2 ⟨.of akd rfl,?_⟩;refine br.2 ⟨.of ake rfl,?_⟩;refine br.2 ⟨.of akf rfl,?_⟩;refine br.2 ⟨.of akg rfl,?_⟩;refine br.2 ⟨.of akh rfl,?_⟩;refine br.2 ⟨.of aki rfl,?_⟩;refine br.2 ⟨.of akj rfl,?_⟩;refine br.2 ⟨.of akk rfl,?_⟩;refine br.2 ⟨.of akl rfl,?_⟩;refine br.2 ⟨.ext x9001,?_⟩;refine br.2 ⟨.ext x9002,?_⟩;refine br.2 ⟨.ext x9003,?_⟩;exact λ_ h=>by cases h
theorem fsS:fs.all (λf=>qq.any λp=>gR p.2.f f)=I:=by kernel_rfl
theorem fsX:fs.all (λf=>!xW f exs)=I:=by kernel_rfl
theorem Zw(f:Nat)(c:KF)(h:T f=Z c):OkK Tryz.prog num f c:=by
 have l:=h;unfold T at h
 split at h
 ·rename_i k i;cases h;exact anw (f,_) (Gj adg i)
 ·split at h
  ·rename_i j;have e:=Kt j;obtain⟨p,g,a⟩:=kI.1 (bw.1 fsS f e);have a:=l8 a;have b:=cg p g;have d:=bw.1 fsX f e;rw[cq]at d;simp only[cg1,a,l,d,gA,ai]at b;exact .of b.1 b.2.1.2
  ·cases h
end
end Go.Proofs.YtnnjajingjfjiaaGreatDoor
