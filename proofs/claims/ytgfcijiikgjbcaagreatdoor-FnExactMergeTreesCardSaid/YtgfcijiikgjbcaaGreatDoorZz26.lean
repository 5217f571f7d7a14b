/- Part of the proof: a machine over plain data, its proof, the functions of the program run on symbols, what they answer. Condition: none. -/
import Derived.Test.YtgfcijiikgjbcaaGreatDoorZz13
import Derived.Test.YtgfcijiikgjbcaaGreatDoorZz25
set_option linter.unusedVariables false
set_option linter.unusedSimpArgs false
open Bool renaming and_eq_true->ai,not_eq_true'->ck,false_or->gG,true->I
open List renaming all_eq_true->bz,forall_mem_cons->cm,any_eq_true->kI
open Nat renaming beq->hX,eq_of_beq_eq_true->l9
open Option renaming some->Z
namespace Go.Proofs.YtgfcijiikgjbcaaGreatDoor
set_option maxRecDepth 100000
section
theorem aku:∀p∈abe,Yq Tryz.prog num p.1 p.2:=by
 unfold abe;refine cm.2 ⟨.of ahh rfl,?_⟩;refine cm.2 ⟨.of ahi rfl,?_⟩;refine cm.2 ⟨.of akq rfl,?_⟩;refine cm.2 ⟨.of akr rfl,?_⟩;refine cm.2 ⟨.of aks rfl,?_⟩;refine cm.2 ⟨.of akt rfl,?_⟩;refine cm.2 ⟨.of ahb rfl,?_⟩;refine cm.2 ⟨.of ahc rfl,?_⟩;refine cm.2 ⟨.of ahd rfl,?_⟩;refine cm.2 ⟨.of ahe rfl,?_⟩;refine cm.2 ⟨.of ahf rfl,?_⟩;refine cm.2 ⟨.of ahg rfl,?_⟩;refine cm.2 ⟨.ext x9001,?_⟩;refine cm.2 ⟨.ext x9002,?_⟩;refine cm.2 ⟨.ext x9003,?_⟩;exact λ_ h=>by cases h
theorem fsS:fs.all (λf=>xf.any λp=>hX p.2.f f)=I:=by kernel_rfl
theorem fsX:fs.all (λf=>!wV f exs)=I:=by kernel_rfl
theorem abP(f:Nat)(c:KF)(h:T f=Z c):Yq Tryz.prog num f c:=by
 have l:=h;unfold T at h
 split at h
 ·rename_i k i;cases h;exact aku (f,_) (EE abe i)
 ·split at h
  ·rename_i j;have e:=IV j;obtain⟨p,g,a⟩:=kI.1 (bz.1 fsS f e);have a:=l9 a;have b:=cg p g;have d:=bz.1 fsX f e;rw[ck]at d;simp only[cg1,a,l,d,gG,ai]at b;exact .of b.1 b.2.1.2
  ·cases h
end
end Go.Proofs.YtgfcijiikgjbcaaGreatDoor
