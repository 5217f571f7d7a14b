/- Part of the proof: a machine over plain data, its proof, the functions of the program run on symbols, what they answer. Condition: none. -/
import Derived.Test.YtnnjajingjfjiaaGreatDoorZz18
set_option linter.unusedVariables false
set_option linter.unusedSimpArgs false
open List renaming cons_append->au,nil_append->av
open Option renaming some->Z
namespace Go.Proofs.YtnnjajingjfjiaaGreatDoor
set_option maxRecDepth 100000
set_option maxHeartbeats 4000000
section
theorem ak5{n:ah}{l:M az}{x:az}(b:ee (ax n)<=mg)(f:bK aU l<=mg)(e:x.aa.length<=mg) :
  G 252 (ax n++[aE l]++aU x)=Z (0,[E (ij (uF n l x))]):=by
 have a:=mT b;have d:=ZL (n:=n) (x:=x) a e;have c:=ak4 (n:=n) (l:=l) (v:=x.aS) (key:=(keyOf n x).1) b f (nt a);simp only[af,aN,au,av]at d c;refine ct t252 (by rw[af,aN];rfl) ?_;unfold uF;simp only[go_sem,t252,af n,aN x,d,c,n_]
end
end Go.Proofs.YtnnjajingjfjiaaGreatDoor
