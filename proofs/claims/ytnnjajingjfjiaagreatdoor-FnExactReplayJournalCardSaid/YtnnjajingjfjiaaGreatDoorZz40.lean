/- Part of the proof: a machine over plain data, its proof, the functions of the program run on symbols, what they answer. Condition: none. -/
import Derived.Test.YtnnjajingjfjiaaGreatDoorZz26
import Derived.Test.YtnnjajingjfjiaaGreatDoorZz39
set_option linter.unusedVariables false
set_option linter.unusedSimpArgs false
set_option linter.unusedSectionVars false
namespace Go.Proofs.YtnnjajingjfjiaaGreatDoor
theorem Qa{B:Nat}{es:M (M D)}(ok:dw B 4 es):∃a:M nF,es=a.map gM:=nK λe g=>by
 obtain⟨d,b,i,h,_,_,_,c⟩:=oC (ok.mem e g);obtain⟨f,rfl⟩:=EE c;exact⟨⟨d,b,f⟩,h⟩
end Go.Proofs.YtnnjajingjfjiaaGreatDoor
