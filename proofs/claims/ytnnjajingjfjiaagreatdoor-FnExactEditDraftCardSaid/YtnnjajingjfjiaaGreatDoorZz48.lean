/- Part of the proof: a machine over plain data, its proof, the functions of the program run on symbols, what they answer. Condition: none. -/
import Derived.Test.YtnnjajingjfjiaaGreatDoorZz26
import Derived.Test.YtnnjajingjfjiaaGreatDoorZz47
set_option linter.unusedVariables false
set_option linter.unusedSimpArgs false
set_option linter.unusedSectionVars false
open Nat renaming le_add_right->mY
namespace Go.Proofs.YtnnjajingjfjiaaGreatDoor
theorem M9{B:Nat}{es:M (M D)}(ok:dw B 13 es):∃a:M kK,es=a.map fE:=nK λe g=>by
 obtain⟨i,d,b,h,⟨_,c⟩,_⟩:=lT (ok.mem e g);obtain⟨f,rfl⟩:=tz c;exact⟨⟨f,d,b⟩,h⟩
theorem aeu(st:qE)(n:Int)(es:M ck):∃d c,(Wm st n es)=({st with qK:=d },c)/\bK aU d<=bK aU st.qK+zE es:=by
 unfold Wm;split
 ·exact⟨_,_,rfl,Ci⟩
 ·exact⟨st.qK,_,rfl,mY _ _⟩
end Go.Proofs.YtnnjajingjfjiaaGreatDoor
