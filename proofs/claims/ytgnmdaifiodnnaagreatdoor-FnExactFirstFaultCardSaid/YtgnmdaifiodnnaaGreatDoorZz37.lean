/- Part. Condition: none. -/
import Derived.Test.YtgnmdaifiodnnaaGreatDoorZz31
import Derived.Test.YtgnmdaifiodnnaaGreatDoorZz32
import Derived.Test.YtgnmdaifiodnnaaGreatDoorZz33
import Derived.Test.YtgnmdaifiodnnaaGreatDoorZz34
import Derived.Test.YtgnmdaifiodnnaaGreatDoorZz36
set_option linter.all false
open Bool renaming and_eq_true->aw,true->I
namespace Go.Proofs.YtgnmdaifiodnnaaGreatDoor.fnExactFirstFault
section
open Go.ChangeShapes Go.WideShapes Go.ChangeAt Go.RowKit
open Go.ChangeMaps (open_string shut_string)
def QU:Go.joinedFacts Tryz.pinned.checked.prog 4 Tryz.f4 Rows.fnExactFirstFaultSpec Rows.fnExactFirstFaultRow=I:=by have j:=jb;simp only[aw]at j;obtain⟨⟨⟨⟨⟨⟨⟨⟨G,F⟩,D⟩,C⟩,B⟩,A⟩,y⟩,x⟩,w⟩:=j;have j:=jd;simp only[aw]at j;obtain⟨v,s⟩:=j;have j:=je;simp only[aw]at j;obtain⟨K,r⟩:=j;have j:=jf;simp only[aw]at j;obtain⟨⟨⟨⟨⟨⟨⟨⟨⟨⟨⟨⟨⟨⟨⟨⟨⟨H,q⟩,p⟩,o⟩,n⟩,m⟩,l⟩,k⟩,i⟩,h⟩,g⟩,f⟩,e⟩,d⟩,c⟩,b⟩,t⟩,a⟩:=j;unfold joinedFacts;simp only[aw];exact⟨⟨⟨⟨⟨⟨⟨⟨⟨⟨⟨⟨⟨⟨⟨⟨⟨⟨⟨⟨⟨⟨⟨⟨⟨⟨⟨⟨⟨⟨⟨G,F⟩,D⟩,C⟩,B⟩,A⟩,y⟩,x⟩,w⟩,v⟩,s⟩,K⟩,r⟩,H⟩,q⟩,p⟩,o⟩,n⟩,m⟩,l⟩,k⟩,i⟩,h⟩,g⟩,f⟩,e⟩,d⟩,c⟩,by kernel_rfl⟩,b⟩,t⟩,a⟩
def over:Rows.fnExactFirstFaultRow.holds Tryz.pinned (OpenSpec.ofChange Rows.fnExactFirstFaultSpec):=
 OpenClaim.holds_of_wide 4 Tryz.f4 rfl rfl rfl rfl rfl rfl rfl ⟨rfl,rfl,rfl,rfl,rfl⟩ rfl rfl rfl rfl rfl (by kernel_rfl) Tryz.func4 QU
  (of_decide_eq_true (by kernel_rfl)) (by unfold Func.isWrapper;first|(rw[if_pos (by decide +kernel)];kernel_rfl)|(rw[if_neg (by decide +kernel)];exact⟨rfl,rfl⟩))
  (λos a H b _=>lifted os a H b)
end
end Go.Proofs.YtgnmdaifiodnnaaGreatDoor.fnExactFirstFault
