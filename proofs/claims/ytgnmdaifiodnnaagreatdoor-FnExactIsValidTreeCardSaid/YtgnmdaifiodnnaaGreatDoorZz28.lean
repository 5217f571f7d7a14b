/- Part. Condition: none. -/
import Derived.Test.YtgnmdaifiodnnaaGreatDoorZz12
import Derived.Test.YtgnmdaifiodnnaaGreatDoorZz13
import Derived.Test.YtgnmdaifiodnnaaGreatDoorZz14
import Derived.Test.YtgnmdaifiodnnaaGreatDoorZz15
import Derived.Test.YtgnmdaifiodnnaaGreatDoorZz27
set_option linter.all false
open Bool renaming and_eq_true->aw,true->I
namespace Go.Proofs.YtgnmdaifiodnnaaGreatDoor.fnExactIsValidTree
section
open Go.ChangeShapes Go.WideShapes Go.ChangeAt Go.RowKit
open Go.ChangeMaps (open_string shut_string)
def QU:Go.joinedFacts Tryz.pinned.checked.prog 3 Tryz.f3 Rows.fnExactIsValidTreeSpec Rows.fnExactIsValidTreeRow=I:=by have j:=jb;simp only[aw]at j;obtain⟨⟨⟨⟨⟨⟨⟨⟨G,F⟩,D⟩,C⟩,B⟩,A⟩,y⟩,x⟩,w⟩:=j;have j:=jd;simp only[aw]at j;obtain⟨v,s⟩:=j;have j:=je;simp only[aw]at j;obtain⟨K,r⟩:=j;have j:=jf;simp only[aw]at j;obtain⟨⟨⟨⟨⟨⟨⟨⟨⟨⟨⟨⟨⟨⟨⟨⟨⟨H,q⟩,p⟩,o⟩,n⟩,m⟩,l⟩,k⟩,i⟩,h⟩,g⟩,f⟩,e⟩,d⟩,c⟩,b⟩,t⟩,a⟩:=j;unfold joinedFacts;simp only[aw];exact⟨⟨⟨⟨⟨⟨⟨⟨⟨⟨⟨⟨⟨⟨⟨⟨⟨⟨⟨⟨⟨⟨⟨⟨⟨⟨⟨⟨⟨⟨⟨G,F⟩,D⟩,C⟩,B⟩,A⟩,y⟩,x⟩,w⟩,v⟩,s⟩,K⟩,r⟩,H⟩,q⟩,p⟩,o⟩,n⟩,m⟩,l⟩,k⟩,i⟩,h⟩,g⟩,f⟩,e⟩,d⟩,c⟩,by kernel_rfl⟩,b⟩,t⟩,a⟩
def over:Rows.fnExactIsValidTreeRow.holds Tryz.pinned (OpenSpec.ofChange Rows.fnExactIsValidTreeSpec):=
 OpenClaim.holds_of_wide 3 Tryz.f3 rfl rfl rfl rfl rfl rfl rfl ⟨rfl,rfl,rfl,rfl,rfl⟩ rfl rfl rfl rfl rfl (by kernel_rfl) Tryz.func3 QU
  (of_decide_eq_true (by kernel_rfl)) (by unfold Func.isWrapper;first|(rw[if_pos (by decide +kernel)];kernel_rfl)|(rw[if_neg (by decide +kernel)];exact⟨rfl,rfl⟩))
  (λos a H b _=>lifted os a H b)
end
end Go.Proofs.YtgnmdaifiodnnaaGreatDoor.fnExactIsValidTree
