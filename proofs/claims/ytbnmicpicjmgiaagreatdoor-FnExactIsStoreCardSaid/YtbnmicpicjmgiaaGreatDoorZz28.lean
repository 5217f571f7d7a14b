/- Part of the proof. Condition: none. -/
import Derived.Test.YtbnmicpicjmgiaaGreatDoorRows
import Derived.Test.YtbnmicpicjmgiaaGreatDoorTie
import Derived.Test.YtbnmicpicjmgiaaGreatDoorCards
import Derived.ProofKit
import Derived.LaidMore
import Derived.OpenShut
import Derived.ShutString
import Derived.ChangeOld
import Derived.Below
import Derived.Stop.LaidErr
import Derived.Stop.Joined
import Derived.SevenTiedAt
import Derived.Lib.LaidTab
import Derived.Test.YtbnmicpicjmgiaaGreatDoorZz12
import Derived.Test.YtbnmicpicjmgiaaGreatDoorZz13
import Derived.Test.YtbnmicpicjmgiaaGreatDoorZz14
import Derived.Test.YtbnmicpicjmgiaaGreatDoorZz15
import Derived.Test.YtbnmicpicjmgiaaGreatDoorZz27
set_option linter.all false
open Bool renaming and_eq_true->aw,true->I
namespace Go.Proofs.YtbnmicpicjmgiaaGreatDoor.fnExactIsStore
section
open Go.ChangeShapes Go.WideShapes Go.ChangeAt Go.RowKit
open Go.ChangeMaps (open_string shut_string)
def ah1:Go.joinedFacts Tryz.pinned.checked.prog 3 Tryz.f3 Rows.fnExactIsStoreSpec Rows.fnExactIsStoreRow=I:=by have j:=jb;simp only[aw]at j;obtain⟨⟨⟨⟨⟨⟨⟨⟨F,D⟩,C⟩,B⟩,A⟩,y⟩,x⟩,w⟩,v⟩:=j;have j:=jd;simp only[aw]at j;obtain⟨t,r⟩:=j;have j:=je;simp only[aw]at j;obtain⟨H,K⟩:=j;have j:=jf;simp only[aw]at j;obtain⟨⟨⟨⟨⟨⟨⟨⟨⟨⟨⟨⟨⟨⟨⟨⟨⟨G,q⟩,p⟩,o⟩,n⟩,m⟩,l⟩,k⟩,i⟩,h⟩,g⟩,f⟩,e⟩,d⟩,c⟩,b⟩,s⟩,a⟩:=j;unfold joinedFacts;simp only[aw];exact⟨⟨⟨⟨⟨⟨⟨⟨⟨⟨⟨⟨⟨⟨⟨⟨⟨⟨⟨⟨⟨⟨⟨⟨⟨⟨⟨⟨⟨⟨⟨F,D⟩,C⟩,B⟩,A⟩,y⟩,x⟩,w⟩,v⟩,t⟩,r⟩,H⟩,K⟩,G⟩,q⟩,p⟩,o⟩,n⟩,m⟩,l⟩,k⟩,i⟩,h⟩,g⟩,f⟩,e⟩,d⟩,c⟩,by kernel_rfl⟩,b⟩,s⟩,a⟩
def over:Rows.fnExactIsStoreRow.holds Tryz.pinned (OpenSpec.ofChange Rows.fnExactIsStoreSpec):=
 OpenClaim.holds_of_wide 3 Tryz.f3 rfl rfl rfl rfl rfl rfl rfl ⟨rfl,rfl,rfl,rfl,rfl⟩ rfl rfl rfl rfl rfl (by kernel_rfl) Tryz.func3 ah1
  (of_decide_eq_true (by kernel_rfl)) (by unfold Func.isWrapper;first|(rw[if_pos (by decide +kernel)];kernel_rfl)|(rw[if_neg (by decide +kernel)];exact⟨rfl,rfl⟩))
  (λos a H b _=>lifted os a H b)
end
end Go.Proofs.YtbnmicpicjmgiaaGreatDoor.fnExactIsStore
