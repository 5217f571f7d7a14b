/- Part of the proof. Condition: none. -/
import Derived.Test.YtbnmicpicjmgiaaGreatDoorRows
import Derived.Test.YtbnmicpicjmgiaaGreatDoorTie
import Derived.Test.YtbnmicpicjmgiaaGreatDoorCards
import Derived.ProofKit
import Derived.LaidMore
import Derived.OpenShut
import Derived.ShutString
import Derived.ChangeOld
import Derived.Below
import Derived.Stop.LaidErr
import Derived.Stop.Joined
import Derived.SevenTiedAt
import Derived.Lib.LaidTab
import Derived.Test.YtbnmicpicjmgiaaGreatDoorZz11
import Derived.Test.YtbnmicpicjmgiaaGreatDoorZz28
set_option linter.all false
open List renaming all_eq_true->bF
open Option.some renaming inj->hO
open Option renaming some->Z
open Bool renaming true->I,false->J
namespace Go.Proofs.YtbnmicpicjmgiaaGreatDoor.fnExactIsStore
section
open Go.ChangeShapes Go.WideShapes Go.ChangeAt Go.RowKit
open Go.ChangeMaps (open_string shut_string)
theorem proved:Rows.FnExactIsStoreCardSaid:=
 Claim7.holds_tied_plain_at .later [] [.data,.data,.data] I (I,"c816aa85cc6eb8d84ca0585dce880161be165483b5a35ea88c2375577f3928a1") J
  over (λ_ h=>by cases h) (by kernel_rfl) (λ_ h=>by cases h) fnExactIsStore_row_tie rfl ⟨rfl,rfl⟩ (by kernel_rfl) rfl
  (λf fn e g=>by
   obtain rfl:f=3:=hO ((show Tryz.prog.funcNamed "loop.example/g03013/laws.FnExactIsStore"=Z 3 by kernel_rfl).symm.trans e) |>.symm;obtain rfl:fn=Tryz.f3:=(hO (Tryz.func3.symm.trans g)).symm;exact⟨by kernel_rfl,λj t b=>by
    rw[Tryz.params3]at b;have d:t∈[28]:=by simpa using Array.mem_of_getElem? b
    have c:([28].all λa=>!Tryz.prog.wantsStandIn a)=I:=by kernel_rfl
    exact (show Tryz.prog.wantsStandIn t=J by simpa using bF.1 c t d)⟩)
  goes
#print axioms proved
end
end Go.Proofs.YtbnmicpicjmgiaaGreatDoor.fnExactIsStore
