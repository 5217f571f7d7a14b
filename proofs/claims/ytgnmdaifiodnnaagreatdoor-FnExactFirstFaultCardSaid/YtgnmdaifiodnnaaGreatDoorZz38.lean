/- Part. Condition: none. -/
import Derived.Test.YtgnmdaifiodnnaaGreatDoorTie
import Derived.Test.YtgnmdaifiodnnaaGreatDoorCards
import Derived.Test.YtgnmdaifiodnnaaGreatDoorZz30
import Derived.Test.YtgnmdaifiodnnaaGreatDoorZz37
set_option linter.all false
open List renaming all_eq_true->bG
open Option.some renaming inj->fQ
open Option renaming some->Z
open Bool renaming true->I,false->J
namespace Go.Proofs.YtgnmdaifiodnnaaGreatDoor.fnExactFirstFault
section
open Go.ChangeShapes Go.WideShapes Go.ChangeAt Go.RowKit
open Go.ChangeMaps (open_string shut_string)
theorem proved:Rows.FnExactFirstFaultCardSaid:=
 Claim7.holds_tied_plain_at .later [] [.data,.data,.data] I (I,"16d7dd92ee2813c78e001c9b88da056a7d259463d55a9853b8a2970a73309856") J
  over (λ_ h=>by cases h) (by kernel_rfl) (λ_ h=>by cases h) fnExactFirstFault_row_tie rfl ⟨rfl,rfl⟩ (by kernel_rfl) rfl
  (λf fn g c=>by
   obtain rfl:f=4:=fQ ((show Tryz.prog.funcNamed "loop.example/g03013/laws.FnExactFirstFault"=Z 4 by kernel_rfl).symm.trans g) |>.symm;obtain rfl:fn=Tryz.f4:=(fQ (Tryz.func4.symm.trans c)).symm;exact⟨by kernel_rfl,λj t b=>by
    rw[Tryz.params4]at b;have e:t∈[22,23]:=by simpa using Array.mem_of_getElem? b
    have d:([22,23].all λa=>!Tryz.prog.wantsStandIn a)=I:=by kernel_rfl
    exact (show Tryz.prog.wantsStandIn t=J by simpa using bG.1 d t e)⟩)
  goes
end
end Go.Proofs.YtgnmdaifiodnnaaGreatDoor.fnExactFirstFault
