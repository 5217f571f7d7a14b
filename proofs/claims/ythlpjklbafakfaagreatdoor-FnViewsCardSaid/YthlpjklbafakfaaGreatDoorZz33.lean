/- Part of the proof: a machine over plain data, its proof, the functions of the program run on symbols, what they answer. Condition: none. -/
import Derived.Test.YthlpjklbafakfaaGreatDoorRows
import Derived.Test.YthlpjklbafakfaaGreatDoorTie
import Derived.Test.YthlpjklbafakfaaGreatDoorCards
import Derived.ProofKit
import Derived.LaidMore
import Derived.OpenShut
import Derived.ShutString
import Derived.ChangeOld
import Derived.Below
import Derived.Stop.LaidErr
import Derived.Stop.Joined
import Derived.SevenTiedAt
import Derived.Lib.LaidTab
import Derived.Test.YthlpjklbafakfaaGreatDoorZz32
set_option linter.unusedVariables false
set_option linter.unusedSimpArgs false
open List renaming all_eq_true->bg
open Option.some renaming inj->iE
open Option renaming some->Z
open Bool renaming true->I,false->J
namespace Go.Proofs.YthlpjklbafakfaaGreatDoor.fnViews
section
open Go.ChangeShapes Go.WideShapes Go.ChangeAt Go.RowKit
open Go.ChangeMaps (open_string shut_string)
theorem proved:Rows.FnViewsCardSaid:=
 Claim7.holds_tied_plain_at .later [] [.data,.data,.data] I (I,"b2ce0b42c849a675c9df94f934f44fab500c0f67f9c1a596ce0131751e1c4878") J
  over (λ_ h=>by cases h) (by kernel_rfl) (λ_ h=>by cases h) fnViews_row_tie rfl ⟨rfl,rfl⟩ (by kernel_rfl) rfl
  (λf g e i=>by
   obtain rfl:f=3:=iE ((show Tryz.prog.funcNamed "loop.example/g03013/laws.FnViews"=Z 3 by kernel_rfl).symm.trans e) |>.symm;obtain rfl:g=Tryz.f3:=(iE (Tryz.func3.symm.trans i)).symm;exact⟨by kernel_rfl,λj t b=>by
    rw[Tryz.params3]at b;have d:t∈[22]:=by simpa using Array.mem_of_getElem? b
    have c:([22].all λa=>!Tryz.prog.wantsStandIn a)=I:=by kernel_rfl
    exact (show Tryz.prog.wantsStandIn t=J by simpa using bg.1 c t d)⟩)
  (by kernel_rfl)
#print axioms proved
end
end Go.Proofs.YthlpjklbafakfaaGreatDoor.fnViews
