/- Part of the proof: a machine over plain data, its proof, the functions of the program run on symbols, what they answer. Condition: none. -/
import Derived.Test.YtnnjajingjfjiaaGreatDoorRows
import Derived.Test.YtnnjajingjfjiaaGreatDoorTie
import Derived.Test.YtnnjajingjfjiaaGreatDoorCards
import Derived.ProofKit
import Derived.LaidMore
import Derived.OpenShut
import Derived.ShutString
import Derived.ChangeOld
import Derived.Below
import Derived.Stop.LaidErr
import Derived.Stop.Joined
import Derived.SevenTiedAt
import Derived.Lib.LaidTab
import Derived.Test.YtnnjajingjfjiaaGreatDoorZz43
set_option linter.unusedVariables false
set_option linter.unusedSimpArgs false
open Array renaming mem_of_getElem?->yd
open List renaming all_eq_true->bw
open Option.some renaming inj->ey
open Option renaming some->Z
open Bool renaming true->I,false->J
namespace Go.Proofs.YtnnjajingjfjiaaGreatDoor.fnExactReplayJournal
section
open Go.ChangeShapes Go.WideShapes Go.ChangeAt Go.RowKit
open Go.ChangeMaps (open_string shut_string)
theorem proved:Rows.FnExactReplayJournalCardSaid:=
 Claim7.holds_tied_plain_at .later [] [.data,.data,.data] I (I,"316fe00b8be06d5c36358f200354aa30914b4b3f1e14e838d21dd009f262540d") J
  over (λ_ h=>by cases h) (by kernel_rfl) (λ_ h=>by cases h) fnExactReplayJournal_row_tie rfl ⟨rfl,rfl⟩ (by kernel_rfl) rfl
  (λf g e i=>by
   obtain rfl:f=3:=ey ((show Tryz.prog.funcNamed "loop.example/g03013/laws.FnExactReplayJournal"=Z 3 by kernel_rfl).symm.trans e) |>.symm;obtain rfl:g=Tryz.f3:=(ey (Tryz.func3.symm.trans i)).symm;exact⟨by kernel_rfl,λj t b=>by
    rw[Tryz.params3]at b;have d:t∈[22,26]:=by simpa using yd b
    have c:([22,26].all λa=>!Tryz.prog.wantsStandIn a)=I:=by kernel_rfl
    exact (show Tryz.prog.wantsStandIn t=J by simpa using bw.1 c t d)⟩)
  (by kernel_rfl)
end
end Go.Proofs.YtnnjajingjfjiaaGreatDoor.fnExactReplayJournal
