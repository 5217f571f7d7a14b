/- Part of the proof. Condition: none. -/
import Derived.Test.YtgnmdaifiodnnaaGreatDoorRows
import Derived.Test.YtgnmdaifiodnnaaGreatDoorProg
import Derived.ProofKit
import Derived.Stop.Joined
set_option linter.all false
open Bool renaming true->I
namespace Go.Proofs.YtgnmdaifiodnnaaGreatDoor.fnExactFirstFault
section
open Go Go.RowKit
def jd:((Rows.fnExactFirstFaultRow.inPlace ==Tryz.pinned.checked.prog.inPlace 4) && (Rows.fnExactFirstFaultRow.unfollowed ==Tryz.pinned.checked.prog.unfollowed 4))=I:=by kernel_rfl
end
end Go.Proofs.YtgnmdaifiodnnaaGreatDoor.fnExactFirstFault
