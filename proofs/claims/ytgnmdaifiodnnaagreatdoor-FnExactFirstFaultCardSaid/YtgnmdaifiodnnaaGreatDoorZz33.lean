/- Part of the proof. Condition: none. -/
import Derived.Test.YtgnmdaifiodnnaaGreatDoorRows
import Derived.Test.YtgnmdaifiodnnaaGreatDoorProg
import Derived.ProofKit
import Derived.Stop.Joined
set_option linter.all false
open Bool renaming true->I
namespace Go.Proofs.YtgnmdaifiodnnaaGreatDoor.fnExactFirstFault
section
open Go Go.RowKit
def je:((Rows.fnExactFirstFaultRow.recurses ==Tryz.pinned.checked.prog.recurses 4) && (Rows.fnExactFirstFaultRow.named ==Tryz.pinned.checked.prog.varsNamed 4))=I:=by kernel_rfl
end
end Go.Proofs.YtgnmdaifiodnnaaGreatDoor.fnExactFirstFault
