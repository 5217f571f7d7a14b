/- Part of the proof. Condition: none. -/
import Derived.Test.YtgnmdaifiodnnaaGreatDoorRows
import Derived.Test.YtgnmdaifiodnnaaGreatDoorProg
import Derived.ProofKit
import Derived.Stop.Joined
set_option linter.all false
open Bool renaming true->I
namespace Go.Proofs.YtgnmdaifiodnnaaGreatDoor.fnExactFirstFault
section
open Go Go.RowKit
def jb:(Rows.fnExactFirstFaultRow.wf (OpenSpec.ofChange Rows.fnExactFirstFaultSpec) && laidOutB Tryz.pinned.checked.prog && mapsRowed Tryz.pinned.checked.prog && Tryz.f4.params.all (Tryz.pinned.checked.prog.readableRec ·) && namedTie Tryz.pinned.checked.prog Rows.fnExactFirstFaultRow.named Rows.fnExactFirstFaultSpec.vars && (Rows.fnExactFirstFaultRow.stops ==[]) && (Tryz.pinned.checked.prog.stops ==[]) && (Rows.fnExactFirstFaultRow.knobs ==[]) && (Tryz.pinned.checked.prog.stopKnobs ==[]))=I:=by kernel_rfl
end
end Go.Proofs.YtgnmdaifiodnnaaGreatDoor.fnExactFirstFault
