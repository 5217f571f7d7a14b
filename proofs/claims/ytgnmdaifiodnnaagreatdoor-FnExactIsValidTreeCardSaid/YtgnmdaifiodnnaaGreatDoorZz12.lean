/- Part of the proof. Condition: none. -/
import Derived.Test.YtgnmdaifiodnnaaGreatDoorRows
import Derived.Test.YtgnmdaifiodnnaaGreatDoorProg
import Derived.ProofKit
import Derived.Stop.Joined
set_option linter.all false
open Bool renaming true->I
namespace Go.Proofs.YtgnmdaifiodnnaaGreatDoor.fnExactIsValidTree
section
open Go Go.RowKit
def jb:(Rows.fnExactIsValidTreeRow.wf (OpenSpec.ofChange Rows.fnExactIsValidTreeSpec) && laidOutB Tryz.pinned.checked.prog && mapsRowed Tryz.pinned.checked.prog && Tryz.f3.params.all (Tryz.pinned.checked.prog.readableRec ·) && namedTie Tryz.pinned.checked.prog Rows.fnExactIsValidTreeRow.named Rows.fnExactIsValidTreeSpec.vars && (Rows.fnExactIsValidTreeRow.stops ==[]) && (Tryz.pinned.checked.prog.stops ==[]) && (Rows.fnExactIsValidTreeRow.knobs ==[]) && (Tryz.pinned.checked.prog.stopKnobs ==[]))=I:=by kernel_rfl
end
end Go.Proofs.YtgnmdaifiodnnaaGreatDoor.fnExactIsValidTree
