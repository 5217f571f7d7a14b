/- Part of the proof. Condition: none. -/
import Derived.Test.YtbnmicpicjmgiaaGreatDoorRows
import Derived.Test.YtbnmicpicjmgiaaGreatDoorProg
import Derived.ProofKit
import Derived.Stop.Joined
set_option linter.all false
open Bool renaming true->I
namespace Go.Proofs.YtbnmicpicjmgiaaGreatDoor.fnExactIsStore
section
open Go Go.RowKit
def jb:(Rows.fnExactIsStoreRow.wf (OpenSpec.ofChange Rows.fnExactIsStoreSpec) && laidOutB Tryz.pinned.checked.prog && mapsRowed Tryz.pinned.checked.prog && Tryz.f3.params.all (Tryz.pinned.checked.prog.readableRec ·) && namedTie Tryz.pinned.checked.prog Rows.fnExactIsStoreRow.named Rows.fnExactIsStoreSpec.vars && (Rows.fnExactIsStoreRow.stops ==[]) && (Tryz.pinned.checked.prog.stops ==[]) && (Rows.fnExactIsStoreRow.knobs ==[]) && (Tryz.pinned.checked.prog.stopKnobs ==[]))=I:=by kernel_rfl
end
end Go.Proofs.YtbnmicpicjmgiaaGreatDoor.fnExactIsStore
