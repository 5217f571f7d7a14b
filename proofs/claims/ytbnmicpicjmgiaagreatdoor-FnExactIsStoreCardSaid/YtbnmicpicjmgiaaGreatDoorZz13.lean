/- Part of the proof. Condition: none. -/
import Derived.Test.YtbnmicpicjmgiaaGreatDoorRows
import Derived.Test.YtbnmicpicjmgiaaGreatDoorProg
import Derived.ProofKit
import Derived.Stop.Joined
set_option linter.all false
open Bool renaming true->I
namespace Go.Proofs.YtbnmicpicjmgiaaGreatDoor.fnExactIsStore
section
open Go Go.RowKit
def jd:((Rows.fnExactIsStoreRow.inPlace ==Tryz.pinned.checked.prog.inPlace 3) && (Rows.fnExactIsStoreRow.unfollowed ==Tryz.pinned.checked.prog.unfollowed 3))=I:=by kernel_rfl
end
end Go.Proofs.YtbnmicpicjmgiaaGreatDoor.fnExactIsStore
