/- Part of the proof. Condition: none. -/
import Derived.Test.YtbnmicpicjmgiaaGreatDoorRows
import Derived.Test.YtbnmicpicjmgiaaGreatDoorProg
import Derived.ProofKit
import Derived.Stop.Joined
set_option linter.all false
open Bool renaming true->I
namespace Go.Proofs.YtbnmicpicjmgiaaGreatDoor.fnExactIsStore
section
open Go Go.RowKit
def je:((Rows.fnExactIsStoreRow.recurses ==Tryz.pinned.checked.prog.recurses 3) && (Rows.fnExactIsStoreRow.named ==Tryz.pinned.checked.prog.varsNamed 3))=I:=by kernel_rfl
end
end Go.Proofs.YtbnmicpicjmgiaaGreatDoor.fnExactIsStore
