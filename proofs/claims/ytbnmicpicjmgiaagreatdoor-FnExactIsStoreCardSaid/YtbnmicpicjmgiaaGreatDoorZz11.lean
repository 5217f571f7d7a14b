/- Part of the proof. Condition: none. -/
import Derived.Test.YtbnmicpicjmgiaaGreatDoorRows
import Derived.Test.YtbnmicpicjmgiaaGreatDoorProg
import Derived.ProofKit
import Derived.SevenTiedAt
set_option linter.all false
open Bool renaming false->J
namespace Go.Proofs.YtbnmicpicjmgiaaGreatDoor.fnExactIsStore
section
open Go Go.RowKit
def goes:J=Rows.fnExactIsStoreRow.goesBy Tryz.pinned.checked.prog:=by kernel_rfl
end
end Go.Proofs.YtbnmicpicjmgiaaGreatDoor.fnExactIsStore
