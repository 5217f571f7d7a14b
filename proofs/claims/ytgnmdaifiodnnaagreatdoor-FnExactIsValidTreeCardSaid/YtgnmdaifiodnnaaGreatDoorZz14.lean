/- Part of the proof. Condition: none. -/
import Derived.Test.YtgnmdaifiodnnaaGreatDoorRows
import Derived.Test.YtgnmdaifiodnnaaGreatDoorProg
import Derived.ProofKit
import Derived.Stop.Joined
set_option linter.all false
open Bool renaming true->I
namespace Go.Proofs.YtgnmdaifiodnnaaGreatDoor.fnExactIsValidTree
section
open Go Go.RowKit
def je:((Rows.fnExactIsValidTreeRow.recurses ==Tryz.pinned.checked.prog.recurses 3) && (Rows.fnExactIsValidTreeRow.named ==Tryz.pinned.checked.prog.varsNamed 3))=I:=by kernel_rfl
end
end Go.Proofs.YtgnmdaifiodnnaaGreatDoor.fnExactIsValidTree
