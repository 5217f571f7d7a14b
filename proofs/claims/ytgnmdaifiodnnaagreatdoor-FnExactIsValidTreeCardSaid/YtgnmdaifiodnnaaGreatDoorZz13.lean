/- Part of the proof. Condition: none. -/
import Derived.Test.YtgnmdaifiodnnaaGreatDoorRows
import Derived.Test.YtgnmdaifiodnnaaGreatDoorProg
import Derived.ProofKit
import Derived.Stop.Joined
set_option linter.all false
open Bool renaming true->I
namespace Go.Proofs.YtgnmdaifiodnnaaGreatDoor.fnExactIsValidTree
section
open Go Go.RowKit
def jd:((Rows.fnExactIsValidTreeRow.inPlace ==Tryz.pinned.checked.prog.inPlace 3) && (Rows.fnExactIsValidTreeRow.unfollowed ==Tryz.pinned.checked.prog.unfollowed 3))=I:=by kernel_rfl
end
end Go.Proofs.YtgnmdaifiodnnaaGreatDoor.fnExactIsValidTree
