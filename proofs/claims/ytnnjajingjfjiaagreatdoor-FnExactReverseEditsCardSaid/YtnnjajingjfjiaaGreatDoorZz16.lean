/- Part of the proof: a machine over plain data, its proof, the functions of the program run on symbols, what they answer. Condition: none. -/
import Derived.Test.YtnnjajingjfjiaaGreatDoorRows
import Derived.Test.YtnnjajingjfjiaaGreatDoorProg
import Derived.ProofKit
import Derived.Stop.Joined
set_option linter.unusedVariables false
set_option linter.unusedSimpArgs false
open Bool renaming true->I
namespace Go.Proofs.YtnnjajingjfjiaaGreatDoor.fnExactReverseEdits
section
open Go Go.RowKit
theorem Fk:joinedFacts Tryz.pinned.checked.prog 4 Tryz.f4 Rows.fnExactReverseEditsSpec Rows.fnExactReverseEditsRow=I:=by kernel_rfl
end
end Go.Proofs.YtnnjajingjfjiaaGreatDoor.fnExactReverseEdits
