/- Part of the proof: a machine over plain data, its proof, the functions of the program run on symbols, what they answer. Condition: none. -/
import Derived.Test.YthlpjklbafakfaaGreatDoorRows
import Derived.Test.YthlpjklbafakfaaGreatDoorProg
import Derived.ProofKit
import Derived.Stop.Joined
set_option linter.unusedVariables false
set_option linter.unusedSimpArgs false
open Bool renaming true->I
namespace Go.Proofs.YthlpjklbafakfaaGreatDoor.fnViews
section
open Go Go.RowKit
theorem adD:joinedFacts Tryz.pinned.checked.prog 3 Tryz.f3 Rows.fnViewsSpec Rows.fnViewsRow=I:=by kernel_rfl
end
end Go.Proofs.YthlpjklbafakfaaGreatDoor.fnViews
