/- Part of the proof: a machine over plain data, its proof, the functions of the program run on symbols, what they answer. Condition: none. -/
import Derived.Test.YtcdjbelccndadaaGreatDoorZy05
import Derived.Test.YtcdjbelccndadaaGreatDoorZy10
set_option linter.unusedVariables false
set_option linter.unusedSimpArgs false
namespace Go.Proofs.YtcdjbelccndadaaGreatDoor
section
open Go.RowKit
end
end Go.Proofs.YtcdjbelccndadaaGreatDoor
