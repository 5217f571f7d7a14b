/- Part of the proof: a machine over plain data, its proof, the functions of the program run on symbols, what they answer. Condition: none. -/
import Derived.Test.YtnnjajingjfjiaaGreatDoorZz13
import Derived.Test.YtnnjajingjfjiaaGreatDoorZz27
set_option linter.unusedVariables false
set_option linter.unusedSimpArgs false
set_option linter.unusedSectionVars false
namespace Go.Proofs.YtnnjajingjfjiaaGreatDoor
section
open Go.RowKit
end
end Go.Proofs.YtnnjajingjfjiaaGreatDoor
