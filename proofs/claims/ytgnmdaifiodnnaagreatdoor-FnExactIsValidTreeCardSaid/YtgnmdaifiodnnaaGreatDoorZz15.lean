/- Part of the proof. Condition: none. -/
import Derived.Test.YtgnmdaifiodnnaaGreatDoorRows
import Derived.Test.YtgnmdaifiodnnaaGreatDoorProg
import Derived.ProofKit
import Derived.Stop.Joined
set_option linter.all false
open Option renaming some->Z
open Bool renaming true->I
open Decidable renaming decide->Z'
namespace Go.Proofs.YtgnmdaifiodnnaaGreatDoor.fnExactIsValidTree
section
open Go Go.RowKit
def jf:((Rows.fnExactIsValidTreeRow.maps ==(Tryz.f3.params.toList++Rows.fnExactIsValidTreeSpec.plain.varTypes Tryz.pinned.checked.prog).any (Tryz.pinned.checked.prog.mapsRec ·)) && (Rows.fnExactIsValidTreeRow.ifaces ==(Tryz.f3.params.toList++Rows.fnExactIsValidTreeSpec.plain.varTypes Tryz.pinned.checked.prog).any (Tryz.pinned.checked.prog.ifacesRec ·)) && (Rows.fnExactIsValidTreeRow.mapsOut ==Tryz.pinned.checked.prog.mapsAmong Tryz.f3.resultTypes.toList) && (Rows.fnExactIsValidTreeRow.loops ==(Tryz.f3.params.toList++Rows.fnExactIsValidTreeSpec.plain.varTypes Tryz.pinned.checked.prog).any (Tryz.pinned.checked.prog.loopsFrom ·)) && (Rows.fnExactIsValidTreeRow.wideKeys ==(Tryz.f3.params.toList++Rows.fnExactIsValidTreeSpec.plain.varTypes Tryz.pinned.checked.prog++Tryz.f3.resultTypes.toList).any (Tryz.pinned.checked.prog.wideKeysFrom ·)) && Rows.fnExactIsValidTreeSpec.vars.all (Tryz.pinned.checked.prog.varReadable ·) && Tryz.f3.resultTypes.all (λt=>Tryz.pinned.checked.prog.readableRec t && Z' (t<Tryz.pinned.checked.prog.types.size)) && (Rows.fnExactIsValidTreeRow.ifacesOut ==Tryz.f3.resultTypes.toList.any (Tryz.pinned.checked.prog.ifacesRec ·)) && (Rows.fnExactIsValidTreeRow.loopsOut ==Tryz.f3.resultTypes.toList.any (Tryz.pinned.checked.prog.loopsFrom ·)) && (Rows.fnExactIsValidTreeRow.plainKeys ==Tryz.pinned.checked.prog.plainKeys) && Rows.fnExactIsValidTreeRow.shortTexts.isNone && Tryz.pinned.checked.prog.stopsHeard && Tryz.pinned.checked.prog.mayEnter && (Rows.fnExactIsValidTreeRow.lifted ==Tryz.pinned.checked.prog.liftsFinal) && (Tryz.pinned.checked.prog.make ==Z Rows.fnExactIsValidTreeRow.make) && (Rows.fnExactIsValidTreeRow.pinned ==Rows.fnExactIsValidTreeRow.pinnedBy) && (Rows.fnExactIsValidTreeRow.veiled ==(Tryz.f3.params.toList++Rows.fnExactIsValidTreeSpec.plain.varTypes Tryz.pinned.checked.prog++Tryz.f3.resultTypes.toList).any (Tryz.pinned.checked.prog.veiledRec ·)) && Rows.fnExactIsValidTreeRow.veiledFits Tryz.pinned.checked.prog Tryz.f3.params.toList (Tryz.f3.params.toList++Rows.fnExactIsValidTreeSpec.plain.varTypes Tryz.pinned.checked.prog++Tryz.f3.resultTypes.toList))=I:=by kernel_rfl
end
end Go.Proofs.YtgnmdaifiodnnaaGreatDoor.fnExactIsValidTree
