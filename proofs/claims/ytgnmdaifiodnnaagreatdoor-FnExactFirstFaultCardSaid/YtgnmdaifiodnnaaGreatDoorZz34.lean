/- Part of the proof. Condition: none. -/
import Derived.Test.YtgnmdaifiodnnaaGreatDoorRows
import Derived.Test.YtgnmdaifiodnnaaGreatDoorProg
import Derived.ProofKit
import Derived.Stop.Joined
set_option linter.all false
open Option renaming some->Z
open Bool renaming true->I
open Decidable renaming decide->Z'
namespace Go.Proofs.YtgnmdaifiodnnaaGreatDoor.fnExactFirstFault
section
open Go Go.RowKit
def jf:((Rows.fnExactFirstFaultRow.maps ==(Tryz.f4.params.toList++Rows.fnExactFirstFaultSpec.plain.varTypes Tryz.pinned.checked.prog).any (Tryz.pinned.checked.prog.mapsRec ·)) && (Rows.fnExactFirstFaultRow.ifaces ==(Tryz.f4.params.toList++Rows.fnExactFirstFaultSpec.plain.varTypes Tryz.pinned.checked.prog).any (Tryz.pinned.checked.prog.ifacesRec ·)) && (Rows.fnExactFirstFaultRow.mapsOut ==Tryz.pinned.checked.prog.mapsAmong Tryz.f4.resultTypes.toList) && (Rows.fnExactFirstFaultRow.loops ==(Tryz.f4.params.toList++Rows.fnExactFirstFaultSpec.plain.varTypes Tryz.pinned.checked.prog).any (Tryz.pinned.checked.prog.loopsFrom ·)) && (Rows.fnExactFirstFaultRow.wideKeys ==(Tryz.f4.params.toList++Rows.fnExactFirstFaultSpec.plain.varTypes Tryz.pinned.checked.prog++Tryz.f4.resultTypes.toList).any (Tryz.pinned.checked.prog.wideKeysFrom ·)) && Rows.fnExactFirstFaultSpec.vars.all (Tryz.pinned.checked.prog.varReadable ·) && Tryz.f4.resultTypes.all (λt=>Tryz.pinned.checked.prog.readableRec t && Z' (t<Tryz.pinned.checked.prog.types.size)) && (Rows.fnExactFirstFaultRow.ifacesOut ==Tryz.f4.resultTypes.toList.any (Tryz.pinned.checked.prog.ifacesRec ·)) && (Rows.fnExactFirstFaultRow.loopsOut ==Tryz.f4.resultTypes.toList.any (Tryz.pinned.checked.prog.loopsFrom ·)) && (Rows.fnExactFirstFaultRow.plainKeys ==Tryz.pinned.checked.prog.plainKeys) && Rows.fnExactFirstFaultRow.shortTexts.isNone && Tryz.pinned.checked.prog.stopsHeard && Tryz.pinned.checked.prog.mayEnter && (Rows.fnExactFirstFaultRow.lifted ==Tryz.pinned.checked.prog.liftsFinal) && (Tryz.pinned.checked.prog.make ==Z Rows.fnExactFirstFaultRow.make) && (Rows.fnExactFirstFaultRow.pinned ==Rows.fnExactFirstFaultRow.pinnedBy) && (Rows.fnExactFirstFaultRow.veiled ==(Tryz.f4.params.toList++Rows.fnExactFirstFaultSpec.plain.varTypes Tryz.pinned.checked.prog++Tryz.f4.resultTypes.toList).any (Tryz.pinned.checked.prog.veiledRec ·)) && Rows.fnExactFirstFaultRow.veiledFits Tryz.pinned.checked.prog Tryz.f4.params.toList (Tryz.f4.params.toList++Rows.fnExactFirstFaultSpec.plain.varTypes Tryz.pinned.checked.prog++Tryz.f4.resultTypes.toList))=I:=by kernel_rfl
end
end Go.Proofs.YtgnmdaifiodnnaaGreatDoor.fnExactFirstFault
