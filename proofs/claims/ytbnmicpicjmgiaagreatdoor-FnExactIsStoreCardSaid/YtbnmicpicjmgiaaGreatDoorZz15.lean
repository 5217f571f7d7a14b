/- Part of the proof. Condition: none. -/
import Derived.Test.YtbnmicpicjmgiaaGreatDoorRows
import Derived.Test.YtbnmicpicjmgiaaGreatDoorProg
import Derived.ProofKit
import Derived.Stop.Joined
set_option linter.all false
open Option renaming some->Z
open Bool renaming true->I
open Decidable renaming decide->Z'
namespace Go.Proofs.YtbnmicpicjmgiaaGreatDoor.fnExactIsStore
section
open Go Go.RowKit
def jf:((Rows.fnExactIsStoreRow.maps ==(Tryz.f3.params.toList++Rows.fnExactIsStoreSpec.plain.varTypes Tryz.pinned.checked.prog).any (Tryz.pinned.checked.prog.mapsRec ·)) && (Rows.fnExactIsStoreRow.ifaces ==(Tryz.f3.params.toList++Rows.fnExactIsStoreSpec.plain.varTypes Tryz.pinned.checked.prog).any (Tryz.pinned.checked.prog.ifacesRec ·)) && (Rows.fnExactIsStoreRow.mapsOut ==Tryz.pinned.checked.prog.mapsAmong Tryz.f3.resultTypes.toList) && (Rows.fnExactIsStoreRow.loops ==(Tryz.f3.params.toList++Rows.fnExactIsStoreSpec.plain.varTypes Tryz.pinned.checked.prog).any (Tryz.pinned.checked.prog.loopsFrom ·)) && (Rows.fnExactIsStoreRow.wideKeys ==(Tryz.f3.params.toList++Rows.fnExactIsStoreSpec.plain.varTypes Tryz.pinned.checked.prog++Tryz.f3.resultTypes.toList).any (Tryz.pinned.checked.prog.wideKeysFrom ·)) && Rows.fnExactIsStoreSpec.vars.all (Tryz.pinned.checked.prog.varReadable ·) && Tryz.f3.resultTypes.all (λt=>Tryz.pinned.checked.prog.readableRec t && Z' (t<Tryz.pinned.checked.prog.types.size)) && (Rows.fnExactIsStoreRow.ifacesOut ==Tryz.f3.resultTypes.toList.any (Tryz.pinned.checked.prog.ifacesRec ·)) && (Rows.fnExactIsStoreRow.loopsOut ==Tryz.f3.resultTypes.toList.any (Tryz.pinned.checked.prog.loopsFrom ·)) && (Rows.fnExactIsStoreRow.plainKeys ==Tryz.pinned.checked.prog.plainKeys) && Rows.fnExactIsStoreRow.shortTexts.isNone && Tryz.pinned.checked.prog.stopsHeard && Tryz.pinned.checked.prog.mayEnter && (Rows.fnExactIsStoreRow.lifted ==Tryz.pinned.checked.prog.liftsFinal) && (Tryz.pinned.checked.prog.make ==Z Rows.fnExactIsStoreRow.make) && (Rows.fnExactIsStoreRow.pinned ==Rows.fnExactIsStoreRow.pinnedBy) && (Rows.fnExactIsStoreRow.veiled ==(Tryz.f3.params.toList++Rows.fnExactIsStoreSpec.plain.varTypes Tryz.pinned.checked.prog++Tryz.f3.resultTypes.toList).any (Tryz.pinned.checked.prog.veiledRec ·)) && Rows.fnExactIsStoreRow.veiledFits Tryz.pinned.checked.prog Tryz.f3.params.toList (Tryz.f3.params.toList++Rows.fnExactIsStoreSpec.plain.varTypes Tryz.pinned.checked.prog++Tryz.f3.resultTypes.toList))=I:=by kernel_rfl
end
end Go.Proofs.YtbnmicpicjmgiaaGreatDoor.fnExactIsStore
