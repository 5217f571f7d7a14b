/-
  DERIVED. GIVEN WITH THE SEED: THE CARDS: each row of YtcdjbelccndadaaGreatDoorRows.lean that lists a variable, with what it lists TIED to the program's text (the seventh form; the later family's looks); each row that meets fmt, with fmt's text TOLD by the authors' own Lean function (tested against real Go, not proved from fmt's source: count such statements apart). THE CARD IS WHAT COUNTS. Prove the row's statement (the work); the ties are given (YtcdjbelccndadaaGreatDoorTie.lean); close each card by the builder's one call (the guide's Derived/Test/ToyasCard.lean, 'card_holds'). Laid BY PROGRAM, IN A SANDBOX (cutbox-door.mjs). By AI agents, Wed Nov 11 2026. No macro, syntax, notation, axiom, sorry.
-/
import Derived.Test.YtcdjbelccndadaaGreatDoorRows
import GoSem.ClaimSeven
namespace Go.Proofs.YtcdjbelccndadaaGreatDoor
namespace Rows

/-- THE TIED CARD OF 'laws.FnExactIsPart'. -/
def fnExactIsPartCard : Claim7 := { stood := { row := fnExactIsPartRow, standIns := [], harness := (true, "f7fcdf0f21de66cdffa9a08c38b5cb3c9e36ccb28f9dcf73d7683c2a684f2b0e"), looks := false }, kinds := [], alts := [], laidByText := true, laidKinds := [.data, .data, .data], laidTests := true, laidLooks := .later }
def FnExactIsPartCardSaid : Prop := Claim7.holds Tryz.pinned (.plain (OpenSpec.ofChange fnExactIsPartSpec)) fnExactIsPartCard

/-- THE TIED CARD OF 'laws.FnExactCommonTree'. -/
def fnExactCommonTreeCard : Claim7 := { stood := { row := fnExactCommonTreeRow, standIns := [], harness := (true, "f7fcdf0f21de66cdffa9a08c38b5cb3c9e36ccb28f9dcf73d7683c2a684f2b0e"), looks := false }, kinds := [], alts := [], laidByText := true, laidKinds := [.data, .data, .data], laidTests := true, laidLooks := .later }
def FnExactCommonTreeCardSaid : Prop := Claim7.holds Tryz.pinned (.plain (OpenSpec.ofChange fnExactCommonTreeSpec)) fnExactCommonTreeCard

/-- THE TIED CARD OF 'laws.FnExactViewTree'. -/
def fnExactViewTreeCard : Claim7 := { stood := { row := fnExactViewTreeRow, standIns := [], harness := (true, "f7fcdf0f21de66cdffa9a08c38b5cb3c9e36ccb28f9dcf73d7683c2a684f2b0e"), looks := false }, kinds := [], alts := [], laidByText := true, laidKinds := [.data, .data, .data], laidTests := true, laidLooks := .later }
def FnExactViewTreeCardSaid : Prop := Claim7.holds Tryz.pinned (.plain (OpenSpec.ofChange fnExactViewTreeSpec)) fnExactViewTreeCard

/-- THE SECOND FORM's CARD OF 'laws.FnExactIsPart'. -/
def fnExactIsPartUptoCard : Claim7 := { stood := { row := fnExactIsPartUptoRow, standIns := [], harness := (true, "f7fcdf0f21de66cdffa9a08c38b5cb3c9e36ccb28f9dcf73d7683c2a684f2b0e"), looks := false }, kinds := [], alts := [], laidByText := true, laidKinds := [.data, .data, .data], laidTests := true, laidLooks := .later }
def FnExactIsPartUptoCardSaid : Prop := Claim7.holds Tryz.pinned (.plain (OpenSpec.upto fnExactIsPartSpec)) fnExactIsPartUptoCard

/-- THE SECOND FORM's CARD OF 'laws.FnExactCommonTree'. -/
def fnExactCommonTreeUptoCard : Claim7 := { stood := { row := fnExactCommonTreeUptoRow, standIns := [], harness := (true, "f7fcdf0f21de66cdffa9a08c38b5cb3c9e36ccb28f9dcf73d7683c2a684f2b0e"), looks := false }, kinds := [], alts := [], laidByText := true, laidKinds := [.data, .data, .data], laidTests := true, laidLooks := .later }
def FnExactCommonTreeUptoCardSaid : Prop := Claim7.holds Tryz.pinned (.plain (OpenSpec.upto fnExactCommonTreeSpec)) fnExactCommonTreeUptoCard

/-- THE SECOND FORM's CARD OF 'laws.FnExactViewTree'. -/
def fnExactViewTreeUptoCard : Claim7 := { stood := { row := fnExactViewTreeUptoRow, standIns := [], harness := (true, "f7fcdf0f21de66cdffa9a08c38b5cb3c9e36ccb28f9dcf73d7683c2a684f2b0e"), looks := false }, kinds := [], alts := [], laidByText := true, laidKinds := [.data, .data, .data], laidTests := true, laidLooks := .later }
def FnExactViewTreeUptoCardSaid : Prop := Claim7.holds Tryz.pinned (.plain (OpenSpec.upto fnExactViewTreeSpec)) fnExactViewTreeUptoCard
end Rows
end Go.Proofs.YtcdjbelccndadaaGreatDoor
