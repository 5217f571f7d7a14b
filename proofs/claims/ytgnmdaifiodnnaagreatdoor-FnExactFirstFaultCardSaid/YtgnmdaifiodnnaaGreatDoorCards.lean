/-
  DERIVED. GIVEN WITH THE SEED: THE CARDS: each row of YtgnmdaifiodnnaaGreatDoorRows.lean that lists a variable, with what it lists TIED to the program's text (the seventh form; the later family's looks); each row that meets fmt, with fmt's text TOLD by the authors' own Lean function (tested against real Go, not proved from fmt's source: count such statements apart). THE CARD IS WHAT COUNTS. Prove the row's statement (the work); the ties are given (YtgnmdaifiodnnaaGreatDoorTie.lean); close each card by the builder's one call (the guide's Derived/Test/ToyasCard.lean, 'card_holds'). Laid BY PROGRAM, IN A SANDBOX (cutbox-door.mjs). By AI agents, Wed Nov 11 2026. No macro, syntax, notation, axiom, sorry.
-/
import Derived.Test.YtgnmdaifiodnnaaGreatDoorRows
import GoSem.ClaimSeven
namespace Go.Proofs.YtgnmdaifiodnnaaGreatDoor
namespace Rows

/-- THE TIED CARD OF 'laws.FnExactIsValidTree'. -/
def fnExactIsValidTreeCard : Claim7 := { stood := { row := fnExactIsValidTreeRow, standIns := [], harness := (true, "16d7dd92ee2813c78e001c9b88da056a7d259463d55a9853b8a2970a73309856"), looks := false }, kinds := [], alts := [], laidByText := true, laidKinds := [.data, .data, .data], laidTests := true, laidLooks := .later }
def FnExactIsValidTreeCardSaid : Prop := Claim7.holds Tryz.pinned (.plain (OpenSpec.ofChange fnExactIsValidTreeSpec)) fnExactIsValidTreeCard

/-- THE TIED CARD OF 'laws.FnExactFirstFault'. -/
def fnExactFirstFaultCard : Claim7 := { stood := { row := fnExactFirstFaultRow, standIns := [], harness := (true, "16d7dd92ee2813c78e001c9b88da056a7d259463d55a9853b8a2970a73309856"), looks := false }, kinds := [], alts := [], laidByText := true, laidKinds := [.data, .data, .data], laidTests := true, laidLooks := .later }
def FnExactFirstFaultCardSaid : Prop := Claim7.holds Tryz.pinned (.plain (OpenSpec.ofChange fnExactFirstFaultSpec)) fnExactFirstFaultCard

/-- THE TIED CARD OF 'laws.FnExactFaultsOf'. -/
def fnExactFaultsOfCard : Claim7 := { stood := { row := fnExactFaultsOfRow, standIns := [], harness := (true, "16d7dd92ee2813c78e001c9b88da056a7d259463d55a9853b8a2970a73309856"), looks := false }, kinds := [], alts := [], laidByText := true, laidKinds := [.data, .data, .data], laidTests := true, laidLooks := .later }
def FnExactFaultsOfCardSaid : Prop := Claim7.holds Tryz.pinned (.plain (OpenSpec.ofChange fnExactFaultsOfSpec)) fnExactFaultsOfCard

/-- THE SECOND FORM's CARD OF 'laws.FnExactIsValidTree'. -/
def fnExactIsValidTreeUptoCard : Claim7 := { stood := { row := fnExactIsValidTreeUptoRow, standIns := [], harness := (true, "16d7dd92ee2813c78e001c9b88da056a7d259463d55a9853b8a2970a73309856"), looks := false }, kinds := [], alts := [], laidByText := true, laidKinds := [.data, .data, .data], laidTests := true, laidLooks := .later }
def FnExactIsValidTreeUptoCardSaid : Prop := Claim7.holds Tryz.pinned (.plain (OpenSpec.upto fnExactIsValidTreeSpec)) fnExactIsValidTreeUptoCard

/-- THE SECOND FORM's CARD OF 'laws.FnExactFirstFault'. -/
def fnExactFirstFaultUptoCard : Claim7 := { stood := { row := fnExactFirstFaultUptoRow, standIns := [], harness := (true, "16d7dd92ee2813c78e001c9b88da056a7d259463d55a9853b8a2970a73309856"), looks := false }, kinds := [], alts := [], laidByText := true, laidKinds := [.data, .data, .data], laidTests := true, laidLooks := .later }
def FnExactFirstFaultUptoCardSaid : Prop := Claim7.holds Tryz.pinned (.plain (OpenSpec.upto fnExactFirstFaultSpec)) fnExactFirstFaultUptoCard

/-- THE SECOND FORM's CARD OF 'laws.FnExactFaultsOf'. -/
def fnExactFaultsOfUptoCard : Claim7 := { stood := { row := fnExactFaultsOfUptoRow, standIns := [], harness := (true, "16d7dd92ee2813c78e001c9b88da056a7d259463d55a9853b8a2970a73309856"), looks := false }, kinds := [], alts := [], laidByText := true, laidKinds := [.data, .data, .data], laidTests := true, laidLooks := .later }
def FnExactFaultsOfUptoCardSaid : Prop := Claim7.holds Tryz.pinned (.plain (OpenSpec.upto fnExactFaultsOfSpec)) fnExactFaultsOfUptoCard
end Rows
end Go.Proofs.YtgnmdaifiodnnaaGreatDoor
