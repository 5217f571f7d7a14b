/-
  DERIVED. GIVEN WITH THE SEED: THE CARDS: each row of YthlpjklbafakfaaGreatDoorRows.lean that lists a variable, with what it lists TIED to the program's text (the seventh form; the later family's looks); each row that meets fmt, with fmt's text TOLD by the authors' own Lean function (tested against real Go, not proved from fmt's source: count such statements apart). THE CARD IS WHAT COUNTS. Prove the row's statement (the work); the ties are given (YthlpjklbafakfaaGreatDoorTie.lean); close each card by the builder's one call (the guide's Derived/Test/ToyasCard.lean, 'card_holds'). Laid BY PROGRAM, IN A SANDBOX (cutbox-door.mjs). By AI agents, Wed Nov 11 2026. No macro, syntax, notation, axiom, sorry.
-/
import Derived.Test.YthlpjklbafakfaaGreatDoorRows
import GoSem.ClaimSeven
namespace Go.Proofs.YthlpjklbafakfaaGreatDoor
namespace Rows

/-- THE TIED CARD OF 'laws.FnViews'. -/
def fnViewsCard : Claim7 := { stood := { row := fnViewsRow, standIns := [], harness := (true, "b2ce0b42c849a675c9df94f934f44fab500c0f67f9c1a596ce0131751e1c4878"), looks := false }, kinds := [], alts := [], laidByText := true, laidKinds := [.data, .data, .data], laidTests := true, laidLooks := .later }
def FnViewsCardSaid : Prop := Claim7.holds Tryz.pinned (.plain (OpenSpec.ofChange fnViewsSpec)) fnViewsCard

/-- THE TIED CARD OF 'laws.FnFromNothing'. -/
def fnFromNothingCard : Claim7 := { stood := { row := fnFromNothingRow, standIns := [], harness := (true, "b2ce0b42c849a675c9df94f934f44fab500c0f67f9c1a596ce0131751e1c4878"), looks := false }, kinds := [], alts := [], laidByText := true, laidKinds := [.data, .data, .data], laidTests := true, laidLooks := .later }
def FnFromNothingCardSaid : Prop := Claim7.holds Tryz.pinned (.plain (OpenSpec.ofChange fnFromNothingSpec)) fnFromNothingCard

/-- THE SECOND FORM's CARD OF 'laws.FnViews'. -/
def fnViewsUptoCard : Claim7 := { stood := { row := fnViewsUptoRow, standIns := [], harness := (true, "b2ce0b42c849a675c9df94f934f44fab500c0f67f9c1a596ce0131751e1c4878"), looks := false }, kinds := [], alts := [], laidByText := true, laidKinds := [.data, .data, .data], laidTests := true, laidLooks := .later }
def FnViewsUptoCardSaid : Prop := Claim7.holds Tryz.pinned (.plain (OpenSpec.upto fnViewsSpec)) fnViewsUptoCard

/-- THE SECOND FORM's CARD OF 'laws.FnFromNothing'. -/
def fnFromNothingUptoCard : Claim7 := { stood := { row := fnFromNothingUptoRow, standIns := [], harness := (true, "b2ce0b42c849a675c9df94f934f44fab500c0f67f9c1a596ce0131751e1c4878"), looks := false }, kinds := [], alts := [], laidByText := true, laidKinds := [.data, .data, .data], laidTests := true, laidLooks := .later }
def FnFromNothingUptoCardSaid : Prop := Claim7.holds Tryz.pinned (.plain (OpenSpec.upto fnFromNothingSpec)) fnFromNothingUptoCard
end Rows
end Go.Proofs.YthlpjklbafakfaaGreatDoor
