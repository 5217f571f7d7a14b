/-
  DERIVED. GIVEN WITH THE SEED: THE CARDS: each row of YtbnmicpicjmgiaaGreatDoorRows.lean that lists a variable, with what it lists TIED to the program's text (the seventh form; the later family's looks); each row that meets fmt, with fmt's text TOLD by the authors' own Lean function (tested against real Go, not proved from fmt's source: count such statements apart). THE CARD IS WHAT COUNTS. Prove the row's statement (the work); the ties are given (YtbnmicpicjmgiaaGreatDoorTie.lean); close each card by the builder's one call (the guide's Derived/Test/ToyasCard.lean, 'card_holds'). Laid BY PROGRAM, IN A SANDBOX (cutbox-door.mjs). By AI agents, Wed Nov 11 2026. No macro, syntax, notation, axiom, sorry.
-/
import Derived.Test.YtbnmicpicjmgiaaGreatDoorRows
import GoSem.ClaimSeven
namespace Go.Proofs.YtbnmicpicjmgiaaGreatDoor
namespace Rows

/-- THE TIED CARD OF 'laws.FnExactIsStore'. -/
def fnExactIsStoreCard : Claim7 := { stood := { row := fnExactIsStoreRow, standIns := [], harness := (true, "c816aa85cc6eb8d84ca0585dce880161be165483b5a35ea88c2375577f3928a1"), looks := false }, kinds := [], alts := [], laidByText := true, laidKinds := [.data, .data, .data], laidTests := true, laidLooks := .later }
def FnExactIsStoreCardSaid : Prop := Claim7.holds Tryz.pinned (.plain (OpenSpec.ofChange fnExactIsStoreSpec)) fnExactIsStoreCard

/-- THE TIED CARD OF 'laws.FnExactFaultsOf'. -/
def fnExactFaultsOfCard : Claim7 := { stood := { row := fnExactFaultsOfRow, standIns := [], harness := (true, "c816aa85cc6eb8d84ca0585dce880161be165483b5a35ea88c2375577f3928a1"), looks := false }, kinds := [], alts := [], laidByText := true, laidKinds := [.data, .data, .data], laidTests := true, laidLooks := .later }
def FnExactFaultsOfCardSaid : Prop := Claim7.holds Tryz.pinned (.plain (OpenSpec.ofChange fnExactFaultsOfSpec)) fnExactFaultsOfCard

/-- THE TIED CARD OF 'laws.FnExactNewStore'. -/
def fnExactNewStoreCard : Claim7 := { stood := { row := fnExactNewStoreRow, standIns := [], harness := (true, "c816aa85cc6eb8d84ca0585dce880161be165483b5a35ea88c2375577f3928a1"), looks := false }, kinds := [], alts := [], laidByText := true, laidKinds := [.data, .data, .data], laidTests := true, laidLooks := .later }
def FnExactNewStoreCardSaid : Prop := Claim7.holds Tryz.pinned (.plain (OpenSpec.ofChange fnExactNewStoreSpec)) fnExactNewStoreCard

/-- THE SECOND FORM's CARD OF 'laws.FnExactIsStore'. -/
def fnExactIsStoreUptoCard : Claim7 := { stood := { row := fnExactIsStoreUptoRow, standIns := [], harness := (true, "c816aa85cc6eb8d84ca0585dce880161be165483b5a35ea88c2375577f3928a1"), looks := false }, kinds := [], alts := [], laidByText := true, laidKinds := [.data, .data, .data], laidTests := true, laidLooks := .later }
def FnExactIsStoreUptoCardSaid : Prop := Claim7.holds Tryz.pinned (.plain (OpenSpec.upto fnExactIsStoreSpec)) fnExactIsStoreUptoCard

/-- THE SECOND FORM's CARD OF 'laws.FnExactFaultsOf'. -/
def fnExactFaultsOfUptoCard : Claim7 := { stood := { row := fnExactFaultsOfUptoRow, standIns := [], harness := (true, "c816aa85cc6eb8d84ca0585dce880161be165483b5a35ea88c2375577f3928a1"), looks := false }, kinds := [], alts := [], laidByText := true, laidKinds := [.data, .data, .data], laidTests := true, laidLooks := .later }
def FnExactFaultsOfUptoCardSaid : Prop := Claim7.holds Tryz.pinned (.plain (OpenSpec.upto fnExactFaultsOfSpec)) fnExactFaultsOfUptoCard

/-- THE SECOND FORM's CARD OF 'laws.FnExactNewStore'. -/
def fnExactNewStoreUptoCard : Claim7 := { stood := { row := fnExactNewStoreUptoRow, standIns := [], harness := (true, "c816aa85cc6eb8d84ca0585dce880161be165483b5a35ea88c2375577f3928a1"), looks := false }, kinds := [], alts := [], laidByText := true, laidKinds := [.data, .data, .data], laidTests := true, laidLooks := .later }
def FnExactNewStoreUptoCardSaid : Prop := Claim7.holds Tryz.pinned (.plain (OpenSpec.upto fnExactNewStoreSpec)) fnExactNewStoreUptoCard
end Rows
end Go.Proofs.YtbnmicpicjmgiaaGreatDoor
