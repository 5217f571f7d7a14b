/-
  DERIVED. GIVEN WITH THE SEED: THE CARDS: each row of YtgfcijiikgjbcaaGreatDoorRows.lean that lists a variable, with what it lists TIED to the program's text (the seventh form; the later family's looks); each row that meets fmt, with fmt's text TOLD by the authors' own Lean function (tested against real Go, not proved from fmt's source: count such statements apart). THE CARD IS WHAT COUNTS. Prove the row's statement (the work); the ties are given (YtgfcijiikgjbcaaGreatDoorTie.lean); close each card by the builder's one call (the guide's Derived/Test/ToyasCard.lean, 'card_holds'). Laid BY PROGRAM, IN A SANDBOX (cutbox-door.mjs). By AI agents, Wed Nov 11 2026. No macro, syntax, notation, axiom, sorry.
-/
import Derived.Test.YtgfcijiikgjbcaaGreatDoorRows
import GoSem.ClaimSeven
namespace Go.Proofs.YtgfcijiikgjbcaaGreatDoor
namespace Rows

/-- THE TIED CARD OF 'laws.FnExactMergeTrees'. -/
def fnExactMergeTreesCard : Claim7 := { stood := { row := fnExactMergeTreesRow, standIns := [], harness := (true, "6b6aa6e87b0a827567bdbab6cb63439d05c87dc416ade02efcc8d9abb3c1071d"), looks := false }, kinds := [], alts := [], laidByText := true, laidKinds := [.data, .data, .data], laidTests := true, laidLooks := .later }
def FnExactMergeTreesCardSaid : Prop := Claim7.holds Tryz.pinned (.plain (OpenSpec.ofChange fnExactMergeTreesSpec)) fnExactMergeTreesCard

/-- THE TIED CARD OF 'laws.FnExactMakeEdits'. -/
def fnExactMakeEditsCard : Claim7 := { stood := { row := fnExactMakeEditsRow, standIns := [], harness := (true, "6b6aa6e87b0a827567bdbab6cb63439d05c87dc416ade02efcc8d9abb3c1071d"), looks := false }, kinds := [], alts := [], laidByText := true, laidKinds := [.data, .data, .data], laidTests := true, laidLooks := .later }
def FnExactMakeEditsCardSaid : Prop := Claim7.holds Tryz.pinned (.plain (OpenSpec.ofChange fnExactMakeEditsSpec)) fnExactMakeEditsCard

/-- THE SECOND FORM's CARD OF 'laws.FnExactMergeTrees'. -/
def fnExactMergeTreesUptoCard : Claim7 := { stood := { row := fnExactMergeTreesUptoRow, standIns := [], harness := (true, "6b6aa6e87b0a827567bdbab6cb63439d05c87dc416ade02efcc8d9abb3c1071d"), looks := false }, kinds := [], alts := [], laidByText := true, laidKinds := [.data, .data, .data], laidTests := true, laidLooks := .later }
def FnExactMergeTreesUptoCardSaid : Prop := Claim7.holds Tryz.pinned (.plain (OpenSpec.upto fnExactMergeTreesSpec)) fnExactMergeTreesUptoCard

/-- THE SECOND FORM's CARD OF 'laws.FnExactMakeEdits'. -/
def fnExactMakeEditsUptoCard : Claim7 := { stood := { row := fnExactMakeEditsUptoRow, standIns := [], harness := (true, "6b6aa6e87b0a827567bdbab6cb63439d05c87dc416ade02efcc8d9abb3c1071d"), looks := false }, kinds := [], alts := [], laidByText := true, laidKinds := [.data, .data, .data], laidTests := true, laidLooks := .later }
def FnExactMakeEditsUptoCardSaid : Prop := Claim7.holds Tryz.pinned (.plain (OpenSpec.upto fnExactMakeEditsSpec)) fnExactMakeEditsUptoCard
end Rows
end Go.Proofs.YtgfcijiikgjbcaaGreatDoor
