/-
  DERIVED. GIVEN WITH THE SEED: THE CARDS: each row of YtnnjajingjfjiaaGreatDoorRows.lean that lists a variable, with what it lists TIED to the program's text (the seventh form; the later family's looks); each row that meets fmt, with fmt's text TOLD by the authors' own Lean function (tested against real Go, not proved from fmt's source: count such statements apart). THE CARD IS WHAT COUNTS. Prove the row's statement (the work); the ties are given (YtnnjajingjfjiaaGreatDoorTie.lean); close each card by the builder's one call (the guide's Derived/Test/ToyasCard.lean, 'card_holds'). Laid BY PROGRAM, IN A SANDBOX (cutbox-door.mjs). By AI agents, Wed Nov 11 2026. No macro, syntax, notation, axiom, sorry.
-/
import Derived.Test.YtnnjajingjfjiaaGreatDoorRows
import GoSem.ClaimSeven
namespace Go.Proofs.YtnnjajingjfjiaaGreatDoor
namespace Rows

/-- THE TIED CARD OF 'laws.FnExactReplayJournal'. -/
def fnExactReplayJournalCard : Claim7 := { stood := { row := fnExactReplayJournalRow, standIns := [], harness := (true, "316fe00b8be06d5c36358f200354aa30914b4b3f1e14e838d21dd009f262540d"), looks := false }, kinds := [], alts := [], laidByText := true, laidKinds := [.data, .data, .data], laidTests := true, laidLooks := .later }
def FnExactReplayJournalCardSaid : Prop := Claim7.holds Tryz.pinned (.plain (OpenSpec.ofChange fnExactReplayJournalSpec)) fnExactReplayJournalCard

/-- THE TIED CARD OF 'laws.FnExactReverseEdits'. -/
def fnExactReverseEditsCard : Claim7 := { stood := { row := fnExactReverseEditsRow, standIns := [], harness := (true, "316fe00b8be06d5c36358f200354aa30914b4b3f1e14e838d21dd009f262540d"), looks := false }, kinds := [], alts := [], laidByText := true, laidKinds := [.data, .data, .data], laidTests := true, laidLooks := .later }
def FnExactReverseEditsCardSaid : Prop := Claim7.holds Tryz.pinned (.plain (OpenSpec.ofChange fnExactReverseEditsSpec)) fnExactReverseEditsCard

/-- THE TIED CARD OF 'laws.FnExactEditDraft'. -/
def fnExactEditDraftCard : Claim7 := { stood := { row := fnExactEditDraftRow, standIns := [], harness := (true, "316fe00b8be06d5c36358f200354aa30914b4b3f1e14e838d21dd009f262540d"), looks := false }, kinds := [], alts := [], laidByText := true, laidKinds := [.data, .data, .data], laidTests := true, laidLooks := .later }
def FnExactEditDraftCardSaid : Prop := Claim7.holds Tryz.pinned (.plain (OpenSpec.ofChange fnExactEditDraftSpec)) fnExactEditDraftCard

/-- THE SECOND FORM's CARD OF 'laws.FnExactReplayJournal'. -/
def fnExactReplayJournalUptoCard : Claim7 := { stood := { row := fnExactReplayJournalUptoRow, standIns := [], harness := (true, "316fe00b8be06d5c36358f200354aa30914b4b3f1e14e838d21dd009f262540d"), looks := false }, kinds := [], alts := [], laidByText := true, laidKinds := [.data, .data, .data], laidTests := true, laidLooks := .later }
def FnExactReplayJournalUptoCardSaid : Prop := Claim7.holds Tryz.pinned (.plain (OpenSpec.upto fnExactReplayJournalSpec)) fnExactReplayJournalUptoCard

/-- THE SECOND FORM's CARD OF 'laws.FnExactReverseEdits'. -/
def fnExactReverseEditsUptoCard : Claim7 := { stood := { row := fnExactReverseEditsUptoRow, standIns := [], harness := (true, "316fe00b8be06d5c36358f200354aa30914b4b3f1e14e838d21dd009f262540d"), looks := false }, kinds := [], alts := [], laidByText := true, laidKinds := [.data, .data, .data], laidTests := true, laidLooks := .later }
def FnExactReverseEditsUptoCardSaid : Prop := Claim7.holds Tryz.pinned (.plain (OpenSpec.upto fnExactReverseEditsSpec)) fnExactReverseEditsUptoCard

/-- THE SECOND FORM's CARD OF 'laws.FnExactEditDraft'. -/
def fnExactEditDraftUptoCard : Claim7 := { stood := { row := fnExactEditDraftUptoRow, standIns := [], harness := (true, "316fe00b8be06d5c36358f200354aa30914b4b3f1e14e838d21dd009f262540d"), looks := false }, kinds := [], alts := [], laidByText := true, laidKinds := [.data, .data, .data], laidTests := true, laidLooks := .later }
def FnExactEditDraftUptoCardSaid : Prop := Claim7.holds Tryz.pinned (.plain (OpenSpec.upto fnExactEditDraftSpec)) fnExactEditDraftUptoCard
end Rows
end Go.Proofs.YtnnjajingjfjiaaGreatDoor
