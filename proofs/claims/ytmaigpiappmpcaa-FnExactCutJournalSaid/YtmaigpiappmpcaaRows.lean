/-
  NARROWER THAN 'FOR EVERY INPUT', by the rows' own cells (each row's printed sentence says how): FnExactNewJournal: loops · FnExactCutJournal: loops · FnExactMayEdit: loops · FnExactUnlockStore: loops · FnExactLockStore: loops · FnExactResetDraft: loops · FnExactRollBack: loops · FnExactTickStore: loops · FnExactRestartStore: loops · FnExactCancelStore: loops · FnExactEndSession: loops.
  DERIVED. THE GIVEN ROWS OF THIS SEAT. 11 by the template 'for every input the law returns true; each argument reads behind the call as it read before'; 0 by the template 'total and deterministic' (their statements: YtmaigpiappmpcaaTotals.lean).
  GIVEN WITH THE SEED: the statements are not yours to turn. If you find one false, say at which input.
  Laid BY PROGRAM, IN A SANDBOX (cutbox-rows.mjs): the forced cells as the released guide's own fill.sh prints them over the translation 51c4a951bbf8c669… (all of the seat's roots in one cut). By AI agents, Wed Nov 11 2026. No macro, syntax, notation, axiom, sorry.
-/
import Derived.Test.YtmaigpiappmpcaaChecked
import GoSem.Claim
import GoSem.ClaimJoined
import GoSem.ClaimMapViews
import Derived.JoinedTies
import Derived.KernelRfl
namespace Go.Proofs.Ytmaigpiappmpcaa
/- THE CELL 'sum', in the pinned program and in every row, IS THE sha256 OF THE DUMP (.gsa) THAT YtmaigpiappmpcaaProg.lean LOADS. Nothing in Lean hashes anything: it is a label: what it is worth is what the hold of that sum in a sandbox is worth. -/
noncomputable def Try.pinned : Pinned := { name := "ytmaigpiappmpcaa", sum := "51c4a951bbf8c6698026e84cb460a4fb0b1271a6aad4f65e4d19b64efd5f69e0", checked := Try.checked }
namespace Rows
def none {H : Type} : Left H := { results := [], args := [] }

/-- 'laws.FnExactNewJournal': WHATEVER THE INPUT: true; the input reads as it did. -/
def fnExactNewJournalSpec : ChangeSpec := { name := "fnExactNewJournal", fn := fun _ => fun
  | [d] => { results := [.lit (.bool true)], args := [d] }
  | _ => none }
def fnExactNewJournalRow : OpenClaim := { program := "ytmaigpiappmpcaa", sum := "51c4a951bbf8c6698026e84cb460a4fb0b1271a6aad4f65e4d19b64efd5f69e0", func := "loop.example/g03013/laws.FnExactNewJournal", spec := "fnExactNewJournal", recurses := true, loops := true, apart := false }
def FnExactNewJournalSaid : Prop := fnExactNewJournalRow.holds Try.pinned (OpenSpec.ofChange fnExactNewJournalSpec)

/-- ITS FALSE NEIGHBOUR: 'it returns false'. Refute it at one input. -/
def fnExactNewJournalWrong : ChangeSpec := { name := "fnExactNewJournal", fn := fun _ => fun
  | [d] => { results := [.lit (.bool false)], args := [d] }
  | _ => none }
def FnExactNewJournalWrongFalsely : Prop := fnExactNewJournalRow.holds Try.pinned (OpenSpec.ofChange fnExactNewJournalWrong)

/-- 'laws.FnExactCutJournal': WHATEVER THE INPUT: true; the input reads as it did. -/
def fnExactCutJournalSpec : ChangeSpec := { name := "fnExactCutJournal", fn := fun _ => fun
  | [d1, d2] => { results := [.lit (.bool true)], args := [d1, d2] }
  | _ => none }
def fnExactCutJournalRow : OpenClaim := { program := "ytmaigpiappmpcaa", sum := "51c4a951bbf8c6698026e84cb460a4fb0b1271a6aad4f65e4d19b64efd5f69e0", func := "loop.example/g03013/laws.FnExactCutJournal", spec := "fnExactCutJournal", recurses := true, loops := true, apart := false }
def FnExactCutJournalSaid : Prop := fnExactCutJournalRow.holds Try.pinned (OpenSpec.ofChange fnExactCutJournalSpec)

/-- ITS FALSE NEIGHBOUR: 'it returns false'. Refute it at one input. -/
def fnExactCutJournalWrong : ChangeSpec := { name := "fnExactCutJournal", fn := fun _ => fun
  | [d1, d2] => { results := [.lit (.bool false)], args := [d1, d2] }
  | _ => none }
def FnExactCutJournalWrongFalsely : Prop := fnExactCutJournalRow.holds Try.pinned (OpenSpec.ofChange fnExactCutJournalWrong)

/-- 'laws.FnExactMayEdit': WHATEVER THE INPUT: true; the input reads as it did. -/
def fnExactMayEditSpec : ChangeSpec := { name := "fnExactMayEdit", fn := fun _ => fun
  | [d1, d2, d3, d4] => { results := [.lit (.bool true)], args := [d1, d2, d3, d4] }
  | _ => none }
def fnExactMayEditRow : OpenClaim := { program := "ytmaigpiappmpcaa", sum := "51c4a951bbf8c6698026e84cb460a4fb0b1271a6aad4f65e4d19b64efd5f69e0", func := "loop.example/g03013/laws.FnExactMayEdit", spec := "fnExactMayEdit", recurses := true, loops := true, apart := false }
def FnExactMayEditSaid : Prop := fnExactMayEditRow.holds Try.pinned (OpenSpec.ofChange fnExactMayEditSpec)

/-- ITS FALSE NEIGHBOUR: 'it returns false'. Refute it at one input. -/
def fnExactMayEditWrong : ChangeSpec := { name := "fnExactMayEdit", fn := fun _ => fun
  | [d1, d2, d3, d4] => { results := [.lit (.bool false)], args := [d1, d2, d3, d4] }
  | _ => none }
def FnExactMayEditWrongFalsely : Prop := fnExactMayEditRow.holds Try.pinned (OpenSpec.ofChange fnExactMayEditWrong)

/-- 'laws.FnExactUnlockStore': WHATEVER THE INPUT: true; the input reads as it did. -/
def fnExactUnlockStoreSpec : ChangeSpec := { name := "fnExactUnlockStore", fn := fun _ => fun
  | [d1, d2] => { results := [.lit (.bool true)], args := [d1, d2] }
  | _ => none }
def fnExactUnlockStoreRow : OpenClaim := { program := "ytmaigpiappmpcaa", sum := "51c4a951bbf8c6698026e84cb460a4fb0b1271a6aad4f65e4d19b64efd5f69e0", func := "loop.example/g03013/laws.FnExactUnlockStore", spec := "fnExactUnlockStore", recurses := true, loops := true, apart := false }
def FnExactUnlockStoreSaid : Prop := fnExactUnlockStoreRow.holds Try.pinned (OpenSpec.ofChange fnExactUnlockStoreSpec)

/-- ITS FALSE NEIGHBOUR: 'it returns false'. Refute it at one input. -/
def fnExactUnlockStoreWrong : ChangeSpec := { name := "fnExactUnlockStore", fn := fun _ => fun
  | [d1, d2] => { results := [.lit (.bool false)], args := [d1, d2] }
  | _ => none }
def FnExactUnlockStoreWrongFalsely : Prop := fnExactUnlockStoreRow.holds Try.pinned (OpenSpec.ofChange fnExactUnlockStoreWrong)

/-- 'laws.FnExactLockStore': WHATEVER THE INPUT: true; the input reads as it did. -/
def fnExactLockStoreSpec : ChangeSpec := { name := "fnExactLockStore", fn := fun _ => fun
  | [d1, d2] => { results := [.lit (.bool true)], args := [d1, d2] }
  | _ => none }
def fnExactLockStoreRow : OpenClaim := { program := "ytmaigpiappmpcaa", sum := "51c4a951bbf8c6698026e84cb460a4fb0b1271a6aad4f65e4d19b64efd5f69e0", func := "loop.example/g03013/laws.FnExactLockStore", spec := "fnExactLockStore", recurses := true, loops := true, apart := false }
def FnExactLockStoreSaid : Prop := fnExactLockStoreRow.holds Try.pinned (OpenSpec.ofChange fnExactLockStoreSpec)

/-- ITS FALSE NEIGHBOUR: 'it returns false'. Refute it at one input. -/
def fnExactLockStoreWrong : ChangeSpec := { name := "fnExactLockStore", fn := fun _ => fun
  | [d1, d2] => { results := [.lit (.bool false)], args := [d1, d2] }
  | _ => none }
def FnExactLockStoreWrongFalsely : Prop := fnExactLockStoreRow.holds Try.pinned (OpenSpec.ofChange fnExactLockStoreWrong)

/-- 'laws.FnExactResetDraft': WHATEVER THE INPUT: true; the input reads as it did. -/
def fnExactResetDraftSpec : ChangeSpec := { name := "fnExactResetDraft", fn := fun _ => fun
  | [d1, d2] => { results := [.lit (.bool true)], args := [d1, d2] }
  | _ => none }
def fnExactResetDraftRow : OpenClaim := { program := "ytmaigpiappmpcaa", sum := "51c4a951bbf8c6698026e84cb460a4fb0b1271a6aad4f65e4d19b64efd5f69e0", func := "loop.example/g03013/laws.FnExactResetDraft", spec := "fnExactResetDraft", recurses := true, loops := true, apart := false }
def FnExactResetDraftSaid : Prop := fnExactResetDraftRow.holds Try.pinned (OpenSpec.ofChange fnExactResetDraftSpec)

/-- ITS FALSE NEIGHBOUR: 'it returns false'. Refute it at one input. -/
def fnExactResetDraftWrong : ChangeSpec := { name := "fnExactResetDraft", fn := fun _ => fun
  | [d1, d2] => { results := [.lit (.bool false)], args := [d1, d2] }
  | _ => none }
def FnExactResetDraftWrongFalsely : Prop := fnExactResetDraftRow.holds Try.pinned (OpenSpec.ofChange fnExactResetDraftWrong)

/-- 'laws.FnExactRollBack': WHATEVER THE INPUT: true; the input reads as it did. -/
def fnExactRollBackSpec : ChangeSpec := { name := "fnExactRollBack", fn := fun _ => fun
  | [d1, d2, d3] => { results := [.lit (.bool true)], args := [d1, d2, d3] }
  | _ => none }
def fnExactRollBackRow : OpenClaim := { program := "ytmaigpiappmpcaa", sum := "51c4a951bbf8c6698026e84cb460a4fb0b1271a6aad4f65e4d19b64efd5f69e0", func := "loop.example/g03013/laws.FnExactRollBack", spec := "fnExactRollBack", recurses := true, loops := true, apart := false }
def FnExactRollBackSaid : Prop := fnExactRollBackRow.holds Try.pinned (OpenSpec.ofChange fnExactRollBackSpec)

/-- ITS FALSE NEIGHBOUR: 'it returns false'. Refute it at one input. -/
def fnExactRollBackWrong : ChangeSpec := { name := "fnExactRollBack", fn := fun _ => fun
  | [d1, d2, d3] => { results := [.lit (.bool false)], args := [d1, d2, d3] }
  | _ => none }
def FnExactRollBackWrongFalsely : Prop := fnExactRollBackRow.holds Try.pinned (OpenSpec.ofChange fnExactRollBackWrong)

/-- 'laws.FnExactTickStore': WHATEVER THE INPUT: true; the input reads as it did. -/
def fnExactTickStoreSpec : ChangeSpec := { name := "fnExactTickStore", fn := fun _ => fun
  | [d1, d2] => { results := [.lit (.bool true)], args := [d1, d2] }
  | _ => none }
def fnExactTickStoreRow : OpenClaim := { program := "ytmaigpiappmpcaa", sum := "51c4a951bbf8c6698026e84cb460a4fb0b1271a6aad4f65e4d19b64efd5f69e0", func := "loop.example/g03013/laws.FnExactTickStore", spec := "fnExactTickStore", recurses := true, loops := true, apart := false }
def FnExactTickStoreSaid : Prop := fnExactTickStoreRow.holds Try.pinned (OpenSpec.ofChange fnExactTickStoreSpec)

/-- ITS FALSE NEIGHBOUR: 'it returns false'. Refute it at one input. -/
def fnExactTickStoreWrong : ChangeSpec := { name := "fnExactTickStore", fn := fun _ => fun
  | [d1, d2] => { results := [.lit (.bool false)], args := [d1, d2] }
  | _ => none }
def FnExactTickStoreWrongFalsely : Prop := fnExactTickStoreRow.holds Try.pinned (OpenSpec.ofChange fnExactTickStoreWrong)

/-- 'laws.FnExactRestartStore': WHATEVER THE INPUT: true; the input reads as it did. -/
def fnExactRestartStoreSpec : ChangeSpec := { name := "fnExactRestartStore", fn := fun _ => fun
  | [d] => { results := [.lit (.bool true)], args := [d] }
  | _ => none }
def fnExactRestartStoreRow : OpenClaim := { program := "ytmaigpiappmpcaa", sum := "51c4a951bbf8c6698026e84cb460a4fb0b1271a6aad4f65e4d19b64efd5f69e0", func := "loop.example/g03013/laws.FnExactRestartStore", spec := "fnExactRestartStore", recurses := true, loops := true, apart := false }
def FnExactRestartStoreSaid : Prop := fnExactRestartStoreRow.holds Try.pinned (OpenSpec.ofChange fnExactRestartStoreSpec)

/-- ITS FALSE NEIGHBOUR: 'it returns false'. Refute it at one input. -/
def fnExactRestartStoreWrong : ChangeSpec := { name := "fnExactRestartStore", fn := fun _ => fun
  | [d] => { results := [.lit (.bool false)], args := [d] }
  | _ => none }
def FnExactRestartStoreWrongFalsely : Prop := fnExactRestartStoreRow.holds Try.pinned (OpenSpec.ofChange fnExactRestartStoreWrong)

/-- 'laws.FnExactCancelStore': WHATEVER THE INPUT: true; the input reads as it did. -/
def fnExactCancelStoreSpec : ChangeSpec := { name := "fnExactCancelStore", fn := fun _ => fun
  | [d1, d2, d3] => { results := [.lit (.bool true)], args := [d1, d2, d3] }
  | _ => none }
def fnExactCancelStoreRow : OpenClaim := { program := "ytmaigpiappmpcaa", sum := "51c4a951bbf8c6698026e84cb460a4fb0b1271a6aad4f65e4d19b64efd5f69e0", func := "loop.example/g03013/laws.FnExactCancelStore", spec := "fnExactCancelStore", recurses := true, loops := true, apart := false }
def FnExactCancelStoreSaid : Prop := fnExactCancelStoreRow.holds Try.pinned (OpenSpec.ofChange fnExactCancelStoreSpec)

/-- ITS FALSE NEIGHBOUR: 'it returns false'. Refute it at one input. -/
def fnExactCancelStoreWrong : ChangeSpec := { name := "fnExactCancelStore", fn := fun _ => fun
  | [d1, d2, d3] => { results := [.lit (.bool false)], args := [d1, d2, d3] }
  | _ => none }
def FnExactCancelStoreWrongFalsely : Prop := fnExactCancelStoreRow.holds Try.pinned (OpenSpec.ofChange fnExactCancelStoreWrong)

/-- 'laws.FnExactEndSession': WHATEVER THE INPUT: true; the input reads as it did. -/
def fnExactEndSessionSpec : ChangeSpec := { name := "fnExactEndSession", fn := fun _ => fun
  | [d1, d2] => { results := [.lit (.bool true)], args := [d1, d2] }
  | _ => none }
def fnExactEndSessionRow : OpenClaim := { program := "ytmaigpiappmpcaa", sum := "51c4a951bbf8c6698026e84cb460a4fb0b1271a6aad4f65e4d19b64efd5f69e0", func := "loop.example/g03013/laws.FnExactEndSession", spec := "fnExactEndSession", recurses := true, loops := true, apart := false }
def FnExactEndSessionSaid : Prop := fnExactEndSessionRow.holds Try.pinned (OpenSpec.ofChange fnExactEndSessionSpec)

/-- ITS FALSE NEIGHBOUR: 'it returns false'. Refute it at one input. -/
def fnExactEndSessionWrong : ChangeSpec := { name := "fnExactEndSession", fn := fun _ => fun
  | [d1, d2] => { results := [.lit (.bool false)], args := [d1, d2] }
  | _ => none }
def FnExactEndSessionWrongFalsely : Prop := fnExactEndSessionRow.holds Try.pinned (OpenSpec.ofChange fnExactEndSessionWrong)

/- THE SECOND FORM. 'bulk': how many values and letters a reading holds, each counted each time it is reached (what is shared counts as often as it is met; a slice's spare places count too). A statement '..UptoSaid' is the law's where the arguments, and the package variables that the reading takes, are together of bulk at most 1048576: NARROWER than '..Said'. Prove '..Said' where nothing that the law and all that it calls make is longer than what came in: it says more and counts as full. Else prove '..UptoSaid'. A law counts once. -/
mutual
def uptoBulk {H : Type} : DataW H → Nat
  | .lit (.string bytes) => bytes.length + 1
  | .lit _ => 1
  | .nil => 1
  | .ptr d => uptoBulk d + 1
  | .slice elems spare => uptoBulkAll elems + uptoBulkAll spare + 1
  | .agg parts => uptoBulkAll parts + 1
  | .iface _ d => uptoBulk d + 1
  | .map entries => uptoBulkEntries entries + 1
  | .held _ => 1
def uptoBulkAll {H : Type} : List (DataW H) → Nat
  | [] => 0
  | d :: r => uptoBulk d + uptoBulkAll r
def uptoBulkEntries {H : Type} : List (Lit × DataW H) → Nat
  | [] => 0
  | x :: r => uptoBulkEntry x + uptoBulkEntries r
def uptoBulkEntry {H : Type} : Lit × DataW H → Nat
  | (.string bytes, d) => bytes.length + uptoBulk d + 1
  | (_, d) => uptoBulk d + 1
 end
def uptoSmall : (H : Type) → List (DataW H) → Bool := fun _ ds => decide (uptoBulkAll ds ≤ 1048576)
def OpenSpec.upto (s : _root_.Go.ChangeSpec) : _root_.Go.OpenSpec := { _root_.Go.OpenSpec.ofChange s with cond := some uptoSmall }

/-- 'laws.FnExactNewJournal', WHERE WHAT IT READS IS OF BULK AT MOST 1048576: true; the input reads as it did. -/
def fnExactNewJournalUptoRow : OpenClaim := { program := "ytmaigpiappmpcaa", sum := "51c4a951bbf8c6698026e84cb460a4fb0b1271a6aad4f65e4d19b64efd5f69e0", func := "loop.example/g03013/laws.FnExactNewJournal", spec := "fnExactNewJournal", recurses := true, loops := true, apart := false, narrowed := true }
def FnExactNewJournalUptoSaid : Prop := fnExactNewJournalUptoRow.holds Try.pinned (OpenSpec.upto fnExactNewJournalSpec)

/-- 'laws.FnExactCutJournal', WHERE WHAT IT READS IS OF BULK AT MOST 1048576: true; the input reads as it did. -/
def fnExactCutJournalUptoRow : OpenClaim := { program := "ytmaigpiappmpcaa", sum := "51c4a951bbf8c6698026e84cb460a4fb0b1271a6aad4f65e4d19b64efd5f69e0", func := "loop.example/g03013/laws.FnExactCutJournal", spec := "fnExactCutJournal", recurses := true, loops := true, apart := false, narrowed := true }
def FnExactCutJournalUptoSaid : Prop := fnExactCutJournalUptoRow.holds Try.pinned (OpenSpec.upto fnExactCutJournalSpec)

/-- 'laws.FnExactMayEdit', WHERE WHAT IT READS IS OF BULK AT MOST 1048576: true; the input reads as it did. -/
def fnExactMayEditUptoRow : OpenClaim := { program := "ytmaigpiappmpcaa", sum := "51c4a951bbf8c6698026e84cb460a4fb0b1271a6aad4f65e4d19b64efd5f69e0", func := "loop.example/g03013/laws.FnExactMayEdit", spec := "fnExactMayEdit", recurses := true, loops := true, apart := false, narrowed := true }
def FnExactMayEditUptoSaid : Prop := fnExactMayEditUptoRow.holds Try.pinned (OpenSpec.upto fnExactMayEditSpec)

/-- 'laws.FnExactUnlockStore', WHERE WHAT IT READS IS OF BULK AT MOST 1048576: true; the input reads as it did. -/
def fnExactUnlockStoreUptoRow : OpenClaim := { program := "ytmaigpiappmpcaa", sum := "51c4a951bbf8c6698026e84cb460a4fb0b1271a6aad4f65e4d19b64efd5f69e0", func := "loop.example/g03013/laws.FnExactUnlockStore", spec := "fnExactUnlockStore", recurses := true, loops := true, apart := false, narrowed := true }
def FnExactUnlockStoreUptoSaid : Prop := fnExactUnlockStoreUptoRow.holds Try.pinned (OpenSpec.upto fnExactUnlockStoreSpec)

/-- 'laws.FnExactLockStore', WHERE WHAT IT READS IS OF BULK AT MOST 1048576: true; the input reads as it did. -/
def fnExactLockStoreUptoRow : OpenClaim := { program := "ytmaigpiappmpcaa", sum := "51c4a951bbf8c6698026e84cb460a4fb0b1271a6aad4f65e4d19b64efd5f69e0", func := "loop.example/g03013/laws.FnExactLockStore", spec := "fnExactLockStore", recurses := true, loops := true, apart := false, narrowed := true }
def FnExactLockStoreUptoSaid : Prop := fnExactLockStoreUptoRow.holds Try.pinned (OpenSpec.upto fnExactLockStoreSpec)

/-- 'laws.FnExactResetDraft', WHERE WHAT IT READS IS OF BULK AT MOST 1048576: true; the input reads as it did. -/
def fnExactResetDraftUptoRow : OpenClaim := { program := "ytmaigpiappmpcaa", sum := "51c4a951bbf8c6698026e84cb460a4fb0b1271a6aad4f65e4d19b64efd5f69e0", func := "loop.example/g03013/laws.FnExactResetDraft", spec := "fnExactResetDraft", recurses := true, loops := true, apart := false, narrowed := true }
def FnExactResetDraftUptoSaid : Prop := fnExactResetDraftUptoRow.holds Try.pinned (OpenSpec.upto fnExactResetDraftSpec)

/-- 'laws.FnExactRollBack', WHERE WHAT IT READS IS OF BULK AT MOST 1048576: true; the input reads as it did. -/
def fnExactRollBackUptoRow : OpenClaim := { program := "ytmaigpiappmpcaa", sum := "51c4a951bbf8c6698026e84cb460a4fb0b1271a6aad4f65e4d19b64efd5f69e0", func := "loop.example/g03013/laws.FnExactRollBack", spec := "fnExactRollBack", recurses := true, loops := true, apart := false, narrowed := true }
def FnExactRollBackUptoSaid : Prop := fnExactRollBackUptoRow.holds Try.pinned (OpenSpec.upto fnExactRollBackSpec)

/-- 'laws.FnExactTickStore', WHERE WHAT IT READS IS OF BULK AT MOST 1048576: true; the input reads as it did. -/
def fnExactTickStoreUptoRow : OpenClaim := { program := "ytmaigpiappmpcaa", sum := "51c4a951bbf8c6698026e84cb460a4fb0b1271a6aad4f65e4d19b64efd5f69e0", func := "loop.example/g03013/laws.FnExactTickStore", spec := "fnExactTickStore", recurses := true, loops := true, apart := false, narrowed := true }
def FnExactTickStoreUptoSaid : Prop := fnExactTickStoreUptoRow.holds Try.pinned (OpenSpec.upto fnExactTickStoreSpec)

/-- 'laws.FnExactRestartStore', WHERE WHAT IT READS IS OF BULK AT MOST 1048576: true; the input reads as it did. -/
def fnExactRestartStoreUptoRow : OpenClaim := { program := "ytmaigpiappmpcaa", sum := "51c4a951bbf8c6698026e84cb460a4fb0b1271a6aad4f65e4d19b64efd5f69e0", func := "loop.example/g03013/laws.FnExactRestartStore", spec := "fnExactRestartStore", recurses := true, loops := true, apart := false, narrowed := true }
def FnExactRestartStoreUptoSaid : Prop := fnExactRestartStoreUptoRow.holds Try.pinned (OpenSpec.upto fnExactRestartStoreSpec)

/-- 'laws.FnExactCancelStore', WHERE WHAT IT READS IS OF BULK AT MOST 1048576: true; the input reads as it did. -/
def fnExactCancelStoreUptoRow : OpenClaim := { program := "ytmaigpiappmpcaa", sum := "51c4a951bbf8c6698026e84cb460a4fb0b1271a6aad4f65e4d19b64efd5f69e0", func := "loop.example/g03013/laws.FnExactCancelStore", spec := "fnExactCancelStore", recurses := true, loops := true, apart := false, narrowed := true }
def FnExactCancelStoreUptoSaid : Prop := fnExactCancelStoreUptoRow.holds Try.pinned (OpenSpec.upto fnExactCancelStoreSpec)

/-- 'laws.FnExactEndSession', WHERE WHAT IT READS IS OF BULK AT MOST 1048576: true; the input reads as it did. -/
def fnExactEndSessionUptoRow : OpenClaim := { program := "ytmaigpiappmpcaa", sum := "51c4a951bbf8c6698026e84cb460a4fb0b1271a6aad4f65e4d19b64efd5f69e0", func := "loop.example/g03013/laws.FnExactEndSession", spec := "fnExactEndSession", recurses := true, loops := true, apart := false, narrowed := true }
def FnExactEndSessionUptoSaid : Prop := fnExactEndSessionUptoRow.holds Try.pinned (OpenSpec.upto fnExactEndSessionSpec)

end Rows
end Go.Proofs.Ytmaigpiappmpcaa
