/-
  NARROWER THAN 'FOR EVERY INPUT', by the rows' own cells (each row's printed sentence says how): FnExactChangesBy: loops · FnExactNewJournal: loops · FnExactCutJournal: loops · FnExactMayWork: loops.
  DERIVED. THE GIVEN ROWS OF THIS SEAT. 6 by the template 'for every input the law returns true; each argument reads behind the call as it read before'; 0 by the template 'total and deterministic' (their statements: YtilohpakglpdcaaTotals.lean).
  GIVEN WITH THE SEED: the statements are not yours to turn. If you find one false, say at which input.
  Laid BY PROGRAM, IN A SANDBOX (cutbox-rows.mjs): the forced cells as the released guide's own fill.sh prints them over the translation 41505521d44b1411… (all of the seat's roots in one cut). By AI agents, Wed Nov 11 2026. No macro, syntax, notation, axiom, sorry.
-/
import Derived.Test.YtilohpakglpdcaaChecked
import GoSem.Claim
import GoSem.ClaimJoined
import GoSem.ClaimMapViews
import Derived.JoinedTies
import Derived.KernelRfl
namespace Go.Proofs.Ytilohpakglpdcaa
/- THE CELL 'sum', in the pinned program and in every row, IS THE sha256 OF THE DUMP (.gsa) THAT YtilohpakglpdcaaProg.lean LOADS. Nothing in Lean hashes anything: it is a label: what it is worth is what the hold of that sum in a sandbox is worth. -/
noncomputable def Try.pinned : Pinned := { name := "ytilohpakglpdcaa", sum := "41505521d44b14114ea418269c4311426ec5a00725c6754266118df0a7360beb", checked := Try.checked }
namespace Rows
def none {H : Type} : Left H := { results := [], args := [] }

/-- 'laws.FnExactAreRules': WHATEVER THE INPUT: true; the input reads as it did. -/
def fnExactAreRulesSpec : ChangeSpec := { name := "fnExactAreRules", fn := fun _ => fun
  | [d] => { results := [.lit (.bool true)], args := [d] }
  | _ => none }
def fnExactAreRulesRow : OpenClaim := { program := "ytilohpakglpdcaa", sum := "41505521d44b14114ea418269c4311426ec5a00725c6754266118df0a7360beb", func := "loop.example/g03013/laws.FnExactAreRules", spec := "fnExactAreRules", apart := false }
def FnExactAreRulesSaid : Prop := fnExactAreRulesRow.holds Try.pinned (OpenSpec.ofChange fnExactAreRulesSpec)

/-- ITS FALSE NEIGHBOUR: 'it returns false'. Refute it at one input. -/
def fnExactAreRulesWrong : ChangeSpec := { name := "fnExactAreRules", fn := fun _ => fun
  | [d] => { results := [.lit (.bool false)], args := [d] }
  | _ => none }
def FnExactAreRulesWrongFalsely : Prop := fnExactAreRulesRow.holds Try.pinned (OpenSpec.ofChange fnExactAreRulesWrong)

/-- 'laws.FnExactMayAct': WHATEVER THE INPUT: true; the input reads as it did. -/
def fnExactMayActSpec : ChangeSpec := { name := "fnExactMayAct", fn := fun _ => fun
  | [d1, d2, d3, d4] => { results := [.lit (.bool true)], args := [d1, d2, d3, d4] }
  | _ => none }
def fnExactMayActRow : OpenClaim := { program := "ytilohpakglpdcaa", sum := "41505521d44b14114ea418269c4311426ec5a00725c6754266118df0a7360beb", func := "loop.example/g03013/laws.FnExactMayAct", spec := "fnExactMayAct", apart := false }
def FnExactMayActSaid : Prop := fnExactMayActRow.holds Try.pinned (OpenSpec.ofChange fnExactMayActSpec)

/-- ITS FALSE NEIGHBOUR: 'it returns false'. Refute it at one input. -/
def fnExactMayActWrong : ChangeSpec := { name := "fnExactMayAct", fn := fun _ => fun
  | [d1, d2, d3, d4] => { results := [.lit (.bool false)], args := [d1, d2, d3, d4] }
  | _ => none }
def FnExactMayActWrongFalsely : Prop := fnExactMayActRow.holds Try.pinned (OpenSpec.ofChange fnExactMayActWrong)

/-- 'laws.FnExactChangesBy': WHATEVER THE INPUT: true; the input reads as it did. -/
def fnExactChangesBySpec : ChangeSpec := { name := "fnExactChangesBy", fn := fun _ => fun
  | [d1, d2] => { results := [.lit (.bool true)], args := [d1, d2] }
  | _ => none }
def fnExactChangesByRow : OpenClaim := { program := "ytilohpakglpdcaa", sum := "41505521d44b14114ea418269c4311426ec5a00725c6754266118df0a7360beb", func := "loop.example/g03013/laws.FnExactChangesBy", spec := "fnExactChangesBy", recurses := true, loops := true, apart := false }
def FnExactChangesBySaid : Prop := fnExactChangesByRow.holds Try.pinned (OpenSpec.ofChange fnExactChangesBySpec)

/-- ITS FALSE NEIGHBOUR: 'it returns false'. Refute it at one input. -/
def fnExactChangesByWrong : ChangeSpec := { name := "fnExactChangesBy", fn := fun _ => fun
  | [d1, d2] => { results := [.lit (.bool false)], args := [d1, d2] }
  | _ => none }
def FnExactChangesByWrongFalsely : Prop := fnExactChangesByRow.holds Try.pinned (OpenSpec.ofChange fnExactChangesByWrong)

/-- 'laws.FnExactNewJournal': WHATEVER THE INPUT: true; the input reads as it did. -/
def fnExactNewJournalSpec : ChangeSpec := { name := "fnExactNewJournal", fn := fun _ => fun
  | [d] => { results := [.lit (.bool true)], args := [d] }
  | _ => none }
def fnExactNewJournalRow : OpenClaim := { program := "ytilohpakglpdcaa", sum := "41505521d44b14114ea418269c4311426ec5a00725c6754266118df0a7360beb", func := "loop.example/g03013/laws.FnExactNewJournal", spec := "fnExactNewJournal", recurses := true, loops := true, apart := false }
def FnExactNewJournalSaid : Prop := fnExactNewJournalRow.holds Try.pinned (OpenSpec.ofChange fnExactNewJournalSpec)

/-- ITS FALSE NEIGHBOUR: 'it returns false'. Refute it at one input. -/
def fnExactNewJournalWrong : ChangeSpec := { name := "fnExactNewJournal", fn := fun _ => fun
  | [d] => { results := [.lit (.bool false)], args := [d] }
  | _ => none }
def FnExactNewJournalWrongFalsely : Prop := fnExactNewJournalRow.holds Try.pinned (OpenSpec.ofChange fnExactNewJournalWrong)

/-- 'laws.FnExactCutJournal': WHATEVER THE INPUT: true; the input reads as it did. -/
def fnExactCutJournalSpec : ChangeSpec := { name := "fnExactCutJournal", fn := fun _ => fun
  | [d1, d2] => { results := [.lit (.bool true)], args := [d1, d2] }
  | _ => none }
def fnExactCutJournalRow : OpenClaim := { program := "ytilohpakglpdcaa", sum := "41505521d44b14114ea418269c4311426ec5a00725c6754266118df0a7360beb", func := "loop.example/g03013/laws.FnExactCutJournal", spec := "fnExactCutJournal", recurses := true, loops := true, apart := false }
def FnExactCutJournalSaid : Prop := fnExactCutJournalRow.holds Try.pinned (OpenSpec.ofChange fnExactCutJournalSpec)

/-- ITS FALSE NEIGHBOUR: 'it returns false'. Refute it at one input. -/
def fnExactCutJournalWrong : ChangeSpec := { name := "fnExactCutJournal", fn := fun _ => fun
  | [d1, d2] => { results := [.lit (.bool false)], args := [d1, d2] }
  | _ => none }
def FnExactCutJournalWrongFalsely : Prop := fnExactCutJournalRow.holds Try.pinned (OpenSpec.ofChange fnExactCutJournalWrong)

/-- 'laws.FnExactMayWork': WHATEVER THE INPUT: true; the input reads as it did. -/
def fnExactMayWorkSpec : ChangeSpec := { name := "fnExactMayWork", fn := fun _ => fun
  | [d1, d2] => { results := [.lit (.bool true)], args := [d1, d2] }
  | _ => none }
def fnExactMayWorkRow : OpenClaim := { program := "ytilohpakglpdcaa", sum := "41505521d44b14114ea418269c4311426ec5a00725c6754266118df0a7360beb", func := "loop.example/g03013/laws.FnExactMayWork", spec := "fnExactMayWork", recurses := true, loops := true, apart := false }
def FnExactMayWorkSaid : Prop := fnExactMayWorkRow.holds Try.pinned (OpenSpec.ofChange fnExactMayWorkSpec)

/-- ITS FALSE NEIGHBOUR: 'it returns false'. Refute it at one input. -/
def fnExactMayWorkWrong : ChangeSpec := { name := "fnExactMayWork", fn := fun _ => fun
  | [d1, d2] => { results := [.lit (.bool false)], args := [d1, d2] }
  | _ => none }
def FnExactMayWorkWrongFalsely : Prop := fnExactMayWorkRow.holds Try.pinned (OpenSpec.ofChange fnExactMayWorkWrong)

/- THE SECOND FORM. 'bulk': how many values and letters a reading holds, each counted each time it is reached (what is shared counts as often as it is met; a slice's spare places count too). A statement '..UptoSaid' is the law's where the arguments, and the package variables that the reading takes, are together of bulk at most 1048576: NARROWER than '..Said'. Prove '..Said' where nothing that the law and all that it calls make is longer than what came in: it says more and counts as full. Else prove '..UptoSaid'. A law counts once. -/
mutual
def uptoBulk {H : Type} : DataW H → Nat
  | .lit (.string bytes) => bytes.length + 1
  | .lit _ => 1
  | .nil => 1
  | .ptr d => uptoBulk d + 1
  | .slice elems spare => uptoBulkAll elems + uptoBulkAll spare + 1
  | .agg parts => uptoBulkAll parts + 1
  | .iface _ d => uptoBulk d + 1
  | .map entries => uptoBulkEntries entries + 1
  | .held _ => 1
def uptoBulkAll {H : Type} : List (DataW H) → Nat
  | [] => 0
  | d :: r => uptoBulk d + uptoBulkAll r
def uptoBulkEntries {H : Type} : List (Lit × DataW H) → Nat
  | [] => 0
  | x :: r => uptoBulkEntry x + uptoBulkEntries r
def uptoBulkEntry {H : Type} : Lit × DataW H → Nat
  | (.string bytes, d) => bytes.length + uptoBulk d + 1
  | (_, d) => uptoBulk d + 1
 end
def uptoSmall : (H : Type) → List (DataW H) → Bool := fun _ ds => decide (uptoBulkAll ds ≤ 1048576)
def OpenSpec.upto (s : _root_.Go.ChangeSpec) : _root_.Go.OpenSpec := { _root_.Go.OpenSpec.ofChange s with cond := some uptoSmall }

/-- 'laws.FnExactAreRules', WHERE WHAT IT READS IS OF BULK AT MOST 1048576: true; the input reads as it did. -/
def fnExactAreRulesUptoRow : OpenClaim := { program := "ytilohpakglpdcaa", sum := "41505521d44b14114ea418269c4311426ec5a00725c6754266118df0a7360beb", func := "loop.example/g03013/laws.FnExactAreRules", spec := "fnExactAreRules", apart := false, narrowed := true }
def FnExactAreRulesUptoSaid : Prop := fnExactAreRulesUptoRow.holds Try.pinned (OpenSpec.upto fnExactAreRulesSpec)

/-- 'laws.FnExactMayAct', WHERE WHAT IT READS IS OF BULK AT MOST 1048576: true; the input reads as it did. -/
def fnExactMayActUptoRow : OpenClaim := { program := "ytilohpakglpdcaa", sum := "41505521d44b14114ea418269c4311426ec5a00725c6754266118df0a7360beb", func := "loop.example/g03013/laws.FnExactMayAct", spec := "fnExactMayAct", apart := false, narrowed := true }
def FnExactMayActUptoSaid : Prop := fnExactMayActUptoRow.holds Try.pinned (OpenSpec.upto fnExactMayActSpec)

/-- 'laws.FnExactChangesBy', WHERE WHAT IT READS IS OF BULK AT MOST 1048576: true; the input reads as it did. -/
def fnExactChangesByUptoRow : OpenClaim := { program := "ytilohpakglpdcaa", sum := "41505521d44b14114ea418269c4311426ec5a00725c6754266118df0a7360beb", func := "loop.example/g03013/laws.FnExactChangesBy", spec := "fnExactChangesBy", recurses := true, loops := true, apart := false, narrowed := true }
def FnExactChangesByUptoSaid : Prop := fnExactChangesByUptoRow.holds Try.pinned (OpenSpec.upto fnExactChangesBySpec)

/-- 'laws.FnExactNewJournal', WHERE WHAT IT READS IS OF BULK AT MOST 1048576: true; the input reads as it did. -/
def fnExactNewJournalUptoRow : OpenClaim := { program := "ytilohpakglpdcaa", sum := "41505521d44b14114ea418269c4311426ec5a00725c6754266118df0a7360beb", func := "loop.example/g03013/laws.FnExactNewJournal", spec := "fnExactNewJournal", recurses := true, loops := true, apart := false, narrowed := true }
def FnExactNewJournalUptoSaid : Prop := fnExactNewJournalUptoRow.holds Try.pinned (OpenSpec.upto fnExactNewJournalSpec)

/-- 'laws.FnExactCutJournal', WHERE WHAT IT READS IS OF BULK AT MOST 1048576: true; the input reads as it did. -/
def fnExactCutJournalUptoRow : OpenClaim := { program := "ytilohpakglpdcaa", sum := "41505521d44b14114ea418269c4311426ec5a00725c6754266118df0a7360beb", func := "loop.example/g03013/laws.FnExactCutJournal", spec := "fnExactCutJournal", recurses := true, loops := true, apart := false, narrowed := true }
def FnExactCutJournalUptoSaid : Prop := fnExactCutJournalUptoRow.holds Try.pinned (OpenSpec.upto fnExactCutJournalSpec)

/-- 'laws.FnExactMayWork', WHERE WHAT IT READS IS OF BULK AT MOST 1048576: true; the input reads as it did. -/
def fnExactMayWorkUptoRow : OpenClaim := { program := "ytilohpakglpdcaa", sum := "41505521d44b14114ea418269c4311426ec5a00725c6754266118df0a7360beb", func := "loop.example/g03013/laws.FnExactMayWork", spec := "fnExactMayWork", recurses := true, loops := true, apart := false, narrowed := true }
def FnExactMayWorkUptoSaid : Prop := fnExactMayWorkUptoRow.holds Try.pinned (OpenSpec.upto fnExactMayWorkSpec)

end Rows
end Go.Proofs.Ytilohpakglpdcaa
