/-
  The law FnExactNewJournal returns true for every input, and every argument reads behind the call as it read before; no condition.
-/
import Derived.Test.YtmaigpiappmpcaaRows
import Derived.Test.YtmaigpiappmpcaaLNewJournal
import Derived.Test.YtmaigpiappmpcaaKRead
import Derived.ProofKit
import Derived.OpenShut
import Derived.ShutString
import Derived.ChangeOld
import Derived.Below
namespace Go.Proofs.Ytmaigpiappmpcaa.fnExactNewJournal
open Go.ChangeShapes Go.WideShapes Go.ChangeAt Go.RowKit
open Go.ChangeMaps (open_string shut_string)
set_option linter.unusedVariables false

theorem own : ownKnob Try.prog.godebug = none := by kernel_rfl
theorem laidOut : laidOutB Try.prog = true := by kernel_rfl
theorem mixed : Try.prog.follows .mixedOrders = true := by kernel_rfl
def rel : List (TypeId × Nat) := [(9, 2), (22, 7), (89, 6)]
theorem rel_ok : relOkK Try.prog rel = true := by kernel_rfl

set_option maxRecDepth 100000 in
theorem lifted (os : Os) (started : os.Started) (H : Type) (enc : TypeId × Value → H) :
    ReturnsInHanded {} Try.checked os 3 .any (Rows.fnExactNewJournalSpec.pre6 enc Try.prog Try.f3 Rows.fnExactNewJournalRow.domain false) (Rows.fnExactNewJournalSpec.post enc Try.prog Try.f3 false true false false) := by
  refine returnsInHanded_of_change (C := Try.checked) own started (by kernel_rfl) Try.func3
    (ChangeSpec.witness6 (enc := enc) (C := Try.checked) false ⟨#[], #[(Value.slice none 0 0)], []⟩ 8 (by kernel_rfl) (by kernel_rfl) (by kernel_rfl) (by kernel_rfl)) ?_
  intro W base args ds gs before hval0 hW hcnd _
  have hval : ∀ (j : Nat) t v, Try.f3.params[j]? = some t → args[j]? = some v → Value.okWide Try.prog W .any base t v := hval0
  have hW' := hW
  obtain ⟨p, q, hA0, hV, rfl, hfz, hnd⟩ := hW
  have hA : DataW.TrodAll enc Try.prog W 0 (fun _ => true) true Try.f3.params.toList args.toList ds p := hA0
  rw [Try.params3] at hA hval
  obtain ⟨v0, vs0, d0, ds0, p0, q0, hargs, rfl, rfl, h0, r0⟩ := trodAll_cons hA
  obtain ⟨rfl, rfl, rfl⟩ := trodAll_nil r0
  obtain rfl : args = #[v0] := by cases args; simp_all
  obtain ⟨rfl, rfl⟩ := trodVars_none hV
  have k0 := h0
  have lt0 : ∀ x ∈ p0, x.block < W.heap.size := by obtain ⟨m, hm⟩ := k0; exact DataW.trod_lt m _ _ _ hm
  obtain ⟨a0, n0, c0, rfl⟩ := okWide_slice Try.underlying22 (hval 0 22 v0 rfl rfl)
  obtain ⟨x0, F0, okx0, rp0⟩ : ∃ ds F, OkC maxLen (flay 7) ds ∧ RpC W ds [.slice a0 n0 c0] F := by
    obtain ⟨fuel, hf⟩ := h0
    exact readK (relK_of rel_ok) fuel 22 7 _ _ hf (by decide)
  obtain ⟨y0, ys0, rfl, oy0, on0⟩ := OkC.cons_inv (t := .list 2) (ts := []) okx0
  obtain rfl := on0.nil_inv
  obtain ⟨xs0, rfl, lb0, ok0⟩ := oy0.list_inv
  clear hA0 hval0
  have hc : Calls Try.prog 3 #[.slice a0 n0 c0] W fun e w' => e = .returned (.bool true) ∧ Below W.heap.size W w' := law_true (f := 25) mixed okT ok25 (law_FnExactNewJournal xs0 lb0 ok0) (argRs_cons (argR_one rp0) argRs_nil)
  refine hc.mono fun e W' ⟨he, bel⟩ => ?_
  subst he
  exact ⟨_, rfl, _, _, _, [], _, [], hW', trodAll_mk1 (shut_bool Try.underlying4 _), (trodAll_cons_mk (Below.trod laidOut (by kernel_rfl) (of_decide_eq_true (by kernel_rfl)) k0 bel lt0) trodAll_mk0), rfl, bel.frame _, fun h => by cases h⟩

theorem over : Rows.fnExactNewJournalRow.holds Try.pinned (OpenSpec.ofChange Rows.fnExactNewJournalSpec) :=
  OpenClaim.holds_of_wide 3 Try.f3 rfl rfl rfl rfl rfl rfl rfl ⟨rfl, rfl, rfl, rfl, rfl⟩ rfl rfl rfl rfl rfl (by kernel_rfl) Try.func3 (by kernel_rfl)
    (of_decide_eq_true (by kernel_rfl)) (by unfold Func.isWrapper; first | (rw [if_pos (by decide +kernel)]; kernel_rfl) | (rw [if_neg (by decide +kernel)]; exact ⟨rfl, rfl⟩))
    (fun os started H enc _ => lifted os started H enc)

theorem proved : Rows.FnExactNewJournalSaid := over
#print axioms proved
end Go.Proofs.Ytmaigpiappmpcaa.fnExactNewJournal
