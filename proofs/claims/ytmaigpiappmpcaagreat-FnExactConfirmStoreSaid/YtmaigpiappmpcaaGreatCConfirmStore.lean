/-
  The law FnExactConfirmStore returns true for every input, and every argument reads behind the call as it read before; no condition.
-/
import Derived.Test.YtmaigpiappmpcaaGreatRows
import Derived.Test.YtmaigpiappmpcaaGreatLConfirmStore
import Derived.Test.YtmaigpiappmpcaaGreatKRead
import Derived.ProofKit
import Derived.OpenShut
import Derived.ShutString
import Derived.ChangeOld
import Derived.Below
namespace Go.Proofs.YtmaigpiappmpcaaGreat.fnExactConfirmStore
open Go.ChangeShapes Go.WideShapes Go.ChangeAt Go.RowKit
open Go.ChangeMaps (open_string shut_string)
set_option linter.unusedVariables false

theorem own : ownKnob Tryz.prog.godebug = none := by kernel_rfl
theorem laidOut : laidOutB Tryz.prog = true := by kernel_rfl
theorem mixed : Tryz.prog.follows .mixedOrders = true := by kernel_rfl
def rel : List (TypeId × Nat) := [(3, 0), (4, 1), (9, 2), (22, 24), (23, 7), (24, 26), (26, 27), (28, 28), (65, 14), (66, 3), (68, 15), (69, 22), (71, 23), (74, 6), (77, 25), (121, 19), (123, 20), (125, 21), (140, 13), (150, 17), (152, 18), (159, 16)]
theorem rel_ok : relOkK Tryz.prog rel = true := by kernel_rfl

set_option maxRecDepth 100000 in
theorem lifted (os : Os) (started : os.Started) (H : Type) (enc : TypeId × Value → H) :
    ReturnsInHanded {} Tryz.checked os 3 .any (Rows.fnExactConfirmStoreSpec.pre6 enc Tryz.prog Tryz.f3 Rows.fnExactConfirmStoreRow.domain false) (Rows.fnExactConfirmStoreSpec.post enc Tryz.prog Tryz.f3 false true false false) := by
  refine returnsInHanded_of_change (C := Tryz.checked) own started (by kernel_rfl) Tryz.func3
    (ChangeSpec.witness6 (enc := enc) (C := Tryz.checked) false ⟨#[], #[(Value.agg #[(Value.slice none 0 0), (Value.slice none 0 0), (Value.slice none 0 0), (Value.int .i64 0), (Value.slice none 0 0), (Value.bool false), (Value.int .i64 0), (Value.int .i64 0), (Value.string (⟨#[]⟩)), (Value.slice none 0 0)]), (Value.int .i64 0), (Value.string (⟨#[]⟩)), (Value.int .i64 0)], []⟩ 8 (by kernel_rfl) (by kernel_rfl) (by kernel_rfl) (by kernel_rfl)) ?_
  intro W base args ds gs before hval0 hW hcnd _
  have hval : ∀ (j : Nat) t v, Tryz.f3.params[j]? = some t → args[j]? = some v → Value.okWide Tryz.prog W .any base t v := hval0
  have hW' := hW
  obtain ⟨p, q, hA0, hV, rfl, hfz, hnd⟩ := hW
  have hA : DataW.TrodAll enc Tryz.prog W 0 (fun _ => true) true Tryz.f3.params.toList args.toList ds p := hA0
  rw [Tryz.params3] at hA hval
  obtain ⟨v0, vs0, d0, ds0, p0, q0, hargs, rfl, rfl, h0, r0⟩ := trodAll_cons hA
  obtain ⟨v1, vs1, d1, ds1, p1, q1, rfl, rfl, rfl, h1, r1⟩ := trodAll_cons r0
  obtain ⟨v2, vs2, d2, ds2, p2, q2, rfl, rfl, rfl, h2, r2⟩ := trodAll_cons r1
  obtain ⟨v3, vs3, d3, ds3, p3, q3, rfl, rfl, rfl, h3, r3⟩ := trodAll_cons r2
  obtain ⟨rfl, rfl, rfl⟩ := trodAll_nil r3
  obtain rfl : args = #[v0, v1, v2, v3] := by cases args; simp_all
  obtain ⟨rfl, rfl⟩ := trodVars_none hV
  have k0 := h0
  have lt0 : ∀ x ∈ p0, x.block < W.heap.size := by obtain ⟨m, hm⟩ := k0; exact DataW.trod_lt m _ _ _ hm
  obtain ⟨ag0, rfl, sz0⟩ := okWide_struct Tryz.underlying28 (hval 0 28 v0 rfl rfl)
  obtain ⟨cs0⟩ := ag0
  obtain ⟨x0, F0, ok0, rp0⟩ : ∃ ds F, OkC maxLen (flay 28) ds ∧ RpC W ds cs0 F := by
    obtain ⟨fuel, hf⟩ := h0
    exact readK (relK_of rel_ok) fuel 28 28 _ _ hf (by decide)
  obtain ⟨i1, rfl, rfl, rfl, wf1⟩ := Go.ChangeShapes.open_int Tryz.underlying3 (hval 1 3 v1 rfl rfl) h1
  have bd1 := bounds_i64 wf1
  obtain ⟨s2, rfl, rfl, rfl, hs2⟩ := open_string Tryz.underlying9 (hval 2 9 v2 rfl rfl) h2
  have ls2 : s2.size ≤ maxLen := by simpa [maxLen] using hs2
  obtain ⟨i3, rfl, rfl, rfl, wf3⟩ := Go.ChangeShapes.open_int Tryz.underlying3 (hval 3 3 v3 rfl rfl) h3
  have bd3 := bounds_i64 wf3
  clear hA0 hval0
  have hc : Calls Tryz.prog 3 #[.agg ⟨cs0⟩, .int .i64 i1, .string s2, .int .i64 i3] W fun e w' => e = .returned (.bool true) ∧ Below W.heap.size W w' := law_true (f := 200) mixed okT ok200 (law_FnExactConfirmStore x0 ok0 i1 bd1 s2 ls2 i3 bd3) (argRs_cons (argR_agg rp0) (argRs_cons (argR_int (i64_wrap (by omega))) (argRs_cons (argR_str ls2) (argRs_cons (argR_int (i64_wrap (by omega))) argRs_nil))))
  refine hc.mono fun e W' ⟨he, bel⟩ => ?_
  subst he
  exact ⟨_, rfl, _, _, _, [], _, [], hW', trodAll_mk1 (shut_bool Tryz.underlying4 _), (trodAll_cons_mk (Below.trod laidOut (by kernel_rfl) (of_decide_eq_true (by kernel_rfl)) k0 bel lt0) (trodAll_cons_mk (shut_int Tryz.underlying3 wf1) (trodAll_cons_mk (shut_string Tryz.underlying9 hs2) (trodAll_cons_mk (shut_int Tryz.underlying3 wf3) trodAll_mk0)))), rfl, bel.frame _, fun h => by cases h⟩

theorem over : Rows.fnExactConfirmStoreRow.holds Tryz.pinned (OpenSpec.ofChange Rows.fnExactConfirmStoreSpec) :=
  OpenClaim.holds_of_wide 3 Tryz.f3 rfl rfl rfl rfl rfl rfl rfl ⟨rfl, rfl, rfl, rfl, rfl⟩ rfl rfl rfl rfl rfl (by kernel_rfl) Tryz.func3 (by kernel_rfl)
    (of_decide_eq_true (by kernel_rfl)) (by unfold Func.isWrapper; first | (rw [if_pos (by decide +kernel)]; kernel_rfl) | (rw [if_neg (by decide +kernel)]; exact ⟨rfl, rfl⟩))
    (fun os started H enc _ => lifted os started H enc)

theorem proved : Rows.FnExactConfirmStoreSaid := over
#print axioms proved
end Go.Proofs.YtmaigpiappmpcaaGreat.fnExactConfirmStore
