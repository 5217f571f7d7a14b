/-
  Rules, in the program and in the reference. Printed by a program of our own.
-/
import Derived.Test.YtilohpakglpdcaaNameW
namespace Go.Proofs.Ytilohpakglpdcaa
open Go.RowKit
set_option linter.unusedVariables false
set_option maxRecDepth 100000

set_option maxHeartbeats 400000 in
theorem areRules_c (w : World) (xs : List V) (A : Option Addr) (n c : Nat) (F : List Nat) (ok : Oks xs tRule) (hr : Rep w (.list xs) [.slice A n c] F) : Calls Try.prog 12 #[.slice A n c] w (RetB w (RulesP xs)) := by
  have hB0 := Below.refl w.heap.size w
  obtain ⟨ln, lc, lm⟩ := hr.len
  refine enter (N := 46) Try.func12 rfl Try.ntmps12 rfl ?_
  refine w_seq ?_
  refine w_region ?_
  refine l_op wn (o_val (x_assign ec) ?_)
  refine l_nil ?_
  refine w_seq ?_
  refine w_seq ?_
  refine w_region ?_
  refine l_op wn (o_val (x_move (et (v := (Value.slice A n c)) rfl)) ?_)
  refine l_op wn (o_val (x_len Try.underlying25 (et (v := (Value.slice A n c)) rfl)) ?_)
  refine l_op wn (o_val (x_move ec) ?_)
  refine l_nil ?_
  refine w_block ?_
  refine w_loop (fun μ f w' => ∃ (i : Nat), f 0 = (Value.slice A n c) ∧ f 5 = (Value.slice A n c) ∧ f 6 = (Value.int .i64 (n : Int)) ∧ f 7 = (Value.int .i64 (i : Int)) ∧ Below w.heap.size w w' ∧ (i ≤ n) ∧ (∀ j, j < i → ∀ x, xs[j]? = some x → RuleP x) ∧ μ = n - i) (n - 0) ?_ ?_
  · exact ⟨0, rfl, rfl, rfl, vint (a := 0) (by omega), hB0, (by omega), (fun j hj => by omega), rfl⟩
  rintro m_123 f_121 w_122 ⟨i, hs_125, hs_126, hs_127, hs_128, hB_124, hi, hall, rfl⟩
  have z_129 := hB_124.size
  refine w_seq ?_
  refine w_region ?_
  by_cases h_130 : (i : Int) < (n : Int)
  rotate_left
  · refine l_op wn (o_val (x_lss (r := false) (et (v := (Value.int .i64 (i : Int))) hs_128) (et (v := (Value.int .i64 (n : Int))) hs_127) (dec_f h_130)) ?_)
    refine l_nil ?_
    refine w_seq ?_
    refine w_if_f (et (v := (Value.bool false)) rfl) ?_
    refine w_exit ?_
    refine Eq.mpr (if_pos rfl) ?_
    refine w_seq ?_
    refine w_region ?_
    refine l_op wn (o_val (x_move (et (v := (Value.slice A n c)) hs_125)) ?_)
    refine l_op wn (o_val (x_len Try.underlying25 (et (v := (Value.slice A n c)) rfl)) ?_)
    by_cases h_203 : (n : Int) ≤ 12
    rotate_left
    · refine l_op wn (o_val (x_leq (r := false) (et (v := (Value.int .i64 (n : Int))) rfl) ec (dec_f h_203)) ?_)
      refine l_op wn (o_val (x_assign (et (v := (Value.bool false)) rfl)) ?_)
      refine l_nil ?_
      refine w_ret ?_
      exact ⟨_, r_tmp (v := (Value.bool false)) Try.results12 rfl, _, rfl, iff_f (by intro h; have := h.2; omega), hB_124⟩
    refine l_op wn (o_val (x_leq (r := true) (et (v := (Value.int .i64 (n : Int))) rfl) ec (dec_t h_203)) ?_)
    refine l_op wn (o_val (x_assign (et (v := (Value.bool true)) rfl)) ?_)
    refine l_nil ?_
    refine w_ret ?_
    exact ⟨_, r_tmp (v := (Value.bool true)) Try.results12 rfl, _, rfl, iff_t (by exact ⟨fun j x hx => hall j (by have := (List.getElem?_eq_some_iff.1 hx).1; omega) x hx, by omega⟩), hB_124⟩
  refine l_op wn (o_val (x_lss (r := true) (et (v := (Value.int .i64 (i : Int))) hs_128) (et (v := (Value.int .i64 (n : Int))) hs_127) (dec_t h_130)) ?_)
  refine l_nil ?_
  refine w_seq ?_
  refine w_if_t (et (v := (Value.bool true)) rfl) ?_
  refine w_skip ?_
  refine w_seq ?_
  refine w_block ?_
  refine w_seq ?_
  refine w_region ?_
  obtain ⟨b_131, o_132, x_133, cs_134, G_135, hA_136, hbF_137, hlt_138, hx_139, hrx_140, hG_141, hl_142, hcl_143⟩ := hr.elem (k := 4) (fun y hy => wd_Rule (ok.mem y hy)) (i := i) (by omega)
  obtain ⟨s_144, xs_145, A_146, n_147, c_148, F_149, i_151, q_152, rfl, rfl, rfl, bd_156, ok_157, hr_158, ln_159, bd_160⟩ := open_Rule (ok.get hx_139) hrx_140
  refine l_op wn (o_val (x_index' (i := i) Try.underlying25 Try.sizeOf75 (et (v := (Value.slice A n c)) hs_126) hA_136 (et (v := (Value.int .i64 (i : Int))) hs_128) (by omega) (by omega)) ?_)
  refine l_op wn (o_val (x_loadN (cs := [(Value.string s_144), (Value.slice A_146 n_147 c_148), (Value.int .i64 i_151), (Value.bool q_152)]) Try.isAgg75 Try.sizeOf75 (et (v := (Value.pointer (some ⟨b_131, o_132 + i * 4, none⟩))) rfl) rfl ((hl_142.keep (hB_124.block _ hlt_138)))) ?_)
  refine l_op wn (o_new (x_alloc (cs := [(Value.string (⟨#[]⟩)), (Value.slice none 0 0), (Value.int .i64 0), (Value.bool false)]) Try.zeroValue75) ?_)
  intro w_161 z_162 k_163 bx_164
  have hB_165 := below_next hB_124 k_163 (by omega)
  refine l_op wn (o_storeN (vs := [(Value.string s_144), (Value.slice A_146 n_147 c_148), (Value.int .i64 i_151), (Value.bool q_152)]) Try.sizeOf75 (et (v := (Value.pointer (some ⟨w_122.heap.size, 0, none⟩))) rfl) (et (v := (Value.agg #[(Value.string s_144), (Value.slice A_146 n_147 c_148), (Value.int .i64 i_151), (Value.bool q_152)])) rfl) rfl (by simp [one]) bx_164 (by simp) ?_)
  intro w_166 of_167 bx_168
  have bx_169 : Blk w_166 w_122.heap.size 75 [(Value.string s_144), (Value.slice A_146 n_147 c_148), (Value.int .i64 i_151), (Value.bool q_152)] := bx_168
  have hB_170 := below_off hB_165 of_167 (by omega)
  have z_171 := of_167.size
  refine l_nil ?_
  refine w_seq ?_
  refine w_region ?_
  refine l_op wn (o_val (x_field (k := 0) (j := 0) Try.underlying75 rfl Try.sizeOf9 rfl (et (v := (Value.pointer (some ⟨w_122.heap.size, 0, none⟩))) rfl)) ?_)
  refine l_op wn (o_val (x_load (v := (Value.string s_144)) Try.isAgg9 (et (v := (Value.pointer (some ⟨w_122.heap.size, 0, none⟩))) rfl) ((bx_169.cell 0).trans rfl)) ?_)
  by_cases h_172 : s_144 = (⟨#[]⟩)
  · refine l_op wn (o_val (x_sneq (r := false) (et (v := (Value.string s_144)) rfl) ec (dec_t h_172)) ?_)
    refine l_op wn (o_val (x_move (et (v := (Value.bool false)) rfl)) ?_)
    refine l_pass (wx rfl) ?_
    refine l_pass (wx rfl) ?_
    refine l_pass (wx rfl) ?_
    refine l_pass (wx rfl) ?_
    refine l_op wn (o_val (x_pick_f (et (v := (Value.bool false)) rfl) ec) ?_)
    refine l_op wn (o_val (x_move (et (v := (Value.bool false)) rfl)) ?_)
    refine l_op (wy rfl) (o_val (x_field (k := 0) (j := 1) Try.underlying75 rfl Try.sizeOf29 rfl (et (v := (Value.pointer (some ⟨w_122.heap.size, 0, none⟩))) rfl)) ?_)
    refine l_op (wy rfl) (o_val (x_load (v := (Value.slice A_146 n_147 c_148)) Try.isAgg29 (et (v := (Value.pointer (some ⟨w_122.heap.size, 1, none⟩))) rfl) ((bx_169.cell 1).trans rfl)) ?_)
    refine l_op (wy rfl) (o_val (x_len Try.underlying29 (et (v := (Value.slice A_146 n_147 c_148)) rfl)) ?_)
    by_cases h_173 : 10 < (n_147 : Int)
    · refine l_op (wy rfl) (o_val (x_gtr (r := true) (et (v := (Value.int .i64 (n_147 : Int))) rfl) ec (dec_t h_173)) ?_)
      refine l_op wn (o_val (x_pick_f (et (v := (Value.bool false)) rfl) (et (v := (Value.bool true)) rfl)) ?_)
      refine l_op wn (o_val (x_move (et (v := (Value.bool true)) rfl)) ?_)
      refine l_pass (wx rfl) ?_
      refine l_pass (wx rfl) ?_
      refine l_pass (wx rfl) ?_
      refine l_pass (wx rfl) ?_
      refine l_op wn (o_val (x_pick_t (et (v := (Value.bool true)) rfl) ec) ?_)
      refine l_op wn (o_val (x_move (et (v := (Value.bool true)) rfl)) ?_)
      refine l_pass (wx rfl) ?_
      refine l_pass (wx rfl) ?_
      refine l_pass (wx rfl) ?_
      refine l_op wn (o_val (x_pick_t (et (v := (Value.bool true)) rfl) ec) ?_)
      refine l_op wn (o_val (x_move (et (v := (Value.bool true)) rfl)) ?_)
      refine l_pass (wx rfl) ?_
      refine l_pass (wx rfl) ?_
      refine l_pass (wx rfl) ?_
      refine l_op wn (o_val (x_pick_t (et (v := (Value.bool true)) rfl) ec) ?_)
      refine l_nil ?_
      refine w_if_t (et (v := (Value.bool true)) rfl) ?_
      refine w_seq ?_
      refine w_region ?_
      refine l_op wn (o_val (x_assign ec) ?_)
      refine l_nil ?_
      refine w_ret ?_
      exact ⟨_, r_tmp (v := (Value.bool false)) Try.results12 rfl, _, rfl, iff_f (by intro h; obtain ⟨h1, h2, h3, h4, h5⟩ := rule_iff.1 (h.1 i _ hx_139); first | omega | exact absurd h3 (by assumption) | (rcases h1 with h1 | h1 <;> exact absurd h1 (by assumption))), hB_170⟩
    refine l_op (wy rfl) (o_val (x_gtr (r := false) (et (v := (Value.int .i64 (n_147 : Int))) rfl) ec (dec_f h_173)) ?_)
    refine l_op wn (o_val (x_pick_f (et (v := (Value.bool false)) rfl) (et (v := (Value.bool false)) rfl)) ?_)
    refine l_op wn (o_val (x_move (et (v := (Value.bool false)) rfl)) ?_)
    refine l_op (wy rfl) (o_val (x_field (k := 0) (j := 1) Try.underlying75 rfl Try.sizeOf29 rfl (et (v := (Value.pointer (some ⟨w_122.heap.size, 0, none⟩))) rfl)) ?_)
    refine l_op (wy rfl) (o_val (x_load (v := (Value.slice A_146 n_147 c_148)) Try.isAgg29 (et (v := (Value.pointer (some ⟨w_122.heap.size, 1, none⟩))) rfl) ((bx_169.cell 1).trans rfl)) ?_)
    refine l_op (wy rfl) (o_call (x_call Try.call44 ef (a1 (et (v := (Value.slice A_146 n_147 c_148)) rfl))) (areNames_c w_166 xs_145 A_146 n_147 c_148 _ ok_157 (hr_158.below hB_170)) ?_)
    rintro _ w_174 ⟨r_175, rfl, hr_176, k_177⟩
    refine ⟨_, rfl, ?_⟩
    have hB_179 := below_next hB_170 k_177 (by omega)
    have z_180 := k_177.size
    have bx_181 := bx_169.below k_177
    cases r_175
    · have h_178 : ¬ (NamesP xs_145) := not_of_f hr_176
      refine l_op (wy rfl) (o_val (x_not (et (v := (Value.bool false)) rfl)) ?_)
      refine l_op wn (o_val (x_pick_f (et (v := (Value.bool false)) rfl) (et (v := (Value.bool true)) rfl)) ?_)
      refine l_op wn (o_val (x_move (et (v := (Value.bool true)) rfl)) ?_)
      refine l_pass (wx rfl) ?_
      refine l_pass (wx rfl) ?_
      refine l_pass (wx rfl) ?_
      refine l_op wn (o_val (x_pick_t (et (v := (Value.bool true)) rfl) ec) ?_)
      refine l_op wn (o_val (x_move (et (v := (Value.bool true)) rfl)) ?_)
      refine l_pass (wx rfl) ?_
      refine l_pass (wx rfl) ?_
      refine l_pass (wx rfl) ?_
      refine l_op wn (o_val (x_pick_t (et (v := (Value.bool true)) rfl) ec) ?_)
      refine l_nil ?_
      refine w_if_t (et (v := (Value.bool true)) rfl) ?_
      refine w_seq ?_
      refine w_region ?_
      refine l_op wn (o_val (x_assign ec) ?_)
      refine l_nil ?_
      refine w_ret ?_
      exact ⟨_, r_tmp (v := (Value.bool false)) Try.results12 rfl, _, rfl, iff_f (by intro h; obtain ⟨h1, h2, h3, h4, h5⟩ := rule_iff.1 (h.1 i _ hx_139); first | omega | exact absurd h3 (by assumption) | (rcases h1 with h1 | h1 <;> exact absurd h1 (by assumption))), hB_179⟩
    have h_178 : NamesP xs_145 := hr_176.1 rfl
    refine l_op (wy rfl) (o_val (x_not (et (v := (Value.bool true)) rfl)) ?_)
    refine l_op wn (o_val (x_pick_f (et (v := (Value.bool false)) rfl) (et (v := (Value.bool false)) rfl)) ?_)
    refine l_op wn (o_val (x_move (et (v := (Value.bool false)) rfl)) ?_)
    refine l_op (wy rfl) (o_val (x_field (k := 0) (j := 2) Try.underlying75 rfl Try.sizeOf3 rfl (et (v := (Value.pointer (some ⟨w_122.heap.size, 0, none⟩))) rfl)) ?_)
    refine l_op (wy rfl) (o_val (x_load (v := (Value.int .i64 i_151)) Try.isAgg3 (et (v := (Value.pointer (some ⟨w_122.heap.size, 2, none⟩))) rfl) ((bx_181.cell 2).trans rfl)) ?_)
    by_cases h_182 : i_151 < 0
    · refine l_op (wy rfl) (o_val (x_lss (r := true) (et (v := (Value.int .i64 i_151)) rfl) ec (dec_t h_182)) ?_)
      refine l_op wn (o_val (x_pick_f (et (v := (Value.bool false)) rfl) (et (v := (Value.bool true)) rfl)) ?_)
      refine l_op wn (o_val (x_move (et (v := (Value.bool true)) rfl)) ?_)
      refine l_pass (wx rfl) ?_
      refine l_pass (wx rfl) ?_
      refine l_pass (wx rfl) ?_
      refine l_op wn (o_val (x_pick_t (et (v := (Value.bool true)) rfl) ec) ?_)
      refine l_nil ?_
      refine w_if_t (et (v := (Value.bool true)) rfl) ?_
      refine w_seq ?_
      refine w_region ?_
      refine l_op wn (o_val (x_assign ec) ?_)
      refine l_nil ?_
      refine w_ret ?_
      exact ⟨_, r_tmp (v := (Value.bool false)) Try.results12 rfl, _, rfl, iff_f (by intro h; obtain ⟨h1, h2, h3, h4, h5⟩ := rule_iff.1 (h.1 i _ hx_139); first | omega | exact absurd h3 (by assumption) | (rcases h1 with h1 | h1 <;> exact absurd h1 (by assumption))), hB_179⟩
    refine l_op (wy rfl) (o_val (x_lss (r := false) (et (v := (Value.int .i64 i_151)) rfl) ec (dec_f h_182)) ?_)
    refine l_op wn (o_val (x_pick_f (et (v := (Value.bool false)) rfl) (et (v := (Value.bool false)) rfl)) ?_)
    refine l_op wn (o_val (x_move (et (v := (Value.bool false)) rfl)) ?_)
    refine l_op (wy rfl) (o_val (x_field (k := 0) (j := 2) Try.underlying75 rfl Try.sizeOf3 rfl (et (v := (Value.pointer (some ⟨w_122.heap.size, 0, none⟩))) rfl)) ?_)
    refine l_op (wy rfl) (o_val (x_load (v := (Value.int .i64 i_151)) Try.isAgg3 (et (v := (Value.pointer (some ⟨w_122.heap.size, 2, none⟩))) rfl) ((bx_181.cell 2).trans rfl)) ?_)
    by_cases h_183 : 2 < i_151
    rotate_left
    · refine l_op (wy rfl) (o_val (x_gtr (r := false) (et (v := (Value.int .i64 i_151)) rfl) ec (dec_f h_183)) ?_)
      refine l_op wn (o_val (x_pick_f (et (v := (Value.bool false)) rfl) (et (v := (Value.bool false)) rfl)) ?_)
      refine l_nil ?_
      refine w_if_f (et (v := (Value.bool false)) rfl) ?_
      refine w_skip ?_
      refine w_region ?_
      refine l_op wn (o_val (x_add (et (v := (Value.int .i64 (i : Int))) hs_128) ec (by omega)) ?_)
      refine l_op wn (o_val (x_move (et (v := (Value.int .i64 ((i : Int) + 1))) rfl)) ?_)
      refine l_nil ?_
      exact ⟨n - (i + 1), by omega, ⟨i + 1, hs_125, hs_126, hs_127, vint (a := ((i : Int) + 1)) (by omega), hB_179, (by omega), (upto_succ hall (fun x hx => by rw [hx_139] at hx; cases hx; exact rule_iff.2 ⟨by first | exact .inl (by assumption) | exact .inr (by assumption), by omega, by assumption, by omega, by omega⟩)), rfl⟩⟩
    refine l_op (wy rfl) (o_val (x_gtr (r := true) (et (v := (Value.int .i64 i_151)) rfl) ec (dec_t h_183)) ?_)
    refine l_op wn (o_val (x_pick_f (et (v := (Value.bool false)) rfl) (et (v := (Value.bool true)) rfl)) ?_)
    refine l_nil ?_
    refine w_if_t (et (v := (Value.bool true)) rfl) ?_
    refine w_seq ?_
    refine w_region ?_
    refine l_op wn (o_val (x_assign ec) ?_)
    refine l_nil ?_
    refine w_ret ?_
    exact ⟨_, r_tmp (v := (Value.bool false)) Try.results12 rfl, _, rfl, iff_f (by intro h; obtain ⟨h1, h2, h3, h4, h5⟩ := rule_iff.1 (h.1 i _ hx_139); first | omega | exact absurd h3 (by assumption) | (rcases h1 with h1 | h1 <;> exact absurd h1 (by assumption))), hB_179⟩
  refine l_op wn (o_val (x_sneq (r := true) (et (v := (Value.string s_144)) rfl) ec (dec_f h_172)) ?_)
  refine l_op wn (o_val (x_move (et (v := (Value.bool true)) rfl)) ?_)
  refine l_op (wy rfl) (o_val (x_field (k := 0) (j := 0) Try.underlying75 rfl Try.sizeOf9 rfl (et (v := (Value.pointer (some ⟨w_122.heap.size, 0, none⟩))) rfl)) ?_)
  refine l_op (wy rfl) (o_val (x_load (v := (Value.string s_144)) Try.isAgg9 (et (v := (Value.pointer (some ⟨w_122.heap.size, 0, none⟩))) rfl) ((bx_169.cell 0).trans rfl)) ?_)
  refine l_op (wy rfl) (o_call (x_call Try.call43 ef (a1 (et (v := (Value.string s_144)) rfl))) (isName_c w_166 s_144 bd_156) ?_)
  rintro _ w_184 ⟨r_185, rfl, hr_186, k_187⟩
  refine ⟨_, rfl, ?_⟩
  have hB_189 := below_next hB_170 k_187 (by omega)
  have z_190 := k_187.size
  have bx_191 := bx_169.below k_187
  cases r_185
  · have h_188 : ¬ (NameP s_144) := not_of_f hr_186
    refine l_op (wy rfl) (o_val (x_not (et (v := (Value.bool false)) rfl)) ?_)
    refine l_op wn (o_val (x_pick_t (et (v := (Value.bool true)) rfl) (et (v := (Value.bool true)) rfl)) ?_)
    refine l_op wn (o_val (x_move (et (v := (Value.bool true)) rfl)) ?_)
    refine l_pass (wx rfl) ?_
    refine l_pass (wx rfl) ?_
    refine l_pass (wx rfl) ?_
    refine l_pass (wx rfl) ?_
    refine l_op wn (o_val (x_pick_t (et (v := (Value.bool true)) rfl) ec) ?_)
    refine l_op wn (o_val (x_move (et (v := (Value.bool true)) rfl)) ?_)
    refine l_pass (wx rfl) ?_
    refine l_pass (wx rfl) ?_
    refine l_pass (wx rfl) ?_
    refine l_pass (wx rfl) ?_
    refine l_op wn (o_val (x_pick_t (et (v := (Value.bool true)) rfl) ec) ?_)
    refine l_op wn (o_val (x_move (et (v := (Value.bool true)) rfl)) ?_)
    refine l_pass (wx rfl) ?_
    refine l_pass (wx rfl) ?_
    refine l_pass (wx rfl) ?_
    refine l_op wn (o_val (x_pick_t (et (v := (Value.bool true)) rfl) ec) ?_)
    refine l_op wn (o_val (x_move (et (v := (Value.bool true)) rfl)) ?_)
    refine l_pass (wx rfl) ?_
    refine l_pass (wx rfl) ?_
    refine l_pass (wx rfl) ?_
    refine l_op wn (o_val (x_pick_t (et (v := (Value.bool true)) rfl) ec) ?_)
    refine l_nil ?_
    refine w_if_t (et (v := (Value.bool true)) rfl) ?_
    refine w_seq ?_
    refine w_region ?_
    refine l_op wn (o_val (x_assign ec) ?_)
    refine l_nil ?_
    refine w_ret ?_
    exact ⟨_, r_tmp (v := (Value.bool false)) Try.results12 rfl, _, rfl, iff_f (by intro h; obtain ⟨h1, h2, h3, h4, h5⟩ := rule_iff.1 (h.1 i _ hx_139); first | omega | exact absurd h3 (by assumption) | (rcases h1 with h1 | h1 <;> exact absurd h1 (by assumption))), hB_189⟩
  have h_188 : NameP s_144 := hr_186.1 rfl
  refine l_op (wy rfl) (o_val (x_not (et (v := (Value.bool true)) rfl)) ?_)
  refine l_op wn (o_val (x_pick_t (et (v := (Value.bool true)) rfl) (et (v := (Value.bool false)) rfl)) ?_)
  refine l_op wn (o_val (x_move (et (v := (Value.bool false)) rfl)) ?_)
  refine l_op (wy rfl) (o_val (x_field (k := 0) (j := 1) Try.underlying75 rfl Try.sizeOf29 rfl (et (v := (Value.pointer (some ⟨w_122.heap.size, 0, none⟩))) rfl)) ?_)
  refine l_op (wy rfl) (o_val (x_load (v := (Value.slice A_146 n_147 c_148)) Try.isAgg29 (et (v := (Value.pointer (some ⟨w_122.heap.size, 1, none⟩))) rfl) ((bx_191.cell 1).trans rfl)) ?_)
  refine l_op (wy rfl) (o_val (x_len Try.underlying29 (et (v := (Value.slice A_146 n_147 c_148)) rfl)) ?_)
  by_cases h_192 : 10 < (n_147 : Int)
  · refine l_op (wy rfl) (o_val (x_gtr (r := true) (et (v := (Value.int .i64 (n_147 : Int))) rfl) ec (dec_t h_192)) ?_)
    refine l_op wn (o_val (x_pick_f (et (v := (Value.bool false)) rfl) (et (v := (Value.bool true)) rfl)) ?_)
    refine l_op wn (o_val (x_move (et (v := (Value.bool true)) rfl)) ?_)
    refine l_pass (wx rfl) ?_
    refine l_pass (wx rfl) ?_
    refine l_pass (wx rfl) ?_
    refine l_pass (wx rfl) ?_
    refine l_op wn (o_val (x_pick_t (et (v := (Value.bool true)) rfl) ec) ?_)
    refine l_op wn (o_val (x_move (et (v := (Value.bool true)) rfl)) ?_)
    refine l_pass (wx rfl) ?_
    refine l_pass (wx rfl) ?_
    refine l_pass (wx rfl) ?_
    refine l_op wn (o_val (x_pick_t (et (v := (Value.bool true)) rfl) ec) ?_)
    refine l_op wn (o_val (x_move (et (v := (Value.bool true)) rfl)) ?_)
    refine l_pass (wx rfl) ?_
    refine l_pass (wx rfl) ?_
    refine l_pass (wx rfl) ?_
    refine l_op wn (o_val (x_pick_t (et (v := (Value.bool true)) rfl) ec) ?_)
    refine l_nil ?_
    refine w_if_t (et (v := (Value.bool true)) rfl) ?_
    refine w_seq ?_
    refine w_region ?_
    refine l_op wn (o_val (x_assign ec) ?_)
    refine l_nil ?_
    refine w_ret ?_
    exact ⟨_, r_tmp (v := (Value.bool false)) Try.results12 rfl, _, rfl, iff_f (by intro h; obtain ⟨h1, h2, h3, h4, h5⟩ := rule_iff.1 (h.1 i _ hx_139); first | omega | exact absurd h3 (by assumption) | (rcases h1 with h1 | h1 <;> exact absurd h1 (by assumption))), hB_189⟩
  refine l_op (wy rfl) (o_val (x_gtr (r := false) (et (v := (Value.int .i64 (n_147 : Int))) rfl) ec (dec_f h_192)) ?_)
  refine l_op wn (o_val (x_pick_f (et (v := (Value.bool false)) rfl) (et (v := (Value.bool false)) rfl)) ?_)
  refine l_op wn (o_val (x_move (et (v := (Value.bool false)) rfl)) ?_)
  refine l_op (wy rfl) (o_val (x_field (k := 0) (j := 1) Try.underlying75 rfl Try.sizeOf29 rfl (et (v := (Value.pointer (some ⟨w_122.heap.size, 0, none⟩))) rfl)) ?_)
  refine l_op (wy rfl) (o_val (x_load (v := (Value.slice A_146 n_147 c_148)) Try.isAgg29 (et (v := (Value.pointer (some ⟨w_122.heap.size, 1, none⟩))) rfl) ((bx_191.cell 1).trans rfl)) ?_)
  refine l_op (wy rfl) (o_call (x_call Try.call44 ef (a1 (et (v := (Value.slice A_146 n_147 c_148)) rfl))) (areNames_c w_184 xs_145 A_146 n_147 c_148 _ ok_157 (hr_158.below hB_189)) ?_)
  rintro _ w_193 ⟨r_194, rfl, hr_195, k_196⟩
  refine ⟨_, rfl, ?_⟩
  have hB_198 := below_next hB_189 k_196 (by omega)
  have z_199 := k_196.size
  have bx_200 := bx_191.below k_196
  cases r_194
  · have h_197 : ¬ (NamesP xs_145) := not_of_f hr_195
    refine l_op (wy rfl) (o_val (x_not (et (v := (Value.bool false)) rfl)) ?_)
    refine l_op wn (o_val (x_pick_f (et (v := (Value.bool false)) rfl) (et (v := (Value.bool true)) rfl)) ?_)
    refine l_op wn (o_val (x_move (et (v := (Value.bool true)) rfl)) ?_)
    refine l_pass (wx rfl) ?_
    refine l_pass (wx rfl) ?_
    refine l_pass (wx rfl) ?_
    refine l_op wn (o_val (x_pick_t (et (v := (Value.bool true)) rfl) ec) ?_)
    refine l_op wn (o_val (x_move (et (v := (Value.bool true)) rfl)) ?_)
    refine l_pass (wx rfl) ?_
    refine l_pass (wx rfl) ?_
    refine l_pass (wx rfl) ?_
    refine l_op wn (o_val (x_pick_t (et (v := (Value.bool true)) rfl) ec) ?_)
    refine l_nil ?_
    refine w_if_t (et (v := (Value.bool true)) rfl) ?_
    refine w_seq ?_
    refine w_region ?_
    refine l_op wn (o_val (x_assign ec) ?_)
    refine l_nil ?_
    refine w_ret ?_
    exact ⟨_, r_tmp (v := (Value.bool false)) Try.results12 rfl, _, rfl, iff_f (by intro h; obtain ⟨h1, h2, h3, h4, h5⟩ := rule_iff.1 (h.1 i _ hx_139); first | omega | exact absurd h3 (by assumption) | (rcases h1 with h1 | h1 <;> exact absurd h1 (by assumption))), hB_198⟩
  have h_197 : NamesP xs_145 := hr_195.1 rfl
  refine l_op (wy rfl) (o_val (x_not (et (v := (Value.bool true)) rfl)) ?_)
  refine l_op wn (o_val (x_pick_f (et (v := (Value.bool false)) rfl) (et (v := (Value.bool false)) rfl)) ?_)
  refine l_op wn (o_val (x_move (et (v := (Value.bool false)) rfl)) ?_)
  refine l_op (wy rfl) (o_val (x_field (k := 0) (j := 2) Try.underlying75 rfl Try.sizeOf3 rfl (et (v := (Value.pointer (some ⟨w_122.heap.size, 0, none⟩))) rfl)) ?_)
  refine l_op (wy rfl) (o_val (x_load (v := (Value.int .i64 i_151)) Try.isAgg3 (et (v := (Value.pointer (some ⟨w_122.heap.size, 2, none⟩))) rfl) ((bx_200.cell 2).trans rfl)) ?_)
  by_cases h_201 : i_151 < 0
  · refine l_op (wy rfl) (o_val (x_lss (r := true) (et (v := (Value.int .i64 i_151)) rfl) ec (dec_t h_201)) ?_)
    refine l_op wn (o_val (x_pick_f (et (v := (Value.bool false)) rfl) (et (v := (Value.bool true)) rfl)) ?_)
    refine l_op wn (o_val (x_move (et (v := (Value.bool true)) rfl)) ?_)
    refine l_pass (wx rfl) ?_
    refine l_pass (wx rfl) ?_
    refine l_pass (wx rfl) ?_
    refine l_op wn (o_val (x_pick_t (et (v := (Value.bool true)) rfl) ec) ?_)
    refine l_nil ?_
    refine w_if_t (et (v := (Value.bool true)) rfl) ?_
    refine w_seq ?_
    refine w_region ?_
    refine l_op wn (o_val (x_assign ec) ?_)
    refine l_nil ?_
    refine w_ret ?_
    exact ⟨_, r_tmp (v := (Value.bool false)) Try.results12 rfl, _, rfl, iff_f (by intro h; obtain ⟨h1, h2, h3, h4, h5⟩ := rule_iff.1 (h.1 i _ hx_139); first | omega | exact absurd h3 (by assumption) | (rcases h1 with h1 | h1 <;> exact absurd h1 (by assumption))), hB_198⟩
  refine l_op (wy rfl) (o_val (x_lss (r := false) (et (v := (Value.int .i64 i_151)) rfl) ec (dec_f h_201)) ?_)
  refine l_op wn (o_val (x_pick_f (et (v := (Value.bool false)) rfl) (et (v := (Value.bool false)) rfl)) ?_)
  refine l_op wn (o_val (x_move (et (v := (Value.bool false)) rfl)) ?_)
  refine l_op (wy rfl) (o_val (x_field (k := 0) (j := 2) Try.underlying75 rfl Try.sizeOf3 rfl (et (v := (Value.pointer (some ⟨w_122.heap.size, 0, none⟩))) rfl)) ?_)
  refine l_op (wy rfl) (o_val (x_load (v := (Value.int .i64 i_151)) Try.isAgg3 (et (v := (Value.pointer (some ⟨w_122.heap.size, 2, none⟩))) rfl) ((bx_200.cell 2).trans rfl)) ?_)
  by_cases h_202 : 2 < i_151
  rotate_left
  · refine l_op (wy rfl) (o_val (x_gtr (r := false) (et (v := (Value.int .i64 i_151)) rfl) ec (dec_f h_202)) ?_)
    refine l_op wn (o_val (x_pick_f (et (v := (Value.bool false)) rfl) (et (v := (Value.bool false)) rfl)) ?_)
    refine l_nil ?_
    refine w_if_f (et (v := (Value.bool false)) rfl) ?_
    refine w_skip ?_
    refine w_region ?_
    refine l_op wn (o_val (x_add (et (v := (Value.int .i64 (i : Int))) hs_128) ec (by omega)) ?_)
    refine l_op wn (o_val (x_move (et (v := (Value.int .i64 ((i : Int) + 1))) rfl)) ?_)
    refine l_nil ?_
    exact ⟨n - (i + 1), by omega, ⟨i + 1, hs_125, hs_126, hs_127, vint (a := ((i : Int) + 1)) (by omega), hB_198, (by omega), (upto_succ hall (fun x hx => by rw [hx_139] at hx; cases hx; exact rule_iff.2 ⟨by first | exact .inl (by assumption) | exact .inr (by assumption), by omega, by assumption, by omega, by omega⟩)), rfl⟩⟩
  refine l_op (wy rfl) (o_val (x_gtr (r := true) (et (v := (Value.int .i64 i_151)) rfl) ec (dec_t h_202)) ?_)
  refine l_op wn (o_val (x_pick_f (et (v := (Value.bool false)) rfl) (et (v := (Value.bool true)) rfl)) ?_)
  refine l_nil ?_
  refine w_if_t (et (v := (Value.bool true)) rfl) ?_
  refine w_seq ?_
  refine w_region ?_
  refine l_op wn (o_val (x_assign ec) ?_)
  refine l_nil ?_
  refine w_ret ?_
  exact ⟨_, r_tmp (v := (Value.bool false)) Try.results12 rfl, _, rfl, iff_f (by intro h; obtain ⟨h1, h2, h3, h4, h5⟩ := rule_iff.1 (h.1 i _ hx_139); first | omega | exact absurd h3 (by assumption) | (rcases h1 with h1 | h1 <;> exact absurd h1 (by assumption))), hB_198⟩

set_option maxHeartbeats 400000 in
theorem sAreRules_c (w : World) (xs : List V) (A : Option Addr) (n c : Nat) (F : List Nat) (ok : Oks xs tRule) (hr : Rep w (.list xs) [.slice A n c] F) : Calls Try.prog 10 #[.slice A n c] w (RetB w (RulesP xs)) := by
  have hB0 := Below.refl w.heap.size w
  obtain ⟨ln, lc, lm⟩ := hr.len
  refine enter (N := 67) Try.func10 rfl Try.ntmps10 rfl ?_
  refine w_seq ?_
  refine w_region ?_
  refine l_op wn (o_val (x_assign ec) ?_)
  refine l_nil ?_
  refine w_seq ?_
  refine w_seq ?_
  refine w_region ?_
  refine l_op wn (o_val (x_assign ec) ?_)
  refine l_nil ?_
  refine w_block ?_
  refine w_loop (fun μ f w' => ∃ (i : Nat), f 0 = (Value.slice A n c) ∧ f 3 = (Value.int .i64 (i : Int)) ∧ Below w.heap.size w w' ∧ (i ≤ n) ∧ (∀ j, j < i → ∀ x, xs[j]? = some x → RuleP x) ∧ μ = n - i) (n - 0) ?_ ?_
  · exact ⟨0, rfl, vint (a := 0) (by omega), hB0, (by omega), (fun j hj => by omega), rfl⟩
  rintro m_206 f_204 w_205 ⟨i, hs_208, hs_209, hB_207, hi, hall, rfl⟩
  have z_210 := hB_207.size
  refine w_seq ?_
  refine w_seq ?_
  refine w_region ?_
  refine l_op wn (o_val (x_move (et (v := (Value.int .i64 (i : Int))) hs_209)) ?_)
  refine l_op wn (o_val (x_move (et (v := (Value.slice A n c)) hs_208)) ?_)
  refine l_op wn (o_val (x_len Try.underlying25 (et (v := (Value.slice A n c)) rfl)) ?_)
  by_cases h_211 : (i : Int) < (n : Int)
  rotate_left
  · refine l_op wn (o_val (x_lss (r := false) (et (v := (Value.int .i64 (i : Int))) rfl) (et (v := (Value.int .i64 (n : Int))) rfl) (dec_f h_211)) ?_)
    refine l_nil ?_
    refine w_if_f (et (v := (Value.bool false)) rfl) ?_
    refine w_exit ?_
    refine Eq.mpr (if_pos rfl) ?_
    refine w_seq ?_
    refine w_region ?_
    refine l_op wn (o_val (x_move (et (v := (Value.slice A n c)) hs_208)) ?_)
    refine l_op wn (o_val (x_len Try.underlying25 (et (v := (Value.slice A n c)) rfl)) ?_)
    by_cases h_300 : (n : Int) ≤ 12
    rotate_left
    · refine l_op wn (o_val (x_leq (r := false) (et (v := (Value.int .i64 (n : Int))) rfl) ec (dec_f h_300)) ?_)
      refine l_op wn (o_val (x_assign (et (v := (Value.bool false)) rfl)) ?_)
      refine l_nil ?_
      refine w_ret ?_
      exact ⟨_, r_tmp (v := (Value.bool false)) Try.results10 rfl, _, rfl, iff_f (by intro h; have := h.2; omega), hB_207⟩
    refine l_op wn (o_val (x_leq (r := true) (et (v := (Value.int .i64 (n : Int))) rfl) ec (dec_t h_300)) ?_)
    refine l_op wn (o_val (x_assign (et (v := (Value.bool true)) rfl)) ?_)
    refine l_nil ?_
    refine w_ret ?_
    exact ⟨_, r_tmp (v := (Value.bool true)) Try.results10 rfl, _, rfl, iff_t (by exact ⟨fun j x hx => hall j (by have := (List.getElem?_eq_some_iff.1 hx).1; omega) x hx, by omega⟩), hB_207⟩
  refine l_op wn (o_val (x_lss (r := true) (et (v := (Value.int .i64 (i : Int))) rfl) (et (v := (Value.int .i64 (n : Int))) rfl) (dec_t h_211)) ?_)
  refine l_nil ?_
  refine w_if_t (et (v := (Value.bool true)) rfl) ?_
  refine w_skip ?_
  refine w_seq ?_
  refine w_block ?_
  refine w_seq ?_
  refine w_seq ?_
  refine w_region ?_
  refine l_op wn (o_val (x_assign ec) ?_)
  refine l_nil ?_
  refine w_block ?_
  obtain ⟨b_212, o_213, x_214, cs_215, G_216, hA_217, hbF_218, hlt_219, hx_220, hrx_221, hG_222, hl_223, hcl_224⟩ := hr.elem (k := 4) (fun y hy => wd_Rule (ok.mem y hy)) (i := i) (by omega)
  obtain ⟨s_225, xs_226, A_227, n_228, c_229, F_230, i_232, q_233, rfl, rfl, rfl, bd_237, ok_238, hr_239, ln_240, bd_241⟩ := open_Rule (ok.get hx_220) hrx_221
  refine w_loop (fun μ f w' => ∃ (k : Nat), f 0 = (Value.slice A n c) ∧ f 3 = (Value.int .i64 (i : Int)) ∧ f 4 = (Value.int .i64 (k : Int)) ∧ Below w.heap.size w w' ∧ (k ≤ n_228) ∧ (∀ j, j < k → ∀ s, xs_226[j]? = some (V.str s) → NameP s) ∧ μ = n_228 - k) (n_228 - 0) ?_ ?_
  · exact ⟨0, hs_208, hs_209, vint (a := 0) (by omega), hB_207, (by omega), (fun j hj => by omega), rfl⟩
  rintro m_244 f_242 w_243 ⟨k, hs_246, hs_247, hs_248, hB_245, hk, hnm, rfl⟩
  have z_249 := hB_245.size
  refine w_seq ?_
  refine w_seq ?_
  refine w_region ?_
  refine l_op wn (o_val (x_move (et (v := (Value.int .i64 (k : Int))) hs_248)) ?_)
  refine l_op wn (o_val (x_move (et (v := (Value.slice A n c)) hs_246)) ?_)
  refine l_op wn (o_val (x_move (et (v := (Value.int .i64 (i : Int))) hs_247)) ?_)
  refine l_op wn (o_val (x_index' (i := i) Try.underlying25 Try.sizeOf75 (et (v := (Value.slice A n c)) rfl) hA_217 (et (v := (Value.int .i64 (i : Int))) rfl) (by omega) (by omega)) ?_)
  refine l_op wn (o_val (x_field (k := 0) (j := 1) Try.underlying75 rfl Try.sizeOf29 rfl (et (v := (Value.pointer (some ⟨b_212, o_213 + i * 4, none⟩))) rfl)) ?_)
  refine l_op wn (o_val (x_load (v := (Value.slice A_227 n_228 c_229)) Try.isAgg29 (et (v := (Value.pointer (some ⟨b_212, o_213 + i * 4 + 1, none⟩))) rfl) ((hl_223.keep (hB_245.block _ hlt_219)) 1 _ rfl)) ?_)
  refine l_op wn (o_val (x_len Try.underlying29 (et (v := (Value.slice A_227 n_228 c_229)) rfl)) ?_)
  by_cases h_250 : (k : Int) < (n_228 : Int)
  · refine l_op wn (o_val (x_lss (r := true) (et (v := (Value.int .i64 (k : Int))) rfl) (et (v := (Value.int .i64 (n_228 : Int))) rfl) (dec_t h_250)) ?_)
    refine l_nil ?_
    refine w_if_t (et (v := (Value.bool true)) rfl) ?_
    refine w_skip ?_
    refine w_seq ?_
    refine w_block ?_
    refine w_seq ?_
    refine w_region ?_
    refine l_op wn (o_val (x_move (et (v := (Value.slice A n c)) hs_246)) ?_)
    refine l_op wn (o_val (x_move (et (v := (Value.int .i64 (i : Int))) hs_247)) ?_)
    refine l_op wn (o_val (x_index' (i := i) Try.underlying25 Try.sizeOf75 (et (v := (Value.slice A n c)) rfl) hA_217 (et (v := (Value.int .i64 (i : Int))) rfl) (by omega) (by omega)) ?_)
    refine l_op wn (o_val (x_field (k := 0) (j := 1) Try.underlying75 rfl Try.sizeOf29 rfl (et (v := (Value.pointer (some ⟨b_212, o_213 + i * 4, none⟩))) rfl)) ?_)
    refine l_op wn (o_val (x_load (v := (Value.slice A_227 n_228 c_229)) Try.isAgg29 (et (v := (Value.pointer (some ⟨b_212, o_213 + i * 4 + 1, none⟩))) rfl) ((hl_223.keep (hB_245.block _ hlt_219)) 1 _ rfl)) ?_)
    refine l_op wn (o_val (x_move (et (v := (Value.int .i64 (k : Int))) hs_248)) ?_)
    obtain ⟨b_251, o_252, x_253, cs_254, G_255, hA_256, hbF_257, hlt_258, hx_259, hrx_260, hG_261, hl_262, hcl_263⟩ := hr_239.elem (k := 1) (fun y hy => wd_str (ok_238.mem y hy)) (i := k) (by omega)
    obtain ⟨s_264, rfl, rfl, rfl, bd_268⟩ := open_str (ok_238.get hx_259) hrx_260
    refine l_op wn (o_val (x_index' (i := k) Try.underlying29 Try.sizeOf9 (et (v := (Value.slice A_227 n_228 c_229)) rfl) hA_256 (et (v := (Value.int .i64 (k : Int))) rfl) (by omega) (by omega)) ?_)
    refine l_op wn (o_val (x_load (v := (Value.string s_264)) Try.isAgg9 (et (v := (Value.pointer (some ⟨b_251, o_252 + k * 1, none⟩))) rfl) ((hl_262.keep (hB_245.block _ hlt_258)) 0 _ rfl)) ?_)
    refine l_op wn (o_call (x_call Try.call40 ef (a1 (et (v := (Value.string s_264)) rfl))) (sIsName_c w_243 s_264 bd_268) ?_)
    rintro _ w_269 ⟨r_270, rfl, hr_271, k_272⟩
    refine ⟨_, rfl, ?_⟩
    have hB_274 := below_next hB_245 k_272 (by omega)
    have z_275 := k_272.size
    cases r_270
    · have h_273 : ¬ (NameP s_264) := not_of_f hr_271
      refine l_op wn (o_val (x_not (et (v := (Value.bool false)) rfl)) ?_)
      refine l_nil ?_
      refine w_if_t (et (v := (Value.bool true)) rfl) ?_
      refine w_seq ?_
      refine w_region ?_
      refine l_op wn (o_val (x_assign ec) ?_)
      refine l_nil ?_
      refine w_ret ?_
      exact ⟨_, r_tmp (v := (Value.bool false)) Try.results10 rfl, _, rfl, iff_f (by intro h; obtain ⟨h1, h2, h3, h4, h5⟩ := rule_iff.1 (h.1 i _ hx_220); exact absurd (h3 k _ hx_259) (by assumption)), hB_274⟩
    have h_273 : NameP s_264 := hr_271.1 rfl
    refine l_op wn (o_val (x_not (et (v := (Value.bool true)) rfl)) ?_)
    refine l_nil ?_
    refine w_if_f (et (v := (Value.bool false)) rfl) ?_
    refine w_skip ?_
    refine w_region ?_
    refine l_op wn (o_val (x_move (et (v := (Value.int .i64 (k : Int))) hs_248)) ?_)
    refine l_op wn (o_val (x_add (et (v := (Value.int .i64 (k : Int))) rfl) ec (by omega)) ?_)
    refine l_op wn (o_val (x_assign (et (v := (Value.int .i64 ((k : Int) + 1))) rfl)) ?_)
    refine l_nil ?_
    exact ⟨n_228 - (k + 1), by omega, ⟨k + 1, hs_246, hs_247, vint (a := ((k : Int) + 1)) (by omega), hB_274, (by omega), (upto_succ hnm (fun s hs => by rw [hx_259] at hs; cases hs; assumption)), rfl⟩⟩
  refine l_op wn (o_val (x_lss (r := false) (et (v := (Value.int .i64 (k : Int))) rfl) (et (v := (Value.int .i64 (n_228 : Int))) rfl) (dec_f h_250)) ?_)
  refine l_nil ?_
  refine w_if_f (et (v := (Value.bool false)) rfl) ?_
  refine w_exit ?_
  refine Eq.mpr (if_pos rfl) ?_
  refine w_seq ?_
  refine w_region ?_
  refine l_op wn (o_val (x_move (et (v := (Value.slice A n c)) hs_246)) ?_)
  refine l_op wn (o_val (x_move (et (v := (Value.int .i64 (i : Int))) hs_247)) ?_)
  refine l_op wn (o_val (x_index' (i := i) Try.underlying25 Try.sizeOf75 (et (v := (Value.slice A n c)) rfl) hA_217 (et (v := (Value.int .i64 (i : Int))) rfl) (by omega) (by omega)) ?_)
  refine l_op wn (o_val (x_field (k := 0) (j := 0) Try.underlying75 rfl Try.sizeOf9 rfl (et (v := (Value.pointer (some ⟨b_212, o_213 + i * 4, none⟩))) rfl)) ?_)
  refine l_op wn (o_val (x_load (v := (Value.string s_225)) Try.isAgg9 (et (v := (Value.pointer (some ⟨b_212, o_213 + i * 4 + 0, none⟩))) rfl) ((hl_223.keep (hB_245.block _ hlt_219)) 0 _ rfl)) ?_)
  by_cases h_276 : s_225 = (⟨#[]⟩)
  · refine l_op wn (o_val (x_sneq (r := false) (et (v := (Value.string s_225)) rfl) ec (dec_t h_276)) ?_)
    refine l_op wn (o_val (x_move (et (v := (Value.bool false)) rfl)) ?_)
    refine l_pass (wx rfl) ?_
    refine l_pass (wx rfl) ?_
    refine l_pass (wx rfl) ?_
    refine l_pass (wx rfl) ?_
    refine l_pass (wx rfl) ?_
    refine l_pass (wx rfl) ?_
    refine l_pass (wx rfl) ?_
    refine l_op wn (o_val (x_pick_f (et (v := (Value.bool false)) rfl) ec) ?_)
    refine l_op wn (o_val (x_move (et (v := (Value.bool false)) rfl)) ?_)
    refine l_op (wy rfl) (o_val (x_move (et (v := (Value.slice A n c)) hs_246)) ?_)
    refine l_op (wy rfl) (o_val (x_move (et (v := (Value.int .i64 (i : Int))) hs_247)) ?_)
    refine l_op (wy rfl) (o_val (x_index' (i := i) Try.underlying25 Try.sizeOf75 (et (v := (Value.slice A n c)) rfl) hA_217 (et (v := (Value.int .i64 (i : Int))) rfl) (by omega) (by omega)) ?_)
    refine l_op (wy rfl) (o_val (x_field (k := 0) (j := 1) Try.underlying75 rfl Try.sizeOf29 rfl (et (v := (Value.pointer (some ⟨b_212, o_213 + i * 4, none⟩))) rfl)) ?_)
    refine l_op (wy rfl) (o_val (x_load (v := (Value.slice A_227 n_228 c_229)) Try.isAgg29 (et (v := (Value.pointer (some ⟨b_212, o_213 + i * 4 + 1, none⟩))) rfl) ((hl_223.keep (hB_245.block _ hlt_219)) 1 _ rfl)) ?_)
    refine l_op (wy rfl) (o_val (x_len Try.underlying29 (et (v := (Value.slice A_227 n_228 c_229)) rfl)) ?_)
    by_cases h_277 : 10 < (n_228 : Int)
    · refine l_op (wy rfl) (o_val (x_gtr (r := true) (et (v := (Value.int .i64 (n_228 : Int))) rfl) ec (dec_t h_277)) ?_)
      refine l_op wn (o_val (x_pick_f (et (v := (Value.bool false)) rfl) (et (v := (Value.bool true)) rfl)) ?_)
      refine l_op wn (o_val (x_move (et (v := (Value.bool true)) rfl)) ?_)
      refine l_pass (wx rfl) ?_
      refine l_pass (wx rfl) ?_
      refine l_pass (wx rfl) ?_
      refine l_pass (wx rfl) ?_
      refine l_pass (wx rfl) ?_
      refine l_pass (wx rfl) ?_
      refine l_pass (wx rfl) ?_
      refine l_op wn (o_val (x_pick_t (et (v := (Value.bool true)) rfl) ec) ?_)
      refine l_nil ?_
      refine w_if_t (et (v := (Value.bool true)) rfl) ?_
      refine w_seq ?_
      refine w_region ?_
      refine l_op wn (o_val (x_assign ec) ?_)
      refine l_nil ?_
      refine w_ret ?_
      exact ⟨_, r_tmp (v := (Value.bool false)) Try.results10 rfl, _, rfl, iff_f (by intro h; obtain ⟨h1, h2, h3, h4, h5⟩ := rule_iff.1 (h.1 i _ hx_220); first | omega | exact absurd h3 (by assumption) | (rcases h1 with h1 | h1 <;> exact absurd h1 (by assumption))), hB_245⟩
    refine l_op (wy rfl) (o_val (x_gtr (r := false) (et (v := (Value.int .i64 (n_228 : Int))) rfl) ec (dec_f h_277)) ?_)
    refine l_op wn (o_val (x_pick_f (et (v := (Value.bool false)) rfl) (et (v := (Value.bool false)) rfl)) ?_)
    refine l_op wn (o_val (x_move (et (v := (Value.bool false)) rfl)) ?_)
    refine l_op (wy rfl) (o_val (x_move (et (v := (Value.slice A n c)) hs_246)) ?_)
    refine l_op (wy rfl) (o_val (x_move (et (v := (Value.int .i64 (i : Int))) hs_247)) ?_)
    refine l_op (wy rfl) (o_val (x_index' (i := i) Try.underlying25 Try.sizeOf75 (et (v := (Value.slice A n c)) rfl) hA_217 (et (v := (Value.int .i64 (i : Int))) rfl) (by omega) (by omega)) ?_)
    refine l_op (wy rfl) (o_val (x_field (k := 0) (j := 2) Try.underlying75 rfl Try.sizeOf3 rfl (et (v := (Value.pointer (some ⟨b_212, o_213 + i * 4, none⟩))) rfl)) ?_)
    refine l_op (wy rfl) (o_val (x_load (v := (Value.int .i64 i_232)) Try.isAgg3 (et (v := (Value.pointer (some ⟨b_212, o_213 + i * 4 + 2, none⟩))) rfl) ((hl_223.keep (hB_245.block _ hlt_219)) 2 _ rfl)) ?_)
    refine l_op (wy rfl) (o_call (x_call Try.call41 ef (a3 (et (v := (Value.int .i64 i_232)) rfl) ec ec)) (l1In_c w_243 i_232 0 2) ?_)
    rintro _ w_278 ⟨r_279, rfl, hr_280, k_281⟩
    refine ⟨_, rfl, ?_⟩
    have hB_283 := below_next hB_245 k_281 (by omega)
    have z_284 := k_281.size
    cases r_279
    · have h_282 : ¬ (0 ≤ i_232 ∧ i_232 ≤ 2) := not_of_f hr_280
      refine l_op (wy rfl) (o_val (x_not (et (v := (Value.bool false)) rfl)) ?_)
      refine l_op wn (o_val (x_pick_f (et (v := (Value.bool false)) rfl) (et (v := (Value.bool true)) rfl)) ?_)
      refine l_nil ?_
      refine w_if_t (et (v := (Value.bool true)) rfl) ?_
      refine w_seq ?_
      refine w_region ?_
      refine l_op wn (o_val (x_assign ec) ?_)
      refine l_nil ?_
      refine w_ret ?_
      exact ⟨_, r_tmp (v := (Value.bool false)) Try.results10 rfl, _, rfl, iff_f (by intro h; obtain ⟨h1, h2, h3, h4, h5⟩ := rule_iff.1 (h.1 i _ hx_220); first | omega | exact absurd h3 (by assumption) | (rcases h1 with h1 | h1 <;> exact absurd h1 (by assumption))), hB_283⟩
    have h_282 : 0 ≤ i_232 ∧ i_232 ≤ 2 := hr_280.1 rfl
    refine l_op (wy rfl) (o_val (x_not (et (v := (Value.bool true)) rfl)) ?_)
    refine l_op wn (o_val (x_pick_f (et (v := (Value.bool false)) rfl) (et (v := (Value.bool false)) rfl)) ?_)
    refine l_nil ?_
    refine w_if_f (et (v := (Value.bool false)) rfl) ?_
    refine w_skip ?_
    refine w_region ?_
    refine l_op wn (o_val (x_move (et (v := (Value.int .i64 (i : Int))) hs_247)) ?_)
    refine l_op wn (o_val (x_add (et (v := (Value.int .i64 (i : Int))) rfl) ec (by omega)) ?_)
    refine l_op wn (o_val (x_assign (et (v := (Value.int .i64 ((i : Int) + 1))) rfl)) ?_)
    refine l_nil ?_
    have hnp : NamesP xs_226 := fun j s hs => hnm j (by have := (List.getElem?_eq_some_iff.1 hs).1; omega) s hs
    exact ⟨n - (i + 1), by omega, ⟨i + 1, hs_246, vint (a := ((i : Int) + 1)) (by omega), hB_283, (by omega), (upto_succ hall (fun x hx => by rw [hx_220] at hx; cases hx; exact rule_iff.2 ⟨by first | exact .inl (by assumption) | exact .inr (by assumption), by omega, hnp, by omega, by omega⟩)), rfl⟩⟩
  refine l_op wn (o_val (x_sneq (r := true) (et (v := (Value.string s_225)) rfl) ec (dec_f h_276)) ?_)
  refine l_op wn (o_val (x_move (et (v := (Value.bool true)) rfl)) ?_)
  refine l_op (wy rfl) (o_val (x_move (et (v := (Value.slice A n c)) hs_246)) ?_)
  refine l_op (wy rfl) (o_val (x_move (et (v := (Value.int .i64 (i : Int))) hs_247)) ?_)
  refine l_op (wy rfl) (o_val (x_index' (i := i) Try.underlying25 Try.sizeOf75 (et (v := (Value.slice A n c)) rfl) hA_217 (et (v := (Value.int .i64 (i : Int))) rfl) (by omega) (by omega)) ?_)
  refine l_op (wy rfl) (o_val (x_field (k := 0) (j := 0) Try.underlying75 rfl Try.sizeOf9 rfl (et (v := (Value.pointer (some ⟨b_212, o_213 + i * 4, none⟩))) rfl)) ?_)
  refine l_op (wy rfl) (o_val (x_load (v := (Value.string s_225)) Try.isAgg9 (et (v := (Value.pointer (some ⟨b_212, o_213 + i * 4 + 0, none⟩))) rfl) ((hl_223.keep (hB_245.block _ hlt_219)) 0 _ rfl)) ?_)
  refine l_op (wy rfl) (o_call (x_call Try.call40 ef (a1 (et (v := (Value.string s_225)) rfl))) (sIsName_c w_243 s_225 bd_237) ?_)
  rintro _ w_285 ⟨r_286, rfl, hr_287, k_288⟩
  refine ⟨_, rfl, ?_⟩
  have hB_290 := below_next hB_245 k_288 (by omega)
  have z_291 := k_288.size
  cases r_286
  · have h_289 : ¬ (NameP s_225) := not_of_f hr_287
    refine l_op (wy rfl) (o_val (x_not (et (v := (Value.bool false)) rfl)) ?_)
    refine l_op wn (o_val (x_pick_t (et (v := (Value.bool true)) rfl) (et (v := (Value.bool true)) rfl)) ?_)
    refine l_op wn (o_val (x_move (et (v := (Value.bool true)) rfl)) ?_)
    refine l_pass (wx rfl) ?_
    refine l_pass (wx rfl) ?_
    refine l_pass (wx rfl) ?_
    refine l_pass (wx rfl) ?_
    refine l_pass (wx rfl) ?_
    refine l_pass (wx rfl) ?_
    refine l_pass (wx rfl) ?_
    refine l_op wn (o_val (x_pick_t (et (v := (Value.bool true)) rfl) ec) ?_)
    refine l_op wn (o_val (x_move (et (v := (Value.bool true)) rfl)) ?_)
    refine l_pass (wx rfl) ?_
    refine l_pass (wx rfl) ?_
    refine l_pass (wx rfl) ?_
    refine l_pass (wx rfl) ?_
    refine l_pass (wx rfl) ?_
    refine l_pass (wx rfl) ?_
    refine l_pass (wx rfl) ?_
    refine l_op wn (o_val (x_pick_t (et (v := (Value.bool true)) rfl) ec) ?_)
    refine l_nil ?_
    refine w_if_t (et (v := (Value.bool true)) rfl) ?_
    refine w_seq ?_
    refine w_region ?_
    refine l_op wn (o_val (x_assign ec) ?_)
    refine l_nil ?_
    refine w_ret ?_
    exact ⟨_, r_tmp (v := (Value.bool false)) Try.results10 rfl, _, rfl, iff_f (by intro h; obtain ⟨h1, h2, h3, h4, h5⟩ := rule_iff.1 (h.1 i _ hx_220); first | omega | exact absurd h3 (by assumption) | (rcases h1 with h1 | h1 <;> exact absurd h1 (by assumption))), hB_290⟩
  have h_289 : NameP s_225 := hr_287.1 rfl
  refine l_op (wy rfl) (o_val (x_not (et (v := (Value.bool true)) rfl)) ?_)
  refine l_op wn (o_val (x_pick_t (et (v := (Value.bool true)) rfl) (et (v := (Value.bool false)) rfl)) ?_)
  refine l_op wn (o_val (x_move (et (v := (Value.bool false)) rfl)) ?_)
  refine l_op (wy rfl) (o_val (x_move (et (v := (Value.slice A n c)) hs_246)) ?_)
  refine l_op (wy rfl) (o_val (x_move (et (v := (Value.int .i64 (i : Int))) hs_247)) ?_)
  refine l_op (wy rfl) (o_val (x_index' (i := i) Try.underlying25 Try.sizeOf75 (et (v := (Value.slice A n c)) rfl) hA_217 (et (v := (Value.int .i64 (i : Int))) rfl) (by omega) (by omega)) ?_)
  refine l_op (wy rfl) (o_val (x_field (k := 0) (j := 1) Try.underlying75 rfl Try.sizeOf29 rfl (et (v := (Value.pointer (some ⟨b_212, o_213 + i * 4, none⟩))) rfl)) ?_)
  refine l_op (wy rfl) (o_val (x_load (v := (Value.slice A_227 n_228 c_229)) Try.isAgg29 (et (v := (Value.pointer (some ⟨b_212, o_213 + i * 4 + 1, none⟩))) rfl) ((hl_223.keep (hB_290.block _ hlt_219)) 1 _ rfl)) ?_)
  refine l_op (wy rfl) (o_val (x_len Try.underlying29 (et (v := (Value.slice A_227 n_228 c_229)) rfl)) ?_)
  by_cases h_292 : 10 < (n_228 : Int)
  · refine l_op (wy rfl) (o_val (x_gtr (r := true) (et (v := (Value.int .i64 (n_228 : Int))) rfl) ec (dec_t h_292)) ?_)
    refine l_op wn (o_val (x_pick_f (et (v := (Value.bool false)) rfl) (et (v := (Value.bool true)) rfl)) ?_)
    refine l_op wn (o_val (x_move (et (v := (Value.bool true)) rfl)) ?_)
    refine l_pass (wx rfl) ?_
    refine l_pass (wx rfl) ?_
    refine l_pass (wx rfl) ?_
    refine l_pass (wx rfl) ?_
    refine l_pass (wx rfl) ?_
    refine l_pass (wx rfl) ?_
    refine l_pass (wx rfl) ?_
    refine l_op wn (o_val (x_pick_t (et (v := (Value.bool true)) rfl) ec) ?_)
    refine l_nil ?_
    refine w_if_t (et (v := (Value.bool true)) rfl) ?_
    refine w_seq ?_
    refine w_region ?_
    refine l_op wn (o_val (x_assign ec) ?_)
    refine l_nil ?_
    refine w_ret ?_
    exact ⟨_, r_tmp (v := (Value.bool false)) Try.results10 rfl, _, rfl, iff_f (by intro h; obtain ⟨h1, h2, h3, h4, h5⟩ := rule_iff.1 (h.1 i _ hx_220); first | omega | exact absurd h3 (by assumption) | (rcases h1 with h1 | h1 <;> exact absurd h1 (by assumption))), hB_290⟩
  refine l_op (wy rfl) (o_val (x_gtr (r := false) (et (v := (Value.int .i64 (n_228 : Int))) rfl) ec (dec_f h_292)) ?_)
  refine l_op wn (o_val (x_pick_f (et (v := (Value.bool false)) rfl) (et (v := (Value.bool false)) rfl)) ?_)
  refine l_op wn (o_val (x_move (et (v := (Value.bool false)) rfl)) ?_)
  refine l_op (wy rfl) (o_val (x_move (et (v := (Value.slice A n c)) hs_246)) ?_)
  refine l_op (wy rfl) (o_val (x_move (et (v := (Value.int .i64 (i : Int))) hs_247)) ?_)
  refine l_op (wy rfl) (o_val (x_index' (i := i) Try.underlying25 Try.sizeOf75 (et (v := (Value.slice A n c)) rfl) hA_217 (et (v := (Value.int .i64 (i : Int))) rfl) (by omega) (by omega)) ?_)
  refine l_op (wy rfl) (o_val (x_field (k := 0) (j := 2) Try.underlying75 rfl Try.sizeOf3 rfl (et (v := (Value.pointer (some ⟨b_212, o_213 + i * 4, none⟩))) rfl)) ?_)
  refine l_op (wy rfl) (o_val (x_load (v := (Value.int .i64 i_232)) Try.isAgg3 (et (v := (Value.pointer (some ⟨b_212, o_213 + i * 4 + 2, none⟩))) rfl) ((hl_223.keep (hB_290.block _ hlt_219)) 2 _ rfl)) ?_)
  refine l_op (wy rfl) (o_call (x_call Try.call41 ef (a3 (et (v := (Value.int .i64 i_232)) rfl) ec ec)) (l1In_c w_285 i_232 0 2) ?_)
  rintro _ w_293 ⟨r_294, rfl, hr_295, k_296⟩
  refine ⟨_, rfl, ?_⟩
  have hB_298 := below_next hB_290 k_296 (by omega)
  have z_299 := k_296.size
  cases r_294
  · have h_297 : ¬ (0 ≤ i_232 ∧ i_232 ≤ 2) := not_of_f hr_295
    refine l_op (wy rfl) (o_val (x_not (et (v := (Value.bool false)) rfl)) ?_)
    refine l_op wn (o_val (x_pick_f (et (v := (Value.bool false)) rfl) (et (v := (Value.bool true)) rfl)) ?_)
    refine l_nil ?_
    refine w_if_t (et (v := (Value.bool true)) rfl) ?_
    refine w_seq ?_
    refine w_region ?_
    refine l_op wn (o_val (x_assign ec) ?_)
    refine l_nil ?_
    refine w_ret ?_
    exact ⟨_, r_tmp (v := (Value.bool false)) Try.results10 rfl, _, rfl, iff_f (by intro h; obtain ⟨h1, h2, h3, h4, h5⟩ := rule_iff.1 (h.1 i _ hx_220); first | omega | exact absurd h3 (by assumption) | (rcases h1 with h1 | h1 <;> exact absurd h1 (by assumption))), hB_298⟩
  have h_297 : 0 ≤ i_232 ∧ i_232 ≤ 2 := hr_295.1 rfl
  refine l_op (wy rfl) (o_val (x_not (et (v := (Value.bool true)) rfl)) ?_)
  refine l_op wn (o_val (x_pick_f (et (v := (Value.bool false)) rfl) (et (v := (Value.bool false)) rfl)) ?_)
  refine l_nil ?_
  refine w_if_f (et (v := (Value.bool false)) rfl) ?_
  refine w_skip ?_
  refine w_region ?_
  refine l_op wn (o_val (x_move (et (v := (Value.int .i64 (i : Int))) hs_247)) ?_)
  refine l_op wn (o_val (x_add (et (v := (Value.int .i64 (i : Int))) rfl) ec (by omega)) ?_)
  refine l_op wn (o_val (x_assign (et (v := (Value.int .i64 ((i : Int) + 1))) rfl)) ?_)
  refine l_nil ?_
  have hnp : NamesP xs_226 := fun j s hs => hnm j (by have := (List.getElem?_eq_some_iff.1 hs).1; omega) s hs
  exact ⟨n - (i + 1), by omega, ⟨i + 1, hs_246, vint (a := ((i : Int) + 1)) (by omega), hB_298, (by omega), (upto_succ hall (fun x hx => by rw [hx_220] at hx; cases hx; exact rule_iff.2 ⟨by first | exact .inl (by assumption) | exact .inr (by assumption), by omega, hnp, by omega, by omega⟩)), rfl⟩⟩


end Go.Proofs.Ytilohpakglpdcaa
