/-
  The laws count what came in. Printed by a program of our own.
-/
import Derived.Test.YtilohpakglpdcaaSz
import Derived.Test.YtilohpakglpdcaaProg
namespace Go.Proofs.Ytilohpakglpdcaa
open Go.RowKit
set_option linter.unusedVariables false
set_option maxRecDepth 100000

set_option maxHeartbeats 200000 in
theorem sz_StrS (w : World) (xs : List V) (A : Option Addr) (n c : Nat) (F : List Nat) (left : Int) (ok : Oks xs tStr) (hr : Rep w (.list xs) [.slice A n c] F) (h0 : 0 ≤ left) (h1 : left ≤ 1048576) : Calls Try.prog 14 #[.slice A n c, .int .i64 left] w (RetI w (· = szV (.list xs) left)) := by
  have hB0 := Below.refl w.heap.size w
  obtain ⟨ln, lc, lm⟩ := hr.len
  refine enter (N := 28) Try.func14 rfl Try.ntmps14 rfl ?_
  refine w_seq ?_
  refine w_region ?_
  refine l_op wn (o_val (x_assign ec) ?_)
  refine l_nil ?_
  refine w_seq ?_
  refine w_region ?_
  refine l_op wn (o_val (x_move (et (v := (Value.int .i64 left)) rfl)) ?_)
  refine l_op wn (o_val (x_move (et (v := (Value.slice A n c)) rfl)) ?_)
  refine l_op wn (o_val (x_len Try.underlying29 (et (v := (Value.slice A n c)) rfl)) ?_)
  refine l_op wn (o_val (x_sub (et (v := (Value.int .i64 left)) rfl) (et (v := (Value.int .i64 (n : Int))) rfl) (by omega)) ?_)
  refine l_op wn (o_val (x_assign (et (v := (Value.int .i64 (left - (n : Int)))) rfl)) ?_)
  refine l_nil ?_
  refine w_seq ?_
  refine w_seq ?_
  refine w_region ?_
  refine l_op wn (o_val (x_move (et (v := (Value.int .i64 (left - (n : Int)))) rfl)) ?_)
  by_cases h_1 : (left - (n : Int)) < 0
  · refine l_op wn (o_val (x_lss (r := true) (et (v := (Value.int .i64 (left - (n : Int)))) rfl) ec (dec_t h_1)) ?_)
    refine l_nil ?_
    refine w_if_t (et (v := (Value.bool true)) rfl) ?_
    refine w_seq ?_
    refine w_region ?_
    refine l_op wn (o_val (x_assign ec) ?_)
    refine l_nil ?_
    refine w_ret ?_
    exact ⟨_, r_tmp (v := (Value.int .i64 (-1))) Try.results14 rfl, _, rfl, sz_close (by have := bulk_list xs; (try have bs := bulks_step ‹xs[i]? = some _›); (try simp only [V.bulk] at bs); (try have ba := bulks_all (n := i) (xs := xs) (by omega)); omega), hB0⟩
  refine l_op wn (o_val (x_lss (r := false) (et (v := (Value.int .i64 (left - (n : Int)))) rfl) ec (dec_f h_1)) ?_)
  refine l_nil ?_
  refine w_if_f (et (v := (Value.bool false)) rfl) ?_
  refine w_skip ?_
  refine w_seq ?_
  refine w_seq ?_
  refine w_region ?_
  refine l_op wn (o_val (x_assign ec) ?_)
  refine l_nil ?_
  refine w_block ?_
  refine w_loop (fun μ f w' => ∃ (i : Nat), ∃ (l : Int), f 0 = (Value.slice A n c) ∧ f 5 = (Value.int .i64 (i : Int)) ∧ f 1 = (Value.int .i64 l) ∧ Below w.heap.size w w' ∧ (i ≤ n) ∧ (l = left - n - V.bulks (xs.take i)) ∧ (0 ≤ l) ∧ μ = n - i) (n - 0) ?_ ?_
  · exact ⟨0, left - (n : Int), rfl, vint (a := 0) (by omega), rfl, hB0, (by omega), (by simp [V.bulks]), (by omega), rfl⟩
  rintro m_4 f_2 w_3 ⟨i, l, hs_6, hs_7, hs_8, hB_5, hi, hl, hl0, rfl⟩
  have z_9 := hB_5.size
  refine w_seq ?_
  refine w_seq ?_
  refine w_region ?_
  refine l_op wn (o_val (x_move (et (v := (Value.int .i64 (i : Int))) hs_7)) ?_)
  refine l_op wn (o_val (x_move (et (v := (Value.slice A n c)) hs_6)) ?_)
  refine l_op wn (o_val (x_len Try.underlying29 (et (v := (Value.slice A n c)) rfl)) ?_)
  by_cases h_10 : (i : Int) < (n : Int)
  rotate_left
  · refine l_op wn (o_val (x_lss (r := false) (et (v := (Value.int .i64 (i : Int))) rfl) (et (v := (Value.int .i64 (n : Int))) rfl) (dec_f h_10)) ?_)
    refine l_nil ?_
    refine w_if_f (et (v := (Value.bool false)) rfl) ?_
    refine w_exit ?_
    refine Eq.mpr (if_pos rfl) ?_
    refine w_seq ?_
    refine w_region ?_
    refine l_op wn (o_val (x_move (et (v := (Value.int .i64 l)) hs_8)) ?_)
    refine l_op wn (o_val (x_assign (et (v := (Value.int .i64 l)) rfl)) ?_)
    refine l_nil ?_
    refine w_ret ?_
    exact ⟨_, r_tmp (v := (Value.int .i64 l)) Try.results14 rfl, _, rfl, sz_close (by have := bulk_list xs; (try have bs := bulks_step ‹xs[i]? = some _›); (try simp only [V.bulk] at bs); (try have ba := bulks_all (n := i) (xs := xs) (by omega)); omega), hB_5⟩
  refine l_op wn (o_val (x_lss (r := true) (et (v := (Value.int .i64 (i : Int))) rfl) (et (v := (Value.int .i64 (n : Int))) rfl) (dec_t h_10)) ?_)
  refine l_nil ?_
  refine w_if_t (et (v := (Value.bool true)) rfl) ?_
  refine w_skip ?_
  refine w_seq ?_
  refine w_block ?_
  refine w_seq ?_
  refine w_region ?_
  refine l_op wn (o_val (x_move (et (v := (Value.int .i64 l)) hs_8)) ?_)
  refine l_op wn (o_val (x_move (et (v := (Value.slice A n c)) hs_6)) ?_)
  refine l_op wn (o_val (x_move (et (v := (Value.int .i64 (i : Int))) hs_7)) ?_)
  obtain ⟨b_11, o_12, x_13, cs_14, G_15, hA_16, hbF_17, hlt_18, hx_19, hrx_20, hG_21, hl_22, hcl_23⟩ := hr.elem (k := 1) (fun y hy => wd_str (ok.mem y hy)) (i := i) (by omega)
  obtain ⟨s_24, rfl, rfl, rfl, bd_28⟩ := open_str (ok.get hx_19) hrx_20
  refine l_op wn (o_val (x_index' (i := i) Try.underlying29 Try.sizeOf9 (et (v := (Value.slice A n c)) rfl) hA_16 (et (v := (Value.int .i64 (i : Int))) rfl) (by omega) (by omega)) ?_)
  refine l_op wn (o_val (x_load (v := (Value.string s_24)) Try.isAgg9 (et (v := (Value.pointer (some ⟨b_11, o_12 + i * 1, none⟩))) rfl) ((hl_22.keep (hB_5.block _ hlt_18)) 0 _ rfl)) ?_)
  refine l_op wn (o_val (x_slen Try.underlying9 (et (v := (Value.string s_24)) rfl)) ?_)
  refine l_op wn (o_val (x_sub (et (v := (Value.int .i64 l)) rfl) (et (v := (Value.int .i64 (s_24.size : Int))) rfl) (by omega)) ?_)
  refine l_op wn (o_val (x_assign (et (v := (Value.int .i64 (l - (s_24.size : Int)))) rfl)) ?_)
  refine l_nil ?_
  refine w_seq ?_
  refine w_region ?_
  refine l_op wn (o_val (x_move (et (v := (Value.int .i64 (l - (s_24.size : Int)))) rfl)) ?_)
  by_cases h_29 : (l - (s_24.size : Int)) < 0
  · refine l_op wn (o_val (x_lss (r := true) (et (v := (Value.int .i64 (l - (s_24.size : Int)))) rfl) ec (dec_t h_29)) ?_)
    refine l_nil ?_
    refine w_if_t (et (v := (Value.bool true)) rfl) ?_
    refine w_seq ?_
    refine w_region ?_
    refine l_op wn (o_val (x_assign ec) ?_)
    refine l_nil ?_
    refine w_ret ?_
    exact ⟨_, r_tmp (v := (Value.int .i64 (-1))) Try.results14 rfl, _, rfl, sz_close (by have := bulk_list xs; (try have bs := bulks_step ‹xs[i]? = some _›); (try simp only [V.bulk] at bs); (try have ba := bulks_all (n := i) (xs := xs) (by omega)); omega), hB_5⟩
  refine l_op wn (o_val (x_lss (r := false) (et (v := (Value.int .i64 (l - (s_24.size : Int)))) rfl) ec (dec_f h_29)) ?_)
  refine l_nil ?_
  refine w_if_f (et (v := (Value.bool false)) rfl) ?_
  refine w_skip ?_
  refine w_region ?_
  refine l_op wn (o_val (x_move (et (v := (Value.int .i64 (i : Int))) hs_7)) ?_)
  refine l_op wn (o_val (x_add (et (v := (Value.int .i64 (i : Int))) rfl) ec (by omega)) ?_)
  refine l_op wn (o_val (x_assign (et (v := (Value.int .i64 ((i : Int) + 1))) rfl)) ?_)
  refine l_nil ?_
  have bs := bulks_step hx_19
  simp only [V.bulk] at bs
  exact ⟨n - (i + 1), by omega, ⟨i + 1, l - (s_24.size : Int), hs_6, vint (a := ((i : Int) + 1)) (by omega), rfl, hB_5, (by omega), (by omega), (by omega), rfl⟩⟩

set_option maxHeartbeats 200000 in
theorem sz_Rule (w : World) (x : V) (cs : List Value) (F : List Nat) (left : Int) (ok : Ok x tRule) (hr : Rep w x cs F) (h0 : 0 ≤ left) (h1 : left ≤ 1048576) : Calls Try.prog 39 #[.agg cs.toArray, .int .i64 left] w (RetI w (· = szV x left)) := by
  obtain ⟨s_30, xs_31, A_32, n_33, c_34, F_35, i_37, q_38, rfl, rfl, rfl, bd_42, ok_43, hr_44, ln_45, bd_46⟩ := open_Rule ok hr
  have hbk : V.bulk (.agg [.str s_30, .list xs_31, .int i_37, .bool q_38]) = s_30.size + V.bulk (.list xs_31) := by simp only [V.bulk, V.bulks] <;> omega
  have hB0 := Below.refl w.heap.size w
  refine enter (N := 19) Try.func39 rfl Try.ntmps39 rfl ?_
  refine w_seq ?_
  refine w_region ?_
  refine l_op wn (o_new (x_box (cs := [(Value.string s_30), (Value.slice A_32 n_33 c_34), (Value.int .i64 i_37), (Value.bool q_38)]) (et (v := (Value.agg #[(Value.string s_30), (Value.slice A_32 n_33 c_34), (Value.int .i64 i_37), (Value.bool q_38)])) rfl)) ?_)
  intro w_47 z_48 k_49 bx_50
  have hB_51 := below_next hB0 k_49 (by omega)
  refine l_op wn (o_val (x_assign ec) ?_)
  refine l_nil ?_
  refine w_seq ?_
  refine w_region ?_
  refine l_op wn (o_val (x_move (et (v := (Value.int .i64 left)) rfl)) ?_)
  refine l_op wn (o_val (x_field (k := 0) (j := 0) Try.underlying74 rfl Try.sizeOf9 rfl (et (v := (Value.pointer (some ⟨w.heap.size, 0, none⟩))) rfl)) ?_)
  refine l_op wn (o_val (x_load (v := (Value.string s_30)) Try.isAgg9 (et (v := (Value.pointer (some ⟨w.heap.size, 0, none⟩))) rfl) ((bx_50.cell 0).trans rfl)) ?_)
  refine l_op wn (o_val (x_slen Try.underlying9 (et (v := (Value.string s_30)) rfl)) ?_)
  refine l_op wn (o_val (x_sub (et (v := (Value.int .i64 left)) rfl) (et (v := (Value.int .i64 (s_30.size : Int))) rfl) (by omega)) ?_)
  refine l_op wn (o_val (x_assign (et (v := (Value.int .i64 (left - (s_30.size : Int)))) rfl)) ?_)
  refine l_nil ?_
  refine w_seq ?_
  refine w_seq ?_
  refine w_region ?_
  refine l_op wn (o_val (x_move (et (v := (Value.int .i64 (left - (s_30.size : Int)))) rfl)) ?_)
  by_cases h_52 : (left - (s_30.size : Int)) < 0
  · refine l_op wn (o_val (x_lss (r := true) (et (v := (Value.int .i64 (left - (s_30.size : Int)))) rfl) ec (dec_t h_52)) ?_)
    refine l_nil ?_
    refine w_if_t (et (v := (Value.bool true)) rfl) ?_
    refine w_seq ?_
    refine w_region ?_
    refine l_op wn (o_val (x_assign ec) ?_)
    refine l_nil ?_
    refine w_ret ?_
    exact ⟨_, r_tmp (v := (Value.int .i64 (-1))) Try.results39 rfl, _, rfl, sz_close (by omega), hB_51⟩
  refine l_op wn (o_val (x_lss (r := false) (et (v := (Value.int .i64 (left - (s_30.size : Int)))) rfl) ec (dec_f h_52)) ?_)
  refine l_nil ?_
  refine w_if_f (et (v := (Value.bool false)) rfl) ?_
  refine w_skip ?_
  refine w_seq ?_
  refine w_region ?_
  refine l_op wn (o_val (x_field (k := 0) (j := 1) Try.underlying74 rfl Try.sizeOf29 rfl (et (v := (Value.pointer (some ⟨w.heap.size, 0, none⟩))) rfl)) ?_)
  refine l_op wn (o_val (x_load (v := (Value.slice A_32 n_33 c_34)) Try.isAgg29 (et (v := (Value.pointer (some ⟨w.heap.size, 1, none⟩))) rfl) ((bx_50.cell 1).trans rfl)) ?_)
  refine l_op wn (o_val (x_move (et (v := (Value.int .i64 (left - (s_30.size : Int)))) rfl)) ?_)
  refine l_op wn (o_call (x_call Try.call14 ef (a2 (et (v := (Value.slice A_32 n_33 c_34)) rfl) (et (v := (Value.int .i64 (left - (s_30.size : Int)))) rfl))) (sz_StrS w_47 xs_31 A_32 n_33 c_34 _ (left - (s_30.size : Int)) ok_43 (hr_44.below hB_51) (by omega) (by omega)) ?_)
  rintro _ w_53 ⟨r_54, rfl, er_55, k_56⟩
  refine ⟨_, rfl, ?_⟩
  have sc_57 := sz_cases er_55
  have hB_58 := below_next hB_51 k_56 (by omega)
  have z_59 := k_56.size
  have bx_60 := bx_50.below k_56
  refine l_op wn (o_val (x_assign (et (v := (Value.int .i64 r_54)) rfl)) ?_)
  refine l_nil ?_
  refine w_seq ?_
  refine w_seq ?_
  refine w_region ?_
  refine l_op wn (o_val (x_move (et (v := (Value.int .i64 r_54)) rfl)) ?_)
  by_cases h_61 : r_54 < 0
  · refine l_op wn (o_val (x_lss (r := true) (et (v := (Value.int .i64 r_54)) rfl) ec (dec_t h_61)) ?_)
    refine l_nil ?_
    refine w_if_t (et (v := (Value.bool true)) rfl) ?_
    refine w_seq ?_
    refine w_region ?_
    refine l_op wn (o_val (x_assign ec) ?_)
    refine l_nil ?_
    refine w_ret ?_
    exact ⟨_, r_tmp (v := (Value.int .i64 (-1))) Try.results39 rfl, _, rfl, sz_close (by omega), hB_58⟩
  refine l_op wn (o_val (x_lss (r := false) (et (v := (Value.int .i64 r_54)) rfl) ec (dec_f h_61)) ?_)
  refine l_nil ?_
  refine w_if_f (et (v := (Value.bool false)) rfl) ?_
  refine w_skip ?_
  refine w_seq ?_
  refine w_region ?_
  refine l_op wn (o_val (x_move (et (v := (Value.int .i64 r_54)) rfl)) ?_)
  refine l_op wn (o_val (x_assign (et (v := (Value.int .i64 r_54)) rfl)) ?_)
  refine l_nil ?_
  refine w_ret ?_
  exact ⟨_, r_tmp (v := (Value.int .i64 r_54)) Try.results39 rfl, _, rfl, sz_close (by omega), hB_58⟩

set_option maxHeartbeats 200000 in
theorem sz_RuleS (w : World) (xs : List V) (A : Option Addr) (n c : Nat) (F : List Nat) (left : Int) (ok : Oks xs tRule) (hr : Rep w (.list xs) [.slice A n c] F) (h0 : 0 ≤ left) (h1 : left ≤ 1048576) : Calls Try.prog 9 #[.slice A n c, .int .i64 left] w (RetI w (· = szV (.list xs) left)) := by
  have hB0 := Below.refl w.heap.size w
  obtain ⟨ln, lc, lm⟩ := hr.len
  refine enter (N := 27) Try.func9 rfl Try.ntmps9 rfl ?_
  refine w_seq ?_
  refine w_region ?_
  refine l_op wn (o_val (x_assign ec) ?_)
  refine l_nil ?_
  refine w_seq ?_
  refine w_region ?_
  refine l_op wn (o_val (x_move (et (v := (Value.int .i64 left)) rfl)) ?_)
  refine l_op wn (o_val (x_move (et (v := (Value.slice A n c)) rfl)) ?_)
  refine l_op wn (o_val (x_len Try.underlying22 (et (v := (Value.slice A n c)) rfl)) ?_)
  refine l_op wn (o_val (x_sub (et (v := (Value.int .i64 left)) rfl) (et (v := (Value.int .i64 (n : Int))) rfl) (by omega)) ?_)
  refine l_op wn (o_val (x_assign (et (v := (Value.int .i64 (left - (n : Int)))) rfl)) ?_)
  refine l_nil ?_
  refine w_seq ?_
  refine w_seq ?_
  refine w_region ?_
  refine l_op wn (o_val (x_move (et (v := (Value.int .i64 (left - (n : Int)))) rfl)) ?_)
  by_cases h_62 : (left - (n : Int)) < 0
  · refine l_op wn (o_val (x_lss (r := true) (et (v := (Value.int .i64 (left - (n : Int)))) rfl) ec (dec_t h_62)) ?_)
    refine l_nil ?_
    refine w_if_t (et (v := (Value.bool true)) rfl) ?_
    refine w_seq ?_
    refine w_region ?_
    refine l_op wn (o_val (x_assign ec) ?_)
    refine l_nil ?_
    refine w_ret ?_
    exact ⟨_, r_tmp (v := (Value.int .i64 (-1))) Try.results9 rfl, _, rfl, sz_close (by have := bulk_list xs; (try have bs := bulks_step ‹xs[i]? = some _›); (try have ba := bulks_all (n := i) (xs := xs) (by omega)); omega), hB0⟩
  refine l_op wn (o_val (x_lss (r := false) (et (v := (Value.int .i64 (left - (n : Int)))) rfl) ec (dec_f h_62)) ?_)
  refine l_nil ?_
  refine w_if_f (et (v := (Value.bool false)) rfl) ?_
  refine w_skip ?_
  refine w_seq ?_
  refine w_seq ?_
  refine w_region ?_
  refine l_op wn (o_val (x_assign ec) ?_)
  refine l_nil ?_
  refine w_block ?_
  refine w_loop (fun μ f w' => ∃ (i : Nat), ∃ (l : Int), f 0 = (Value.slice A n c) ∧ f 5 = (Value.int .i64 (i : Int)) ∧ f 1 = (Value.int .i64 l) ∧ Below w.heap.size w w' ∧ (i ≤ n) ∧ (l = left - n - V.bulks (xs.take i)) ∧ (0 ≤ l) ∧ μ = n - i) (n - 0) ?_ ?_
  · exact ⟨0, left - (n : Int), rfl, vint (a := 0) (by omega), rfl, hB0, (by omega), (by simp [V.bulks]), (by omega), rfl⟩
  rintro m_65 f_63 w_64 ⟨i, l, hs_67, hs_68, hs_69, hB_66, hi, hl, hl0, rfl⟩
  have z_70 := hB_66.size
  refine w_seq ?_
  refine w_seq ?_
  refine w_region ?_
  refine l_op wn (o_val (x_move (et (v := (Value.int .i64 (i : Int))) hs_68)) ?_)
  refine l_op wn (o_val (x_move (et (v := (Value.slice A n c)) hs_67)) ?_)
  refine l_op wn (o_val (x_len Try.underlying22 (et (v := (Value.slice A n c)) rfl)) ?_)
  by_cases h_71 : (i : Int) < (n : Int)
  rotate_left
  · refine l_op wn (o_val (x_lss (r := false) (et (v := (Value.int .i64 (i : Int))) rfl) (et (v := (Value.int .i64 (n : Int))) rfl) (dec_f h_71)) ?_)
    refine l_nil ?_
    refine w_if_f (et (v := (Value.bool false)) rfl) ?_
    refine w_exit ?_
    refine Eq.mpr (if_pos rfl) ?_
    refine w_seq ?_
    refine w_region ?_
    refine l_op wn (o_val (x_move (et (v := (Value.int .i64 l)) hs_69)) ?_)
    refine l_op wn (o_val (x_assign (et (v := (Value.int .i64 l)) rfl)) ?_)
    refine l_nil ?_
    refine w_ret ?_
    exact ⟨_, r_tmp (v := (Value.int .i64 l)) Try.results9 rfl, _, rfl, sz_close (by have := bulk_list xs; (try have bs := bulks_step ‹xs[i]? = some _›); (try have ba := bulks_all (n := i) (xs := xs) (by omega)); omega), hB_66⟩
  refine l_op wn (o_val (x_lss (r := true) (et (v := (Value.int .i64 (i : Int))) rfl) (et (v := (Value.int .i64 (n : Int))) rfl) (dec_t h_71)) ?_)
  refine l_nil ?_
  refine w_if_t (et (v := (Value.bool true)) rfl) ?_
  refine w_skip ?_
  refine w_seq ?_
  refine w_block ?_
  refine w_seq ?_
  refine w_region ?_
  refine l_op wn (o_val (x_move (et (v := (Value.slice A n c)) hs_67)) ?_)
  refine l_op wn (o_val (x_move (et (v := (Value.int .i64 (i : Int))) hs_68)) ?_)
  obtain ⟨b_72, o_73, x_74, cs_75, G_76, hA_77, hbF_78, hlt_79, hx_80, hrx_81, hG_82, hl_83, hcl_84⟩ := hr.elem (k := 4) (fun y hy => wd_Rule (ok.mem y hy)) (i := i) (by omega)
  obtain ⟨s_85, xs_86, A_87, n_88, c_89, F_90, i_92, q_93, rfl, rfl, rfl, bd_97, ok_98, hr_99, ln_100, bd_101⟩ := open_Rule (ok.get hx_80) hrx_81
  refine l_op wn (o_val (x_index' (i := i) Try.underlying22 Try.sizeOf74 (et (v := (Value.slice A n c)) rfl) hA_77 (et (v := (Value.int .i64 (i : Int))) rfl) (by omega) (by omega)) ?_)
  refine l_op wn (o_val (x_loadN (cs := [(Value.string s_85), (Value.slice A_87 n_88 c_89), (Value.int .i64 i_92), (Value.bool q_93)]) Try.isAgg74 Try.sizeOf74 (et (v := (Value.pointer (some ⟨b_72, o_73 + i * 4, none⟩))) rfl) rfl ((hl_83.keep (hB_66.block _ hlt_79)))) ?_)
  refine l_op wn (o_val (x_move (et (v := (Value.int .i64 l)) hs_69)) ?_)
  have rr_106 := (ragg (rcons (rstr (w := w_64) (n := s_85) bd_97) (rcons (hr_99.below hB_66) (rcons (rint (w := w_64) (n := i_92) bd_101) (rcons (rbool (w := w_64) (n := q_93)) (rnil (w := w_64)))))))
  refine l_op wn (o_call (x_call Try.call39 ef (a2 (et (v := (Value.agg #[(Value.string s_85), (Value.slice A_87 n_88 c_89), (Value.int .i64 i_92), (Value.bool q_93)])) rfl) (et (v := (Value.int .i64 l)) rfl))) (sz_Rule w_64 (.agg [.str s_85, .list xs_86, .int i_92, .bool q_93]) [(Value.string s_85), (Value.slice A_87 n_88 c_89), (Value.int .i64 i_92), (Value.bool q_93)] _ l (ok_agg rfl (okz_cons (ok_str rfl) (okz_cons (ok_list rfl ok_98) (okz_cons (ok_int rfl) (okz_cons (ok_bool rfl) okz_nil))))) rr_106 (by omega) (by omega)) ?_)
  rintro _ w_102 ⟨r_103, rfl, er_104, k_105⟩
  refine ⟨_, rfl, ?_⟩
  have sc_107 := sz_cases er_104
  have hB_108 := below_next hB_66 k_105 (by omega)
  have z_109 := k_105.size
  refine l_op wn (o_val (x_assign (et (v := (Value.int .i64 r_103)) rfl)) ?_)
  refine l_nil ?_
  refine w_seq ?_
  refine w_region ?_
  refine l_op wn (o_val (x_move (et (v := (Value.int .i64 r_103)) rfl)) ?_)
  by_cases h_110 : r_103 < 0
  · refine l_op wn (o_val (x_lss (r := true) (et (v := (Value.int .i64 r_103)) rfl) ec (dec_t h_110)) ?_)
    refine l_nil ?_
    refine w_if_t (et (v := (Value.bool true)) rfl) ?_
    refine w_seq ?_
    refine w_region ?_
    refine l_op wn (o_val (x_assign ec) ?_)
    refine l_nil ?_
    refine w_ret ?_
    exact ⟨_, r_tmp (v := (Value.int .i64 (-1))) Try.results9 rfl, _, rfl, sz_close (by have := bulk_list xs; (try have bs := bulks_step ‹xs[i]? = some _›); (try have ba := bulks_all (n := i) (xs := xs) (by omega)); omega), hB_108⟩
  refine l_op wn (o_val (x_lss (r := false) (et (v := (Value.int .i64 r_103)) rfl) ec (dec_f h_110)) ?_)
  refine l_nil ?_
  refine w_if_f (et (v := (Value.bool false)) rfl) ?_
  refine w_skip ?_
  refine w_region ?_
  refine l_op wn (o_val (x_move (et (v := (Value.int .i64 (i : Int))) hs_68)) ?_)
  refine l_op wn (o_val (x_add (et (v := (Value.int .i64 (i : Int))) rfl) ec (by omega)) ?_)
  refine l_op wn (o_val (x_assign (et (v := (Value.int .i64 ((i : Int) + 1))) rfl)) ?_)
  refine l_nil ?_
  have bs := bulks_step hx_80
  exact ⟨n - (i + 1), by omega, ⟨i + 1, r_103, hs_67, vint (a := ((i : Int) + 1)) (by omega), rfl, hB_108, (by omega), (by omega), (by omega), rfl⟩⟩

def Sz_NodeS (k : Nat) : Prop := ∀ (w : World) (xs : List V) (A : Option Addr) (n c : Nat) (F : List Nat) (left : Int) (ok : Oks xs tNode) (hr : Rep w (.list xs) [.slice A n c] F) (h0 : 0 ≤ left) (h1 : left ≤ 1048576) (hc : V.cnts xs ≤ k), Calls Try.prog 24 #[.slice A n c, .int .i64 left] w (RetI w (· = szV (.list xs) left))
def Sz_Node (k : Nat) : Prop := ∀ (w : World) (x : V) (cs : List Value) (F : List Nat) (left : Int) (ok : Ok x tNode) (hr : Rep w x cs F) (h0 : 0 ≤ left) (h1 : left ≤ 1048576) (hc : V.cnt x ≤ k), Calls Try.prog 53 #[.agg cs.toArray, .int .i64 left] w (RetI w (· = szV x left))
set_option maxHeartbeats 200000 in
theorem sz_Node_of (k : Nat) (ih : Sz_NodeS k) : Sz_Node (k + 1) := by
  intro w x cs F left ok hr h0 h1 hc
  obtain ⟨s_111, s_112, xs_113, A_114, n_115, c_116, F_117, rfl, rfl, rfl, bd_122, bd_123, ok_124, hr_125, ln_126⟩ := open_Node ok hr
  have hbk : V.bulk (.agg [.str s_111, .str s_112, .list xs_113]) = s_111.size + s_112.size + V.bulk (.list xs_113) := by simp only [V.bulk, V.bulks] <;> omega
  have hck : V.cnts xs_113 < V.cnt (.agg [.str s_111, .str s_112, .list xs_113]) := by simp only [V.cnt, V.cnts]; omega
  have hB0 := Below.refl w.heap.size w
  refine enter (N := 26) Try.func53 rfl Try.ntmps53 rfl ?_
  refine w_seq ?_
  refine w_region ?_
  refine l_op wn (o_new (x_box (cs := [(Value.string s_111), (Value.string s_112), (Value.slice A_114 n_115 c_116)]) (et (v := (Value.agg #[(Value.string s_111), (Value.string s_112), (Value.slice A_114 n_115 c_116)])) rfl)) ?_)
  intro w_127 z_128 k_129 bx_130
  have hB_131 := below_next hB0 k_129 (by omega)
  refine l_op wn (o_val (x_assign ec) ?_)
  refine l_nil ?_
  refine w_seq ?_
  refine w_region ?_
  refine l_op wn (o_val (x_move (et (v := (Value.int .i64 left)) rfl)) ?_)
  refine l_op wn (o_val (x_field (k := 0) (j := 0) Try.underlying90 rfl Try.sizeOf9 rfl (et (v := (Value.pointer (some ⟨w.heap.size, 0, none⟩))) rfl)) ?_)
  refine l_op wn (o_val (x_load (v := (Value.string s_111)) Try.isAgg9 (et (v := (Value.pointer (some ⟨w.heap.size, 0, none⟩))) rfl) ((bx_130.cell 0).trans rfl)) ?_)
  refine l_op wn (o_val (x_slen Try.underlying9 (et (v := (Value.string s_111)) rfl)) ?_)
  refine l_op wn (o_val (x_sub (et (v := (Value.int .i64 left)) rfl) (et (v := (Value.int .i64 (s_111.size : Int))) rfl) (by omega)) ?_)
  refine l_op wn (o_val (x_assign (et (v := (Value.int .i64 (left - (s_111.size : Int)))) rfl)) ?_)
  refine l_nil ?_
  refine w_seq ?_
  refine w_seq ?_
  refine w_region ?_
  refine l_op wn (o_val (x_move (et (v := (Value.int .i64 (left - (s_111.size : Int)))) rfl)) ?_)
  by_cases h_132 : (left - (s_111.size : Int)) < 0
  · refine l_op wn (o_val (x_lss (r := true) (et (v := (Value.int .i64 (left - (s_111.size : Int)))) rfl) ec (dec_t h_132)) ?_)
    refine l_nil ?_
    refine w_if_t (et (v := (Value.bool true)) rfl) ?_
    refine w_seq ?_
    refine w_region ?_
    refine l_op wn (o_val (x_assign ec) ?_)
    refine l_nil ?_
    refine w_ret ?_
    exact ⟨_, r_tmp (v := (Value.int .i64 (-1))) Try.results53 rfl, _, rfl, sz_close (by omega), hB_131⟩
  refine l_op wn (o_val (x_lss (r := false) (et (v := (Value.int .i64 (left - (s_111.size : Int)))) rfl) ec (dec_f h_132)) ?_)
  refine l_nil ?_
  refine w_if_f (et (v := (Value.bool false)) rfl) ?_
  refine w_skip ?_
  refine w_seq ?_
  refine w_region ?_
  refine l_op wn (o_val (x_move (et (v := (Value.int .i64 (left - (s_111.size : Int)))) rfl)) ?_)
  refine l_op wn (o_val (x_field (k := 0) (j := 1) Try.underlying90 rfl Try.sizeOf9 rfl (et (v := (Value.pointer (some ⟨w.heap.size, 0, none⟩))) rfl)) ?_)
  refine l_op wn (o_val (x_load (v := (Value.string s_112)) Try.isAgg9 (et (v := (Value.pointer (some ⟨w.heap.size, 1, none⟩))) rfl) ((bx_130.cell 1).trans rfl)) ?_)
  refine l_op wn (o_val (x_slen Try.underlying9 (et (v := (Value.string s_112)) rfl)) ?_)
  refine l_op wn (o_val (x_sub (et (v := (Value.int .i64 (left - (s_111.size : Int)))) rfl) (et (v := (Value.int .i64 (s_112.size : Int))) rfl) (by omega)) ?_)
  refine l_op wn (o_val (x_assign (et (v := (Value.int .i64 ((left - (s_111.size : Int)) - (s_112.size : Int)))) rfl)) ?_)
  refine l_nil ?_
  refine w_seq ?_
  refine w_seq ?_
  refine w_region ?_
  refine l_op wn (o_val (x_move (et (v := (Value.int .i64 ((left - (s_111.size : Int)) - (s_112.size : Int)))) rfl)) ?_)
  by_cases h_133 : ((left - (s_111.size : Int)) - (s_112.size : Int)) < 0
  · refine l_op wn (o_val (x_lss (r := true) (et (v := (Value.int .i64 ((left - (s_111.size : Int)) - (s_112.size : Int)))) rfl) ec (dec_t h_133)) ?_)
    refine l_nil ?_
    refine w_if_t (et (v := (Value.bool true)) rfl) ?_
    refine w_seq ?_
    refine w_region ?_
    refine l_op wn (o_val (x_assign ec) ?_)
    refine l_nil ?_
    refine w_ret ?_
    exact ⟨_, r_tmp (v := (Value.int .i64 (-1))) Try.results53 rfl, _, rfl, sz_close (by omega), hB_131⟩
  refine l_op wn (o_val (x_lss (r := false) (et (v := (Value.int .i64 ((left - (s_111.size : Int)) - (s_112.size : Int)))) rfl) ec (dec_f h_133)) ?_)
  refine l_nil ?_
  refine w_if_f (et (v := (Value.bool false)) rfl) ?_
  refine w_skip ?_
  refine w_seq ?_
  refine w_region ?_
  refine l_op wn (o_val (x_field (k := 0) (j := 2) Try.underlying90 rfl Try.sizeOf35 rfl (et (v := (Value.pointer (some ⟨w.heap.size, 0, none⟩))) rfl)) ?_)
  refine l_op wn (o_val (x_load (v := (Value.slice A_114 n_115 c_116)) Try.isAgg35 (et (v := (Value.pointer (some ⟨w.heap.size, 2, none⟩))) rfl) ((bx_130.cell 2).trans rfl)) ?_)
  refine l_op wn (o_val (x_move (et (v := (Value.int .i64 ((left - (s_111.size : Int)) - (s_112.size : Int)))) rfl)) ?_)
  refine l_op wn (o_call (x_call Try.call24 ef (a2 (et (v := (Value.slice A_114 n_115 c_116)) rfl) (et (v := (Value.int .i64 ((left - (s_111.size : Int)) - (s_112.size : Int)))) rfl))) (ih w_127 xs_113 A_114 n_115 c_116 _ ((left - (s_111.size : Int)) - (s_112.size : Int)) ok_124 (hr_125.below hB_131) (by omega) (by omega) (by omega)) ?_)
  rintro _ w_134 ⟨r_135, rfl, er_136, k_137⟩
  refine ⟨_, rfl, ?_⟩
  have sc_138 := sz_cases er_136
  have hB_139 := below_next hB_131 k_137 (by omega)
  have z_140 := k_137.size
  have bx_141 := bx_130.below k_137
  refine l_op wn (o_val (x_assign (et (v := (Value.int .i64 r_135)) rfl)) ?_)
  refine l_nil ?_
  refine w_seq ?_
  refine w_seq ?_
  refine w_region ?_
  refine l_op wn (o_val (x_move (et (v := (Value.int .i64 r_135)) rfl)) ?_)
  by_cases h_142 : r_135 < 0
  · refine l_op wn (o_val (x_lss (r := true) (et (v := (Value.int .i64 r_135)) rfl) ec (dec_t h_142)) ?_)
    refine l_nil ?_
    refine w_if_t (et (v := (Value.bool true)) rfl) ?_
    refine w_seq ?_
    refine w_region ?_
    refine l_op wn (o_val (x_assign ec) ?_)
    refine l_nil ?_
    refine w_ret ?_
    exact ⟨_, r_tmp (v := (Value.int .i64 (-1))) Try.results53 rfl, _, rfl, sz_close (by omega), hB_139⟩
  refine l_op wn (o_val (x_lss (r := false) (et (v := (Value.int .i64 r_135)) rfl) ec (dec_f h_142)) ?_)
  refine l_nil ?_
  refine w_if_f (et (v := (Value.bool false)) rfl) ?_
  refine w_skip ?_
  refine w_seq ?_
  refine w_region ?_
  refine l_op wn (o_val (x_move (et (v := (Value.int .i64 r_135)) rfl)) ?_)
  refine l_op wn (o_val (x_assign (et (v := (Value.int .i64 r_135)) rfl)) ?_)
  refine l_nil ?_
  refine w_ret ?_
  exact ⟨_, r_tmp (v := (Value.int .i64 r_135)) Try.results53 rfl, _, rfl, sz_close (by omega), hB_139⟩

set_option maxHeartbeats 200000 in
theorem sz_NodeS_of (k : Nat) (ih : Sz_Node k) : Sz_NodeS k := by
  intro w xs A n c F left ok hr h0 h1 hc
  have hB0 := Below.refl w.heap.size w
  obtain ⟨ln, lc, lm⟩ := hr.len
  refine enter (N := 27) Try.func24 rfl Try.ntmps24 rfl ?_
  refine w_seq ?_
  refine w_region ?_
  refine l_op wn (o_val (x_assign ec) ?_)
  refine l_nil ?_
  refine w_seq ?_
  refine w_region ?_
  refine l_op wn (o_val (x_move (et (v := (Value.int .i64 left)) rfl)) ?_)
  refine l_op wn (o_val (x_move (et (v := (Value.slice A n c)) rfl)) ?_)
  refine l_op wn (o_val (x_len Try.underlying35 (et (v := (Value.slice A n c)) rfl)) ?_)
  refine l_op wn (o_val (x_sub (et (v := (Value.int .i64 left)) rfl) (et (v := (Value.int .i64 (n : Int))) rfl) (by omega)) ?_)
  refine l_op wn (o_val (x_assign (et (v := (Value.int .i64 (left - (n : Int)))) rfl)) ?_)
  refine l_nil ?_
  refine w_seq ?_
  refine w_seq ?_
  refine w_region ?_
  refine l_op wn (o_val (x_move (et (v := (Value.int .i64 (left - (n : Int)))) rfl)) ?_)
  by_cases h_143 : (left - (n : Int)) < 0
  · refine l_op wn (o_val (x_lss (r := true) (et (v := (Value.int .i64 (left - (n : Int)))) rfl) ec (dec_t h_143)) ?_)
    refine l_nil ?_
    refine w_if_t (et (v := (Value.bool true)) rfl) ?_
    refine w_seq ?_
    refine w_region ?_
    refine l_op wn (o_val (x_assign ec) ?_)
    refine l_nil ?_
    refine w_ret ?_
    exact ⟨_, r_tmp (v := (Value.int .i64 (-1))) Try.results24 rfl, _, rfl, sz_close (by have := bulk_list xs; (try have bs := bulks_step ‹xs[i]? = some _›); (try have ba := bulks_all (n := i) (xs := xs) (by omega)); omega), hB0⟩
  refine l_op wn (o_val (x_lss (r := false) (et (v := (Value.int .i64 (left - (n : Int)))) rfl) ec (dec_f h_143)) ?_)
  refine l_nil ?_
  refine w_if_f (et (v := (Value.bool false)) rfl) ?_
  refine w_skip ?_
  refine w_seq ?_
  refine w_seq ?_
  refine w_region ?_
  refine l_op wn (o_val (x_assign ec) ?_)
  refine l_nil ?_
  refine w_block ?_
  refine w_loop (fun μ f w' => ∃ (i : Nat), ∃ (l : Int), f 0 = (Value.slice A n c) ∧ f 5 = (Value.int .i64 (i : Int)) ∧ f 1 = (Value.int .i64 l) ∧ Below w.heap.size w w' ∧ (i ≤ n) ∧ (l = left - n - V.bulks (xs.take i)) ∧ (0 ≤ l) ∧ μ = n - i) (n - 0) ?_ ?_
  · exact ⟨0, left - (n : Int), rfl, vint (a := 0) (by omega), rfl, hB0, (by omega), (by simp [V.bulks]), (by omega), rfl⟩
  rintro m_146 f_144 w_145 ⟨i, l, hs_148, hs_149, hs_150, hB_147, hi, hl, hl0, rfl⟩
  have z_151 := hB_147.size
  refine w_seq ?_
  refine w_seq ?_
  refine w_region ?_
  refine l_op wn (o_val (x_move (et (v := (Value.int .i64 (i : Int))) hs_149)) ?_)
  refine l_op wn (o_val (x_move (et (v := (Value.slice A n c)) hs_148)) ?_)
  refine l_op wn (o_val (x_len Try.underlying35 (et (v := (Value.slice A n c)) rfl)) ?_)
  by_cases h_152 : (i : Int) < (n : Int)
  rotate_left
  · refine l_op wn (o_val (x_lss (r := false) (et (v := (Value.int .i64 (i : Int))) rfl) (et (v := (Value.int .i64 (n : Int))) rfl) (dec_f h_152)) ?_)
    refine l_nil ?_
    refine w_if_f (et (v := (Value.bool false)) rfl) ?_
    refine w_exit ?_
    refine Eq.mpr (if_pos rfl) ?_
    refine w_seq ?_
    refine w_region ?_
    refine l_op wn (o_val (x_move (et (v := (Value.int .i64 l)) hs_150)) ?_)
    refine l_op wn (o_val (x_assign (et (v := (Value.int .i64 l)) rfl)) ?_)
    refine l_nil ?_
    refine w_ret ?_
    exact ⟨_, r_tmp (v := (Value.int .i64 l)) Try.results24 rfl, _, rfl, sz_close (by have := bulk_list xs; (try have bs := bulks_step ‹xs[i]? = some _›); (try have ba := bulks_all (n := i) (xs := xs) (by omega)); omega), hB_147⟩
  refine l_op wn (o_val (x_lss (r := true) (et (v := (Value.int .i64 (i : Int))) rfl) (et (v := (Value.int .i64 (n : Int))) rfl) (dec_t h_152)) ?_)
  refine l_nil ?_
  refine w_if_t (et (v := (Value.bool true)) rfl) ?_
  refine w_skip ?_
  refine w_seq ?_
  refine w_block ?_
  refine w_seq ?_
  refine w_region ?_
  refine l_op wn (o_val (x_move (et (v := (Value.slice A n c)) hs_148)) ?_)
  refine l_op wn (o_val (x_move (et (v := (Value.int .i64 (i : Int))) hs_149)) ?_)
  obtain ⟨b_153, o_154, x_155, cs_156, G_157, hA_158, hbF_159, hlt_160, hx_161, hrx_162, hG_163, hl_164, hcl_165⟩ := hr.elem (k := 3) (fun y hy => wd_Node (ok.mem y hy)) (i := i) (by omega)
  obtain ⟨s_166, s_167, xs_168, A_169, n_170, c_171, F_172, rfl, rfl, rfl, bd_177, bd_178, ok_179, hr_180, ln_181⟩ := open_Node (ok.get hx_161) hrx_162
  refine l_op wn (o_val (x_index' (i := i) Try.underlying35 Try.sizeOf90 (et (v := (Value.slice A n c)) rfl) hA_158 (et (v := (Value.int .i64 (i : Int))) rfl) (by omega) (by omega)) ?_)
  refine l_op wn (o_val (x_loadN (cs := [(Value.string s_166), (Value.string s_167), (Value.slice A_169 n_170 c_171)]) Try.isAgg90 Try.sizeOf90 (et (v := (Value.pointer (some ⟨b_153, o_154 + i * 3, none⟩))) rfl) rfl ((hl_164.keep (hB_147.block _ hlt_160)))) ?_)
  refine l_op wn (o_val (x_move (et (v := (Value.int .i64 l)) hs_150)) ?_)
  have rr_186 := (ragg (rcons (rstr (w := w_145) (n := s_166) bd_177) (rcons (rstr (w := w_145) (n := s_167) bd_178) (rcons (hr_180.below hB_147) (rnil (w := w_145))))))
  refine l_op wn (o_call (x_call Try.call53 ef (a2 (et (v := (Value.agg #[(Value.string s_166), (Value.string s_167), (Value.slice A_169 n_170 c_171)])) rfl) (et (v := (Value.int .i64 l)) rfl))) (ih w_145 (.agg [.str s_166, .str s_167, .list xs_168]) [(Value.string s_166), (Value.string s_167), (Value.slice A_169 n_170 c_171)] _ l (ok_agg rfl (okz_cons (ok_str rfl) (okz_cons (ok_str rfl) (okz_cons (ok_list rfl ok_179) okz_nil)))) rr_186 (by omega) (by omega) (by have := cnt_mem hx_161; omega)) ?_)
  rintro _ w_182 ⟨r_183, rfl, er_184, k_185⟩
  refine ⟨_, rfl, ?_⟩
  have sc_187 := sz_cases er_184
  have hB_188 := below_next hB_147 k_185 (by omega)
  have z_189 := k_185.size
  refine l_op wn (o_val (x_assign (et (v := (Value.int .i64 r_183)) rfl)) ?_)
  refine l_nil ?_
  refine w_seq ?_
  refine w_region ?_
  refine l_op wn (o_val (x_move (et (v := (Value.int .i64 r_183)) rfl)) ?_)
  by_cases h_190 : r_183 < 0
  · refine l_op wn (o_val (x_lss (r := true) (et (v := (Value.int .i64 r_183)) rfl) ec (dec_t h_190)) ?_)
    refine l_nil ?_
    refine w_if_t (et (v := (Value.bool true)) rfl) ?_
    refine w_seq ?_
    refine w_region ?_
    refine l_op wn (o_val (x_assign ec) ?_)
    refine l_nil ?_
    refine w_ret ?_
    exact ⟨_, r_tmp (v := (Value.int .i64 (-1))) Try.results24 rfl, _, rfl, sz_close (by have := bulk_list xs; (try have bs := bulks_step ‹xs[i]? = some _›); (try have ba := bulks_all (n := i) (xs := xs) (by omega)); omega), hB_188⟩
  refine l_op wn (o_val (x_lss (r := false) (et (v := (Value.int .i64 r_183)) rfl) ec (dec_f h_190)) ?_)
  refine l_nil ?_
  refine w_if_f (et (v := (Value.bool false)) rfl) ?_
  refine w_skip ?_
  refine w_region ?_
  refine l_op wn (o_val (x_move (et (v := (Value.int .i64 (i : Int))) hs_149)) ?_)
  refine l_op wn (o_val (x_add (et (v := (Value.int .i64 (i : Int))) rfl) ec (by omega)) ?_)
  refine l_op wn (o_val (x_assign (et (v := (Value.int .i64 ((i : Int) + 1))) rfl)) ?_)
  refine l_nil ?_
  have bs := bulks_step hx_161
  exact ⟨n - (i + 1), by omega, ⟨i + 1, r_183, hs_148, vint (a := ((i : Int) + 1)) (by omega), rfl, hB_188, (by omega), (by omega), (by omega), rfl⟩⟩
theorem sz_Node_all : ∀ k, Sz_Node k
  | 0 => fun w x cs F left ok hr h0 h1 hc => absurd hc (by have := cnt_pos x; omega)
  | k + 1 => sz_Node_of k (sz_NodeS_of k (sz_Node_all k))
theorem sz_NodeS (w : World) (xs : List V) (A : Option Addr) (n c : Nat) (F : List Nat) (left : Int) (ok : Oks xs tNode) (hr : Rep w (.list xs) [.slice A n c] F) (h0 : 0 ≤ left) (h1 : left ≤ 1048576) : Calls Try.prog 24 #[.slice A n c, .int .i64 left] w (RetI w (· = szV (.list xs) left)) := sz_NodeS_of _ (sz_Node_all _) w xs A n c F left ok hr h0 h1 (Nat.le_refl _)
theorem sz_Node (w : World) (x : V) (cs : List Value) (F : List Nat) (left : Int) (ok : Ok x tNode) (hr : Rep w x cs F) (h0 : 0 ≤ left) (h1 : left ≤ 1048576) : Calls Try.prog 53 #[.agg cs.toArray, .int .i64 left] w (RetI w (· = szV x left)) := sz_Node_all _ w x cs F left ok hr h0 h1 (Nat.le_refl _)

def Sz_EditS (k : Nat) : Prop := ∀ (w : World) (xs : List V) (A : Option Addr) (n c : Nat) (F : List Nat) (left : Int) (ok : Oks xs tEdit) (hr : Rep w (.list xs) [.slice A n c] F) (h0 : 0 ≤ left) (h1 : left ≤ 1048576) (hc : V.cnts xs ≤ k), Calls Try.prog 92 #[.slice A n c, .int .i64 left] w (RetI w (· = szV (.list xs) left))
def Sz_Edit (k : Nat) : Prop := ∀ (w : World) (x : V) (cs : List Value) (F : List Nat) (left : Int) (ok : Ok x tEdit) (hr : Rep w x cs F) (h0 : 0 ≤ left) (h1 : left ≤ 1048576) (hc : V.cnt x ≤ k), Calls Try.prog 101 #[.agg cs.toArray, .int .i64 left] w (RetI w (· = szV x left))
set_option maxHeartbeats 200000 in
theorem sz_Edit_of (k : Nat) (ih : Sz_EditS k) : Sz_Edit (k + 1) := by
  intro w x cs F left ok hr h0 h1 hc
  obtain ⟨i_191, s_192, s_193, xs_194, A_195, n_196, c_197, F_198, rfl, rfl, rfl, bd_203, bd_204, bd_205, ok_206, hr_207, ln_208⟩ := open_Edit ok hr
  have hbk : V.bulk (.agg [.int i_191, .str s_192, .str s_193, .list xs_194]) = s_192.size + s_193.size + V.bulk (.list xs_194) := by simp only [V.bulk, V.bulks] <;> omega
  have hck : V.cnts xs_194 < V.cnt (.agg [.int i_191, .str s_192, .str s_193, .list xs_194]) := by simp only [V.cnt, V.cnts]; omega
  have hB0 := Below.refl w.heap.size w
  refine enter (N := 26) Try.func101 rfl Try.ntmps101 rfl ?_
  refine w_seq ?_
  refine w_region ?_
  refine l_op wn (o_new (x_box (cs := [(Value.int .i64 i_191), (Value.string s_192), (Value.string s_193), (Value.slice A_195 n_196 c_197)]) (et (v := (Value.agg #[(Value.int .i64 i_191), (Value.string s_192), (Value.string s_193), (Value.slice A_195 n_196 c_197)])) rfl)) ?_)
  intro w_209 z_210 k_211 bx_212
  have hB_213 := below_next hB0 k_211 (by omega)
  refine l_op wn (o_val (x_assign ec) ?_)
  refine l_nil ?_
  refine w_seq ?_
  refine w_region ?_
  refine l_op wn (o_val (x_move (et (v := (Value.int .i64 left)) rfl)) ?_)
  refine l_op wn (o_val (x_field (k := 0) (j := 1) Try.underlying155 rfl Try.sizeOf9 rfl (et (v := (Value.pointer (some ⟨w.heap.size, 0, none⟩))) rfl)) ?_)
  refine l_op wn (o_val (x_load (v := (Value.string s_192)) Try.isAgg9 (et (v := (Value.pointer (some ⟨w.heap.size, 1, none⟩))) rfl) ((bx_212.cell 1).trans rfl)) ?_)
  refine l_op wn (o_val (x_slen Try.underlying9 (et (v := (Value.string s_192)) rfl)) ?_)
  refine l_op wn (o_val (x_sub (et (v := (Value.int .i64 left)) rfl) (et (v := (Value.int .i64 (s_192.size : Int))) rfl) (by omega)) ?_)
  refine l_op wn (o_val (x_assign (et (v := (Value.int .i64 (left - (s_192.size : Int)))) rfl)) ?_)
  refine l_nil ?_
  refine w_seq ?_
  refine w_seq ?_
  refine w_region ?_
  refine l_op wn (o_val (x_move (et (v := (Value.int .i64 (left - (s_192.size : Int)))) rfl)) ?_)
  by_cases h_214 : (left - (s_192.size : Int)) < 0
  · refine l_op wn (o_val (x_lss (r := true) (et (v := (Value.int .i64 (left - (s_192.size : Int)))) rfl) ec (dec_t h_214)) ?_)
    refine l_nil ?_
    refine w_if_t (et (v := (Value.bool true)) rfl) ?_
    refine w_seq ?_
    refine w_region ?_
    refine l_op wn (o_val (x_assign ec) ?_)
    refine l_nil ?_
    refine w_ret ?_
    exact ⟨_, r_tmp (v := (Value.int .i64 (-1))) Try.results101 rfl, _, rfl, sz_close (by omega), hB_213⟩
  refine l_op wn (o_val (x_lss (r := false) (et (v := (Value.int .i64 (left - (s_192.size : Int)))) rfl) ec (dec_f h_214)) ?_)
  refine l_nil ?_
  refine w_if_f (et (v := (Value.bool false)) rfl) ?_
  refine w_skip ?_
  refine w_seq ?_
  refine w_region ?_
  refine l_op wn (o_val (x_move (et (v := (Value.int .i64 (left - (s_192.size : Int)))) rfl)) ?_)
  refine l_op wn (o_val (x_field (k := 0) (j := 2) Try.underlying155 rfl Try.sizeOf9 rfl (et (v := (Value.pointer (some ⟨w.heap.size, 0, none⟩))) rfl)) ?_)
  refine l_op wn (o_val (x_load (v := (Value.string s_193)) Try.isAgg9 (et (v := (Value.pointer (some ⟨w.heap.size, 2, none⟩))) rfl) ((bx_212.cell 2).trans rfl)) ?_)
  refine l_op wn (o_val (x_slen Try.underlying9 (et (v := (Value.string s_193)) rfl)) ?_)
  refine l_op wn (o_val (x_sub (et (v := (Value.int .i64 (left - (s_192.size : Int)))) rfl) (et (v := (Value.int .i64 (s_193.size : Int))) rfl) (by omega)) ?_)
  refine l_op wn (o_val (x_assign (et (v := (Value.int .i64 ((left - (s_192.size : Int)) - (s_193.size : Int)))) rfl)) ?_)
  refine l_nil ?_
  refine w_seq ?_
  refine w_seq ?_
  refine w_region ?_
  refine l_op wn (o_val (x_move (et (v := (Value.int .i64 ((left - (s_192.size : Int)) - (s_193.size : Int)))) rfl)) ?_)
  by_cases h_215 : ((left - (s_192.size : Int)) - (s_193.size : Int)) < 0
  · refine l_op wn (o_val (x_lss (r := true) (et (v := (Value.int .i64 ((left - (s_192.size : Int)) - (s_193.size : Int)))) rfl) ec (dec_t h_215)) ?_)
    refine l_nil ?_
    refine w_if_t (et (v := (Value.bool true)) rfl) ?_
    refine w_seq ?_
    refine w_region ?_
    refine l_op wn (o_val (x_assign ec) ?_)
    refine l_nil ?_
    refine w_ret ?_
    exact ⟨_, r_tmp (v := (Value.int .i64 (-1))) Try.results101 rfl, _, rfl, sz_close (by omega), hB_213⟩
  refine l_op wn (o_val (x_lss (r := false) (et (v := (Value.int .i64 ((left - (s_192.size : Int)) - (s_193.size : Int)))) rfl) ec (dec_f h_215)) ?_)
  refine l_nil ?_
  refine w_if_f (et (v := (Value.bool false)) rfl) ?_
  refine w_skip ?_
  refine w_seq ?_
  refine w_region ?_
  refine l_op wn (o_val (x_field (k := 0) (j := 3) Try.underlying155 rfl Try.sizeOf112 rfl (et (v := (Value.pointer (some ⟨w.heap.size, 0, none⟩))) rfl)) ?_)
  refine l_op wn (o_val (x_load (v := (Value.slice A_195 n_196 c_197)) Try.isAgg112 (et (v := (Value.pointer (some ⟨w.heap.size, 3, none⟩))) rfl) ((bx_212.cell 3).trans rfl)) ?_)
  refine l_op wn (o_val (x_move (et (v := (Value.int .i64 ((left - (s_192.size : Int)) - (s_193.size : Int)))) rfl)) ?_)
  refine l_op wn (o_call (x_call Try.call92 ef (a2 (et (v := (Value.slice A_195 n_196 c_197)) rfl) (et (v := (Value.int .i64 ((left - (s_192.size : Int)) - (s_193.size : Int)))) rfl))) (ih w_209 xs_194 A_195 n_196 c_197 _ ((left - (s_192.size : Int)) - (s_193.size : Int)) ok_206 (hr_207.below hB_213) (by omega) (by omega) (by omega)) ?_)
  rintro _ w_216 ⟨r_217, rfl, er_218, k_219⟩
  refine ⟨_, rfl, ?_⟩
  have sc_220 := sz_cases er_218
  have hB_221 := below_next hB_213 k_219 (by omega)
  have z_222 := k_219.size
  have bx_223 := bx_212.below k_219
  refine l_op wn (o_val (x_assign (et (v := (Value.int .i64 r_217)) rfl)) ?_)
  refine l_nil ?_
  refine w_seq ?_
  refine w_seq ?_
  refine w_region ?_
  refine l_op wn (o_val (x_move (et (v := (Value.int .i64 r_217)) rfl)) ?_)
  by_cases h_224 : r_217 < 0
  · refine l_op wn (o_val (x_lss (r := true) (et (v := (Value.int .i64 r_217)) rfl) ec (dec_t h_224)) ?_)
    refine l_nil ?_
    refine w_if_t (et (v := (Value.bool true)) rfl) ?_
    refine w_seq ?_
    refine w_region ?_
    refine l_op wn (o_val (x_assign ec) ?_)
    refine l_nil ?_
    refine w_ret ?_
    exact ⟨_, r_tmp (v := (Value.int .i64 (-1))) Try.results101 rfl, _, rfl, sz_close (by omega), hB_221⟩
  refine l_op wn (o_val (x_lss (r := false) (et (v := (Value.int .i64 r_217)) rfl) ec (dec_f h_224)) ?_)
  refine l_nil ?_
  refine w_if_f (et (v := (Value.bool false)) rfl) ?_
  refine w_skip ?_
  refine w_seq ?_
  refine w_region ?_
  refine l_op wn (o_val (x_move (et (v := (Value.int .i64 r_217)) rfl)) ?_)
  refine l_op wn (o_val (x_assign (et (v := (Value.int .i64 r_217)) rfl)) ?_)
  refine l_nil ?_
  refine w_ret ?_
  exact ⟨_, r_tmp (v := (Value.int .i64 r_217)) Try.results101 rfl, _, rfl, sz_close (by omega), hB_221⟩

set_option maxHeartbeats 200000 in
theorem sz_EditS_of (k : Nat) (ih : Sz_Edit k) : Sz_EditS k := by
  intro w xs A n c F left ok hr h0 h1 hc
  have hB0 := Below.refl w.heap.size w
  obtain ⟨ln, lc, lm⟩ := hr.len
  refine enter (N := 27) Try.func92 rfl Try.ntmps92 rfl ?_
  refine w_seq ?_
  refine w_region ?_
  refine l_op wn (o_val (x_assign ec) ?_)
  refine l_nil ?_
  refine w_seq ?_
  refine w_region ?_
  refine l_op wn (o_val (x_move (et (v := (Value.int .i64 left)) rfl)) ?_)
  refine l_op wn (o_val (x_move (et (v := (Value.slice A n c)) rfl)) ?_)
  refine l_op wn (o_val (x_len Try.underlying112 (et (v := (Value.slice A n c)) rfl)) ?_)
  refine l_op wn (o_val (x_sub (et (v := (Value.int .i64 left)) rfl) (et (v := (Value.int .i64 (n : Int))) rfl) (by omega)) ?_)
  refine l_op wn (o_val (x_assign (et (v := (Value.int .i64 (left - (n : Int)))) rfl)) ?_)
  refine l_nil ?_
  refine w_seq ?_
  refine w_seq ?_
  refine w_region ?_
  refine l_op wn (o_val (x_move (et (v := (Value.int .i64 (left - (n : Int)))) rfl)) ?_)
  by_cases h_225 : (left - (n : Int)) < 0
  · refine l_op wn (o_val (x_lss (r := true) (et (v := (Value.int .i64 (left - (n : Int)))) rfl) ec (dec_t h_225)) ?_)
    refine l_nil ?_
    refine w_if_t (et (v := (Value.bool true)) rfl) ?_
    refine w_seq ?_
    refine w_region ?_
    refine l_op wn (o_val (x_assign ec) ?_)
    refine l_nil ?_
    refine w_ret ?_
    exact ⟨_, r_tmp (v := (Value.int .i64 (-1))) Try.results92 rfl, _, rfl, sz_close (by have := bulk_list xs; (try have bs := bulks_step ‹xs[i]? = some _›); (try have ba := bulks_all (n := i) (xs := xs) (by omega)); omega), hB0⟩
  refine l_op wn (o_val (x_lss (r := false) (et (v := (Value.int .i64 (left - (n : Int)))) rfl) ec (dec_f h_225)) ?_)
  refine l_nil ?_
  refine w_if_f (et (v := (Value.bool false)) rfl) ?_
  refine w_skip ?_
  refine w_seq ?_
  refine w_seq ?_
  refine w_region ?_
  refine l_op wn (o_val (x_assign ec) ?_)
  refine l_nil ?_
  refine w_block ?_
  refine w_loop (fun μ f w' => ∃ (i : Nat), ∃ (l : Int), f 0 = (Value.slice A n c) ∧ f 5 = (Value.int .i64 (i : Int)) ∧ f 1 = (Value.int .i64 l) ∧ Below w.heap.size w w' ∧ (i ≤ n) ∧ (l = left - n - V.bulks (xs.take i)) ∧ (0 ≤ l) ∧ μ = n - i) (n - 0) ?_ ?_
  · exact ⟨0, left - (n : Int), rfl, vint (a := 0) (by omega), rfl, hB0, (by omega), (by simp [V.bulks]), (by omega), rfl⟩
  rintro m_228 f_226 w_227 ⟨i, l, hs_230, hs_231, hs_232, hB_229, hi, hl, hl0, rfl⟩
  have z_233 := hB_229.size
  refine w_seq ?_
  refine w_seq ?_
  refine w_region ?_
  refine l_op wn (o_val (x_move (et (v := (Value.int .i64 (i : Int))) hs_231)) ?_)
  refine l_op wn (o_val (x_move (et (v := (Value.slice A n c)) hs_230)) ?_)
  refine l_op wn (o_val (x_len Try.underlying112 (et (v := (Value.slice A n c)) rfl)) ?_)
  by_cases h_234 : (i : Int) < (n : Int)
  rotate_left
  · refine l_op wn (o_val (x_lss (r := false) (et (v := (Value.int .i64 (i : Int))) rfl) (et (v := (Value.int .i64 (n : Int))) rfl) (dec_f h_234)) ?_)
    refine l_nil ?_
    refine w_if_f (et (v := (Value.bool false)) rfl) ?_
    refine w_exit ?_
    refine Eq.mpr (if_pos rfl) ?_
    refine w_seq ?_
    refine w_region ?_
    refine l_op wn (o_val (x_move (et (v := (Value.int .i64 l)) hs_232)) ?_)
    refine l_op wn (o_val (x_assign (et (v := (Value.int .i64 l)) rfl)) ?_)
    refine l_nil ?_
    refine w_ret ?_
    exact ⟨_, r_tmp (v := (Value.int .i64 l)) Try.results92 rfl, _, rfl, sz_close (by have := bulk_list xs; (try have bs := bulks_step ‹xs[i]? = some _›); (try have ba := bulks_all (n := i) (xs := xs) (by omega)); omega), hB_229⟩
  refine l_op wn (o_val (x_lss (r := true) (et (v := (Value.int .i64 (i : Int))) rfl) (et (v := (Value.int .i64 (n : Int))) rfl) (dec_t h_234)) ?_)
  refine l_nil ?_
  refine w_if_t (et (v := (Value.bool true)) rfl) ?_
  refine w_skip ?_
  refine w_seq ?_
  refine w_block ?_
  refine w_seq ?_
  refine w_region ?_
  refine l_op wn (o_val (x_move (et (v := (Value.slice A n c)) hs_230)) ?_)
  refine l_op wn (o_val (x_move (et (v := (Value.int .i64 (i : Int))) hs_231)) ?_)
  obtain ⟨b_235, o_236, x_237, cs_238, G_239, hA_240, hbF_241, hlt_242, hx_243, hrx_244, hG_245, hl_246, hcl_247⟩ := hr.elem (k := 4) (fun y hy => wd_Edit (ok.mem y hy)) (i := i) (by omega)
  obtain ⟨i_248, s_249, s_250, xs_251, A_252, n_253, c_254, F_255, rfl, rfl, rfl, bd_260, bd_261, bd_262, ok_263, hr_264, ln_265⟩ := open_Edit (ok.get hx_243) hrx_244
  refine l_op wn (o_val (x_index' (i := i) Try.underlying112 Try.sizeOf155 (et (v := (Value.slice A n c)) rfl) hA_240 (et (v := (Value.int .i64 (i : Int))) rfl) (by omega) (by omega)) ?_)
  refine l_op wn (o_val (x_loadN (cs := [(Value.int .i64 i_248), (Value.string s_249), (Value.string s_250), (Value.slice A_252 n_253 c_254)]) Try.isAgg155 Try.sizeOf155 (et (v := (Value.pointer (some ⟨b_235, o_236 + i * 4, none⟩))) rfl) rfl ((hl_246.keep (hB_229.block _ hlt_242)))) ?_)
  refine l_op wn (o_val (x_move (et (v := (Value.int .i64 l)) hs_232)) ?_)
  have rr_270 := (ragg (rcons (rint (w := w_227) (n := i_248) bd_260) (rcons (rstr (w := w_227) (n := s_249) bd_261) (rcons (rstr (w := w_227) (n := s_250) bd_262) (rcons (hr_264.below hB_229) (rnil (w := w_227)))))))
  refine l_op wn (o_call (x_call Try.call101 ef (a2 (et (v := (Value.agg #[(Value.int .i64 i_248), (Value.string s_249), (Value.string s_250), (Value.slice A_252 n_253 c_254)])) rfl) (et (v := (Value.int .i64 l)) rfl))) (ih w_227 (.agg [.int i_248, .str s_249, .str s_250, .list xs_251]) [(Value.int .i64 i_248), (Value.string s_249), (Value.string s_250), (Value.slice A_252 n_253 c_254)] _ l (ok_agg rfl (okz_cons (ok_int rfl) (okz_cons (ok_str rfl) (okz_cons (ok_str rfl) (okz_cons (ok_list rfl ok_263) okz_nil))))) rr_270 (by omega) (by omega) (by have := cnt_mem hx_243; omega)) ?_)
  rintro _ w_266 ⟨r_267, rfl, er_268, k_269⟩
  refine ⟨_, rfl, ?_⟩
  have sc_271 := sz_cases er_268
  have hB_272 := below_next hB_229 k_269 (by omega)
  have z_273 := k_269.size
  refine l_op wn (o_val (x_assign (et (v := (Value.int .i64 r_267)) rfl)) ?_)
  refine l_nil ?_
  refine w_seq ?_
  refine w_region ?_
  refine l_op wn (o_val (x_move (et (v := (Value.int .i64 r_267)) rfl)) ?_)
  by_cases h_274 : r_267 < 0
  · refine l_op wn (o_val (x_lss (r := true) (et (v := (Value.int .i64 r_267)) rfl) ec (dec_t h_274)) ?_)
    refine l_nil ?_
    refine w_if_t (et (v := (Value.bool true)) rfl) ?_
    refine w_seq ?_
    refine w_region ?_
    refine l_op wn (o_val (x_assign ec) ?_)
    refine l_nil ?_
    refine w_ret ?_
    exact ⟨_, r_tmp (v := (Value.int .i64 (-1))) Try.results92 rfl, _, rfl, sz_close (by have := bulk_list xs; (try have bs := bulks_step ‹xs[i]? = some _›); (try have ba := bulks_all (n := i) (xs := xs) (by omega)); omega), hB_272⟩
  refine l_op wn (o_val (x_lss (r := false) (et (v := (Value.int .i64 r_267)) rfl) ec (dec_f h_274)) ?_)
  refine l_nil ?_
  refine w_if_f (et (v := (Value.bool false)) rfl) ?_
  refine w_skip ?_
  refine w_region ?_
  refine l_op wn (o_val (x_move (et (v := (Value.int .i64 (i : Int))) hs_231)) ?_)
  refine l_op wn (o_val (x_add (et (v := (Value.int .i64 (i : Int))) rfl) ec (by omega)) ?_)
  refine l_op wn (o_val (x_assign (et (v := (Value.int .i64 ((i : Int) + 1))) rfl)) ?_)
  refine l_nil ?_
  have bs := bulks_step hx_243
  exact ⟨n - (i + 1), by omega, ⟨i + 1, r_267, hs_230, vint (a := ((i : Int) + 1)) (by omega), rfl, hB_272, (by omega), (by omega), (by omega), rfl⟩⟩
theorem sz_Edit_all : ∀ k, Sz_Edit k
  | 0 => fun w x cs F left ok hr h0 h1 hc => absurd hc (by have := cnt_pos x; omega)
  | k + 1 => sz_Edit_of k (sz_EditS_of k (sz_Edit_all k))
theorem sz_EditS (w : World) (xs : List V) (A : Option Addr) (n c : Nat) (F : List Nat) (left : Int) (ok : Oks xs tEdit) (hr : Rep w (.list xs) [.slice A n c] F) (h0 : 0 ≤ left) (h1 : left ≤ 1048576) : Calls Try.prog 92 #[.slice A n c, .int .i64 left] w (RetI w (· = szV (.list xs) left)) := sz_EditS_of _ (sz_Edit_all _) w xs A n c F left ok hr h0 h1 (Nat.le_refl _)
theorem sz_Edit (w : World) (x : V) (cs : List Value) (F : List Nat) (left : Int) (ok : Ok x tEdit) (hr : Rep w x cs F) (h0 : 0 ≤ left) (h1 : left ≤ 1048576) : Calls Try.prog 101 #[.agg cs.toArray, .int .i64 left] w (RetI w (· = szV x left)) := sz_Edit_all _ w x cs F left ok hr h0 h1 (Nat.le_refl _)

set_option maxHeartbeats 200000 in
theorem sz_Change (w : World) (x : V) (cs : List Value) (F : List Nat) (left : Int) (ok : Ok x tChange) (hr : Rep w x cs F) (h0 : 0 ≤ left) (h1 : left ≤ 1048576) : Calls Try.prog 78 #[.agg cs.toArray, .int .i64 left] w (RetI w (· = szV x left)) := by
  obtain ⟨i_275, i_276, xs_277, A_278, n_279, c_280, F_281, rfl, rfl, rfl, bd_286, bd_287, ok_288, hr_289, ln_290⟩ := open_Change ok hr
  have hbk : V.bulk (.agg [.int i_275, .int i_276, .list xs_277]) = V.bulk (.list xs_277) := by simp only [V.bulk, V.bulks] <;> omega
  have hB0 := Below.refl w.heap.size w
  refine enter (N := 12) Try.func78 rfl Try.ntmps78 rfl ?_
  refine w_seq ?_
  refine w_region ?_
  refine l_op wn (o_new (x_box (cs := [(Value.int .i64 i_275), (Value.int .i64 i_276), (Value.slice A_278 n_279 c_280)]) (et (v := (Value.agg #[(Value.int .i64 i_275), (Value.int .i64 i_276), (Value.slice A_278 n_279 c_280)])) rfl)) ?_)
  intro w_291 z_292 k_293 bx_294
  have hB_295 := below_next hB0 k_293 (by omega)
  refine l_op wn (o_val (x_assign ec) ?_)
  refine l_nil ?_
  refine w_seq ?_
  refine w_region ?_
  refine l_op wn (o_val (x_field (k := 0) (j := 2) Try.underlying114 rfl Try.sizeOf112 rfl (et (v := (Value.pointer (some ⟨w.heap.size, 0, none⟩))) rfl)) ?_)
  refine l_op wn (o_val (x_load (v := (Value.slice A_278 n_279 c_280)) Try.isAgg112 (et (v := (Value.pointer (some ⟨w.heap.size, 2, none⟩))) rfl) ((bx_294.cell 2).trans rfl)) ?_)
  refine l_op wn (o_val (x_move (et (v := (Value.int .i64 left)) rfl)) ?_)
  refine l_op wn (o_call (x_call Try.call92 ef (a2 (et (v := (Value.slice A_278 n_279 c_280)) rfl) (et (v := (Value.int .i64 left)) rfl))) (sz_EditS w_291 xs_277 A_278 n_279 c_280 _ left ok_288 (hr_289.below hB_295) (by omega) (by omega)) ?_)
  rintro _ w_296 ⟨r_297, rfl, er_298, k_299⟩
  refine ⟨_, rfl, ?_⟩
  have sc_300 := sz_cases er_298
  have hB_301 := below_next hB_295 k_299 (by omega)
  have z_302 := k_299.size
  have bx_303 := bx_294.below k_299
  refine l_op wn (o_val (x_assign (et (v := (Value.int .i64 r_297)) rfl)) ?_)
  refine l_nil ?_
  refine w_seq ?_
  refine w_seq ?_
  refine w_region ?_
  refine l_op wn (o_val (x_move (et (v := (Value.int .i64 r_297)) rfl)) ?_)
  by_cases h_304 : r_297 < 0
  · refine l_op wn (o_val (x_lss (r := true) (et (v := (Value.int .i64 r_297)) rfl) ec (dec_t h_304)) ?_)
    refine l_nil ?_
    refine w_if_t (et (v := (Value.bool true)) rfl) ?_
    refine w_seq ?_
    refine w_region ?_
    refine l_op wn (o_val (x_assign ec) ?_)
    refine l_nil ?_
    refine w_ret ?_
    exact ⟨_, r_tmp (v := (Value.int .i64 (-1))) Try.results78 rfl, _, rfl, sz_close (by omega), hB_301⟩
  refine l_op wn (o_val (x_lss (r := false) (et (v := (Value.int .i64 r_297)) rfl) ec (dec_f h_304)) ?_)
  refine l_nil ?_
  refine w_if_f (et (v := (Value.bool false)) rfl) ?_
  refine w_skip ?_
  refine w_seq ?_
  refine w_region ?_
  refine l_op wn (o_val (x_move (et (v := (Value.int .i64 r_297)) rfl)) ?_)
  refine l_op wn (o_val (x_assign (et (v := (Value.int .i64 r_297)) rfl)) ?_)
  refine l_nil ?_
  refine w_ret ?_
  exact ⟨_, r_tmp (v := (Value.int .i64 r_297)) Try.results78 rfl, _, rfl, sz_close (by omega), hB_301⟩

set_option maxHeartbeats 200000 in
theorem sz_ChangeS (w : World) (xs : List V) (A : Option Addr) (n c : Nat) (F : List Nat) (left : Int) (ok : Oks xs tChange) (hr : Rep w (.list xs) [.slice A n c] F) (h0 : 0 ≤ left) (h1 : left ≤ 1048576) : Calls Try.prog 50 #[.slice A n c, .int .i64 left] w (RetI w (· = szV (.list xs) left)) := by
  have hB0 := Below.refl w.heap.size w
  obtain ⟨ln, lc, lm⟩ := hr.len
  refine enter (N := 27) Try.func50 rfl Try.ntmps50 rfl ?_
  refine w_seq ?_
  refine w_region ?_
  refine l_op wn (o_val (x_assign ec) ?_)
  refine l_nil ?_
  refine w_seq ?_
  refine w_region ?_
  refine l_op wn (o_val (x_move (et (v := (Value.int .i64 left)) rfl)) ?_)
  refine l_op wn (o_val (x_move (et (v := (Value.slice A n c)) rfl)) ?_)
  refine l_op wn (o_val (x_len Try.underlying36 (et (v := (Value.slice A n c)) rfl)) ?_)
  refine l_op wn (o_val (x_sub (et (v := (Value.int .i64 left)) rfl) (et (v := (Value.int .i64 (n : Int))) rfl) (by omega)) ?_)
  refine l_op wn (o_val (x_assign (et (v := (Value.int .i64 (left - (n : Int)))) rfl)) ?_)
  refine l_nil ?_
  refine w_seq ?_
  refine w_seq ?_
  refine w_region ?_
  refine l_op wn (o_val (x_move (et (v := (Value.int .i64 (left - (n : Int)))) rfl)) ?_)
  by_cases h_305 : (left - (n : Int)) < 0
  · refine l_op wn (o_val (x_lss (r := true) (et (v := (Value.int .i64 (left - (n : Int)))) rfl) ec (dec_t h_305)) ?_)
    refine l_nil ?_
    refine w_if_t (et (v := (Value.bool true)) rfl) ?_
    refine w_seq ?_
    refine w_region ?_
    refine l_op wn (o_val (x_assign ec) ?_)
    refine l_nil ?_
    refine w_ret ?_
    exact ⟨_, r_tmp (v := (Value.int .i64 (-1))) Try.results50 rfl, _, rfl, sz_close (by have := bulk_list xs; (try have bs := bulks_step ‹xs[i]? = some _›); (try have ba := bulks_all (n := i) (xs := xs) (by omega)); omega), hB0⟩
  refine l_op wn (o_val (x_lss (r := false) (et (v := (Value.int .i64 (left - (n : Int)))) rfl) ec (dec_f h_305)) ?_)
  refine l_nil ?_
  refine w_if_f (et (v := (Value.bool false)) rfl) ?_
  refine w_skip ?_
  refine w_seq ?_
  refine w_seq ?_
  refine w_region ?_
  refine l_op wn (o_val (x_assign ec) ?_)
  refine l_nil ?_
  refine w_block ?_
  refine w_loop (fun μ f w' => ∃ (i : Nat), ∃ (l : Int), f 0 = (Value.slice A n c) ∧ f 5 = (Value.int .i64 (i : Int)) ∧ f 1 = (Value.int .i64 l) ∧ Below w.heap.size w w' ∧ (i ≤ n) ∧ (l = left - n - V.bulks (xs.take i)) ∧ (0 ≤ l) ∧ μ = n - i) (n - 0) ?_ ?_
  · exact ⟨0, left - (n : Int), rfl, vint (a := 0) (by omega), rfl, hB0, (by omega), (by simp [V.bulks]), (by omega), rfl⟩
  rintro m_308 f_306 w_307 ⟨i, l, hs_310, hs_311, hs_312, hB_309, hi, hl, hl0, rfl⟩
  have z_313 := hB_309.size
  refine w_seq ?_
  refine w_seq ?_
  refine w_region ?_
  refine l_op wn (o_val (x_move (et (v := (Value.int .i64 (i : Int))) hs_311)) ?_)
  refine l_op wn (o_val (x_move (et (v := (Value.slice A n c)) hs_310)) ?_)
  refine l_op wn (o_val (x_len Try.underlying36 (et (v := (Value.slice A n c)) rfl)) ?_)
  by_cases h_314 : (i : Int) < (n : Int)
  rotate_left
  · refine l_op wn (o_val (x_lss (r := false) (et (v := (Value.int .i64 (i : Int))) rfl) (et (v := (Value.int .i64 (n : Int))) rfl) (dec_f h_314)) ?_)
    refine l_nil ?_
    refine w_if_f (et (v := (Value.bool false)) rfl) ?_
    refine w_exit ?_
    refine Eq.mpr (if_pos rfl) ?_
    refine w_seq ?_
    refine w_region ?_
    refine l_op wn (o_val (x_move (et (v := (Value.int .i64 l)) hs_312)) ?_)
    refine l_op wn (o_val (x_assign (et (v := (Value.int .i64 l)) rfl)) ?_)
    refine l_nil ?_
    refine w_ret ?_
    exact ⟨_, r_tmp (v := (Value.int .i64 l)) Try.results50 rfl, _, rfl, sz_close (by have := bulk_list xs; (try have bs := bulks_step ‹xs[i]? = some _›); (try have ba := bulks_all (n := i) (xs := xs) (by omega)); omega), hB_309⟩
  refine l_op wn (o_val (x_lss (r := true) (et (v := (Value.int .i64 (i : Int))) rfl) (et (v := (Value.int .i64 (n : Int))) rfl) (dec_t h_314)) ?_)
  refine l_nil ?_
  refine w_if_t (et (v := (Value.bool true)) rfl) ?_
  refine w_skip ?_
  refine w_seq ?_
  refine w_block ?_
  refine w_seq ?_
  refine w_region ?_
  refine l_op wn (o_val (x_move (et (v := (Value.slice A n c)) hs_310)) ?_)
  refine l_op wn (o_val (x_move (et (v := (Value.int .i64 (i : Int))) hs_311)) ?_)
  obtain ⟨b_315, o_316, x_317, cs_318, G_319, hA_320, hbF_321, hlt_322, hx_323, hrx_324, hG_325, hl_326, hcl_327⟩ := hr.elem (k := 3) (fun y hy => wd_Change (ok.mem y hy)) (i := i) (by omega)
  obtain ⟨i_328, i_329, xs_330, A_331, n_332, c_333, F_334, rfl, rfl, rfl, bd_339, bd_340, ok_341, hr_342, ln_343⟩ := open_Change (ok.get hx_323) hrx_324
  refine l_op wn (o_val (x_index' (i := i) Try.underlying36 Try.sizeOf114 (et (v := (Value.slice A n c)) rfl) hA_320 (et (v := (Value.int .i64 (i : Int))) rfl) (by omega) (by omega)) ?_)
  refine l_op wn (o_val (x_loadN (cs := [(Value.int .i64 i_328), (Value.int .i64 i_329), (Value.slice A_331 n_332 c_333)]) Try.isAgg114 Try.sizeOf114 (et (v := (Value.pointer (some ⟨b_315, o_316 + i * 3, none⟩))) rfl) rfl ((hl_326.keep (hB_309.block _ hlt_322)))) ?_)
  refine l_op wn (o_val (x_move (et (v := (Value.int .i64 l)) hs_312)) ?_)
  have rr_348 := (ragg (rcons (rint (w := w_307) (n := i_328) bd_339) (rcons (rint (w := w_307) (n := i_329) bd_340) (rcons (hr_342.below hB_309) (rnil (w := w_307))))))
  refine l_op wn (o_call (x_call Try.call78 ef (a2 (et (v := (Value.agg #[(Value.int .i64 i_328), (Value.int .i64 i_329), (Value.slice A_331 n_332 c_333)])) rfl) (et (v := (Value.int .i64 l)) rfl))) (sz_Change w_307 (.agg [.int i_328, .int i_329, .list xs_330]) [(Value.int .i64 i_328), (Value.int .i64 i_329), (Value.slice A_331 n_332 c_333)] _ l (ok_agg rfl (okz_cons (ok_int rfl) (okz_cons (ok_int rfl) (okz_cons (ok_list rfl ok_341) okz_nil)))) rr_348 (by omega) (by omega)) ?_)
  rintro _ w_344 ⟨r_345, rfl, er_346, k_347⟩
  refine ⟨_, rfl, ?_⟩
  have sc_349 := sz_cases er_346
  have hB_350 := below_next hB_309 k_347 (by omega)
  have z_351 := k_347.size
  refine l_op wn (o_val (x_assign (et (v := (Value.int .i64 r_345)) rfl)) ?_)
  refine l_nil ?_
  refine w_seq ?_
  refine w_region ?_
  refine l_op wn (o_val (x_move (et (v := (Value.int .i64 r_345)) rfl)) ?_)
  by_cases h_352 : r_345 < 0
  · refine l_op wn (o_val (x_lss (r := true) (et (v := (Value.int .i64 r_345)) rfl) ec (dec_t h_352)) ?_)
    refine l_nil ?_
    refine w_if_t (et (v := (Value.bool true)) rfl) ?_
    refine w_seq ?_
    refine w_region ?_
    refine l_op wn (o_val (x_assign ec) ?_)
    refine l_nil ?_
    refine w_ret ?_
    exact ⟨_, r_tmp (v := (Value.int .i64 (-1))) Try.results50 rfl, _, rfl, sz_close (by have := bulk_list xs; (try have bs := bulks_step ‹xs[i]? = some _›); (try have ba := bulks_all (n := i) (xs := xs) (by omega)); omega), hB_350⟩
  refine l_op wn (o_val (x_lss (r := false) (et (v := (Value.int .i64 r_345)) rfl) ec (dec_f h_352)) ?_)
  refine l_nil ?_
  refine w_if_f (et (v := (Value.bool false)) rfl) ?_
  refine w_skip ?_
  refine w_region ?_
  refine l_op wn (o_val (x_move (et (v := (Value.int .i64 (i : Int))) hs_311)) ?_)
  refine l_op wn (o_val (x_add (et (v := (Value.int .i64 (i : Int))) rfl) ec (by omega)) ?_)
  refine l_op wn (o_val (x_assign (et (v := (Value.int .i64 ((i : Int) + 1))) rfl)) ?_)
  refine l_nil ?_
  have bs := bulks_step hx_323
  exact ⟨n - (i + 1), by omega, ⟨i + 1, r_345, hs_310, vint (a := ((i : Int) + 1)) (by omega), rfl, hB_350, (by omega), (by omega), (by omega), rfl⟩⟩

set_option maxHeartbeats 200000 in
theorem sz_Journal (w : World) (x : V) (cs : List Value) (F : List Nat) (left : Int) (ok : Ok x tJournal) (hr : Rep w x cs F) (h0 : 0 ≤ left) (h1 : left ≤ 1048576) : Calls Try.prog 19 #[.agg cs.toArray, .int .i64 left] w (RetI w (· = szV x left)) := by
  obtain ⟨xs_353, A_354, n_355, c_356, F_357, xs_359, A_360, n_361, c_362, F_363, rfl, rfl, rfl, ok_368, hr_369, ln_370, ok_371, hr_372, ln_373⟩ := open_Journal ok hr
  have hbk : V.bulk (.agg [.list xs_353, .list xs_359]) = V.bulk (.list xs_353) + V.bulk (.list xs_359) := by simp only [V.bulk, V.bulks] <;> omega
  have hB0 := Below.refl w.heap.size w
  refine enter (N := 18) Try.func19 rfl Try.ntmps19 rfl ?_
  refine w_seq ?_
  refine w_region ?_
  refine l_op wn (o_new (x_box (cs := [(Value.slice A_354 n_355 c_356), (Value.slice A_360 n_361 c_362)]) (et (v := (Value.agg #[(Value.slice A_354 n_355 c_356), (Value.slice A_360 n_361 c_362)])) rfl)) ?_)
  intro w_374 z_375 k_376 bx_377
  have hB_378 := below_next hB0 k_376 (by omega)
  refine l_op wn (o_val (x_assign ec) ?_)
  refine l_nil ?_
  refine w_seq ?_
  refine w_region ?_
  refine l_op wn (o_val (x_field (k := 0) (j := 0) Try.underlying38 rfl Try.sizeOf35 rfl (et (v := (Value.pointer (some ⟨w.heap.size, 0, none⟩))) rfl)) ?_)
  refine l_op wn (o_val (x_load (v := (Value.slice A_354 n_355 c_356)) Try.isAgg35 (et (v := (Value.pointer (some ⟨w.heap.size, 0, none⟩))) rfl) ((bx_377.cell 0).trans rfl)) ?_)
  refine l_op wn (o_val (x_move (et (v := (Value.int .i64 left)) rfl)) ?_)
  refine l_op wn (o_call (x_call Try.call24 ef (a2 (et (v := (Value.slice A_354 n_355 c_356)) rfl) (et (v := (Value.int .i64 left)) rfl))) (sz_NodeS w_374 xs_353 A_354 n_355 c_356 _ left ok_368 (hr_369.below hB_378) (by omega) (by omega)) ?_)
  rintro _ w_379 ⟨r_380, rfl, er_381, k_382⟩
  refine ⟨_, rfl, ?_⟩
  have sc_383 := sz_cases er_381
  have hB_384 := below_next hB_378 k_382 (by omega)
  have z_385 := k_382.size
  have bx_386 := bx_377.below k_382
  refine l_op wn (o_val (x_assign (et (v := (Value.int .i64 r_380)) rfl)) ?_)
  refine l_nil ?_
  refine w_seq ?_
  refine w_seq ?_
  refine w_region ?_
  refine l_op wn (o_val (x_move (et (v := (Value.int .i64 r_380)) rfl)) ?_)
  by_cases h_387 : r_380 < 0
  · refine l_op wn (o_val (x_lss (r := true) (et (v := (Value.int .i64 r_380)) rfl) ec (dec_t h_387)) ?_)
    refine l_nil ?_
    refine w_if_t (et (v := (Value.bool true)) rfl) ?_
    refine w_seq ?_
    refine w_region ?_
    refine l_op wn (o_val (x_assign ec) ?_)
    refine l_nil ?_
    refine w_ret ?_
    exact ⟨_, r_tmp (v := (Value.int .i64 (-1))) Try.results19 rfl, _, rfl, sz_close (by omega), hB_384⟩
  refine l_op wn (o_val (x_lss (r := false) (et (v := (Value.int .i64 r_380)) rfl) ec (dec_f h_387)) ?_)
  refine l_nil ?_
  refine w_if_f (et (v := (Value.bool false)) rfl) ?_
  refine w_skip ?_
  refine w_seq ?_
  refine w_region ?_
  refine l_op wn (o_val (x_field (k := 0) (j := 1) Try.underlying38 rfl Try.sizeOf36 rfl (et (v := (Value.pointer (some ⟨w.heap.size, 0, none⟩))) rfl)) ?_)
  refine l_op wn (o_val (x_load (v := (Value.slice A_360 n_361 c_362)) Try.isAgg36 (et (v := (Value.pointer (some ⟨w.heap.size, 1, none⟩))) rfl) ((bx_386.cell 1).trans rfl)) ?_)
  refine l_op wn (o_val (x_move (et (v := (Value.int .i64 r_380)) rfl)) ?_)
  refine l_op wn (o_call (x_call Try.call50 ef (a2 (et (v := (Value.slice A_360 n_361 c_362)) rfl) (et (v := (Value.int .i64 r_380)) rfl))) (sz_ChangeS w_379 xs_359 A_360 n_361 c_362 _ r_380 ok_371 (hr_372.below hB_384) (by omega) (by omega)) ?_)
  rintro _ w_388 ⟨r_389, rfl, er_390, k_391⟩
  refine ⟨_, rfl, ?_⟩
  have sc_392 := sz_cases er_390
  have hB_393 := below_next hB_384 k_391 (by omega)
  have z_394 := k_391.size
  have bx_395 := bx_386.below k_391
  refine l_op wn (o_val (x_assign (et (v := (Value.int .i64 r_389)) rfl)) ?_)
  refine l_nil ?_
  refine w_seq ?_
  refine w_seq ?_
  refine w_region ?_
  refine l_op wn (o_val (x_move (et (v := (Value.int .i64 r_389)) rfl)) ?_)
  by_cases h_396 : r_389 < 0
  · refine l_op wn (o_val (x_lss (r := true) (et (v := (Value.int .i64 r_389)) rfl) ec (dec_t h_396)) ?_)
    refine l_nil ?_
    refine w_if_t (et (v := (Value.bool true)) rfl) ?_
    refine w_seq ?_
    refine w_region ?_
    refine l_op wn (o_val (x_assign ec) ?_)
    refine l_nil ?_
    refine w_ret ?_
    exact ⟨_, r_tmp (v := (Value.int .i64 (-1))) Try.results19 rfl, _, rfl, sz_close (by omega), hB_393⟩
  refine l_op wn (o_val (x_lss (r := false) (et (v := (Value.int .i64 r_389)) rfl) ec (dec_f h_396)) ?_)
  refine l_nil ?_
  refine w_if_f (et (v := (Value.bool false)) rfl) ?_
  refine w_skip ?_
  refine w_seq ?_
  refine w_region ?_
  refine l_op wn (o_val (x_move (et (v := (Value.int .i64 r_389)) rfl)) ?_)
  refine l_op wn (o_val (x_assign (et (v := (Value.int .i64 r_389)) rfl)) ?_)
  refine l_nil ?_
  refine w_ret ?_
  exact ⟨_, r_tmp (v := (Value.int .i64 r_389)) Try.results19 rfl, _, rfl, sz_close (by omega), hB_393⟩

set_option maxHeartbeats 200000 in
theorem sz_RangeS (w : World) (xs : List V) (A : Option Addr) (n c : Nat) (F : List Nat) (left : Int) (ok : Oks xs tRange) (hr : Rep w (.list xs) [.slice A n c] F) (h0 : 0 ≤ left) (h1 : left ≤ 1048576) : Calls Try.prog 104 #[.slice A n c, .int .i64 left] w (RetI w (· = szV (.list xs) left)) := by
  have hB0 := Below.refl w.heap.size w
  obtain ⟨ln, lc, lm⟩ := hr.len
  refine enter (N := 12) Try.func104 rfl Try.ntmps104 rfl ?_
  refine w_seq ?_
  refine w_region ?_
  refine l_op wn (o_val (x_assign ec) ?_)
  refine l_nil ?_
  refine w_seq ?_
  refine w_region ?_
  refine l_op wn (o_val (x_move (et (v := (Value.int .i64 left)) rfl)) ?_)
  refine l_op wn (o_val (x_move (et (v := (Value.slice A n c)) rfl)) ?_)
  refine l_op wn (o_val (x_len Try.underlying121 (et (v := (Value.slice A n c)) rfl)) ?_)
  refine l_op wn (o_val (x_sub (et (v := (Value.int .i64 left)) rfl) (et (v := (Value.int .i64 (n : Int))) rfl) (by omega)) ?_)
  refine l_op wn (o_val (x_assign (et (v := (Value.int .i64 (left - (n : Int)))) rfl)) ?_)
  refine l_nil ?_
  refine w_seq ?_
  refine w_seq ?_
  refine w_region ?_
  refine l_op wn (o_val (x_move (et (v := (Value.int .i64 (left - (n : Int)))) rfl)) ?_)
  by_cases h_397 : (left - (n : Int)) < 0
  · refine l_op wn (o_val (x_lss (r := true) (et (v := (Value.int .i64 (left - (n : Int)))) rfl) ec (dec_t h_397)) ?_)
    refine l_nil ?_
    refine w_if_t (et (v := (Value.bool true)) rfl) ?_
    refine w_seq ?_
    refine w_region ?_
    refine l_op wn (o_val (x_assign ec) ?_)
    refine l_nil ?_
    refine w_ret ?_
    exact ⟨_, r_tmp (v := (Value.int .i64 (-1))) Try.results104 rfl, _, rfl, sz_close (by have := bulk_list xs; have := bulk_range ok; omega), hB0⟩
  refine l_op wn (o_val (x_lss (r := false) (et (v := (Value.int .i64 (left - (n : Int)))) rfl) ec (dec_f h_397)) ?_)
  refine l_nil ?_
  refine w_if_f (et (v := (Value.bool false)) rfl) ?_
  refine w_skip ?_
  refine w_seq ?_
  refine w_region ?_
  refine l_op wn (o_val (x_move (et (v := (Value.int .i64 (left - (n : Int)))) rfl)) ?_)
  refine l_op wn (o_val (x_assign (et (v := (Value.int .i64 (left - (n : Int)))) rfl)) ?_)
  refine l_nil ?_
  refine w_ret ?_
  exact ⟨_, r_tmp (v := (Value.int .i64 (left - (n : Int)))) Try.results104 rfl, _, rfl, sz_close (by have := bulk_list xs; have := bulk_range ok; omega), hB0⟩

set_option maxHeartbeats 200000 in
theorem sz_Type (w : World) (x : V) (cs : List Value) (F : List Nat) (left : Int) (ok : Ok x tType) (hr : Rep w x cs F) (h0 : 0 ≤ left) (h1 : left ≤ 1048576) : Calls Try.prog 95 #[.agg cs.toArray, .int .i64 left] w (RetI w (· = szV x left)) := by
  obtain ⟨i_398, xs_399, A_400, n_401, c_402, F_403, xs_405, A_406, n_407, c_408, F_409, s_411, s_412, rfl, rfl, rfl, bd_416, ok_417, hr_418, ln_419, ok_420, hr_421, ln_422, bd_423, bd_424⟩ := open_Type ok hr
  have hbk : V.bulk (.agg [.int i_398, .list xs_399, .list xs_405, .str s_411, .str s_412]) = V.bulk (.list xs_399) + V.bulk (.list xs_405) + s_411.size + s_412.size := by simp only [V.bulk, V.bulks] <;> omega
  have hB0 := Below.refl w.heap.size w
  refine enter (N := 32) Try.func95 rfl Try.ntmps95 rfl ?_
  refine w_seq ?_
  refine w_region ?_
  refine l_op wn (o_new (x_box (cs := [(Value.int .i64 i_398), (Value.slice A_400 n_401 c_402), (Value.slice A_406 n_407 c_408), (Value.string s_411), (Value.string s_412)]) (et (v := (Value.agg #[(Value.int .i64 i_398), (Value.slice A_400 n_401 c_402), (Value.slice A_406 n_407 c_408), (Value.string s_411), (Value.string s_412)])) rfl)) ?_)
  intro w_425 z_426 k_427 bx_428
  have hB_429 := below_next hB0 k_427 (by omega)
  refine l_op wn (o_val (x_assign ec) ?_)
  refine l_nil ?_
  refine w_seq ?_
  refine w_region ?_
  refine l_op wn (o_val (x_field (k := 0) (j := 1) Try.underlying123 rfl Try.sizeOf121 rfl (et (v := (Value.pointer (some ⟨w.heap.size, 0, none⟩))) rfl)) ?_)
  refine l_op wn (o_val (x_load (v := (Value.slice A_400 n_401 c_402)) Try.isAgg121 (et (v := (Value.pointer (some ⟨w.heap.size, 1, none⟩))) rfl) ((bx_428.cell 1).trans rfl)) ?_)
  refine l_op wn (o_val (x_move (et (v := (Value.int .i64 left)) rfl)) ?_)
  refine l_op wn (o_call (x_call Try.call104 ef (a2 (et (v := (Value.slice A_400 n_401 c_402)) rfl) (et (v := (Value.int .i64 left)) rfl))) (sz_RangeS w_425 xs_399 A_400 n_401 c_402 _ left ok_417 (hr_418.below hB_429) (by omega) (by omega)) ?_)
  rintro _ w_430 ⟨r_431, rfl, er_432, k_433⟩
  refine ⟨_, rfl, ?_⟩
  have sc_434 := sz_cases er_432
  have hB_435 := below_next hB_429 k_433 (by omega)
  have z_436 := k_433.size
  have bx_437 := bx_428.below k_433
  refine l_op wn (o_val (x_assign (et (v := (Value.int .i64 r_431)) rfl)) ?_)
  refine l_nil ?_
  refine w_seq ?_
  refine w_seq ?_
  refine w_region ?_
  refine l_op wn (o_val (x_move (et (v := (Value.int .i64 r_431)) rfl)) ?_)
  by_cases h_438 : r_431 < 0
  · refine l_op wn (o_val (x_lss (r := true) (et (v := (Value.int .i64 r_431)) rfl) ec (dec_t h_438)) ?_)
    refine l_nil ?_
    refine w_if_t (et (v := (Value.bool true)) rfl) ?_
    refine w_seq ?_
    refine w_region ?_
    refine l_op wn (o_val (x_assign ec) ?_)
    refine l_nil ?_
    refine w_ret ?_
    exact ⟨_, r_tmp (v := (Value.int .i64 (-1))) Try.results95 rfl, _, rfl, sz_close (by omega), hB_435⟩
  refine l_op wn (o_val (x_lss (r := false) (et (v := (Value.int .i64 r_431)) rfl) ec (dec_f h_438)) ?_)
  refine l_nil ?_
  refine w_if_f (et (v := (Value.bool false)) rfl) ?_
  refine w_skip ?_
  refine w_seq ?_
  refine w_region ?_
  refine l_op wn (o_val (x_field (k := 0) (j := 2) Try.underlying123 rfl Try.sizeOf29 rfl (et (v := (Value.pointer (some ⟨w.heap.size, 0, none⟩))) rfl)) ?_)
  refine l_op wn (o_val (x_load (v := (Value.slice A_406 n_407 c_408)) Try.isAgg29 (et (v := (Value.pointer (some ⟨w.heap.size, 2, none⟩))) rfl) ((bx_437.cell 2).trans rfl)) ?_)
  refine l_op wn (o_val (x_move (et (v := (Value.int .i64 r_431)) rfl)) ?_)
  refine l_op wn (o_call (x_call Try.call14 ef (a2 (et (v := (Value.slice A_406 n_407 c_408)) rfl) (et (v := (Value.int .i64 r_431)) rfl))) (sz_StrS w_430 xs_405 A_406 n_407 c_408 _ r_431 ok_420 (hr_421.below hB_435) (by omega) (by omega)) ?_)
  rintro _ w_439 ⟨r_440, rfl, er_441, k_442⟩
  refine ⟨_, rfl, ?_⟩
  have sc_443 := sz_cases er_441
  have hB_444 := below_next hB_435 k_442 (by omega)
  have z_445 := k_442.size
  have bx_446 := bx_437.below k_442
  refine l_op wn (o_val (x_assign (et (v := (Value.int .i64 r_440)) rfl)) ?_)
  refine l_nil ?_
  refine w_seq ?_
  refine w_seq ?_
  refine w_region ?_
  refine l_op wn (o_val (x_move (et (v := (Value.int .i64 r_440)) rfl)) ?_)
  by_cases h_447 : r_440 < 0
  · refine l_op wn (o_val (x_lss (r := true) (et (v := (Value.int .i64 r_440)) rfl) ec (dec_t h_447)) ?_)
    refine l_nil ?_
    refine w_if_t (et (v := (Value.bool true)) rfl) ?_
    refine w_seq ?_
    refine w_region ?_
    refine l_op wn (o_val (x_assign ec) ?_)
    refine l_nil ?_
    refine w_ret ?_
    exact ⟨_, r_tmp (v := (Value.int .i64 (-1))) Try.results95 rfl, _, rfl, sz_close (by omega), hB_444⟩
  refine l_op wn (o_val (x_lss (r := false) (et (v := (Value.int .i64 r_440)) rfl) ec (dec_f h_447)) ?_)
  refine l_nil ?_
  refine w_if_f (et (v := (Value.bool false)) rfl) ?_
  refine w_skip ?_
  refine w_seq ?_
  refine w_region ?_
  refine l_op wn (o_val (x_move (et (v := (Value.int .i64 r_440)) rfl)) ?_)
  refine l_op wn (o_val (x_field (k := 0) (j := 3) Try.underlying123 rfl Try.sizeOf9 rfl (et (v := (Value.pointer (some ⟨w.heap.size, 0, none⟩))) rfl)) ?_)
  refine l_op wn (o_val (x_load (v := (Value.string s_411)) Try.isAgg9 (et (v := (Value.pointer (some ⟨w.heap.size, 3, none⟩))) rfl) ((bx_446.cell 3).trans rfl)) ?_)
  refine l_op wn (o_val (x_slen Try.underlying9 (et (v := (Value.string s_411)) rfl)) ?_)
  refine l_op wn (o_val (x_sub (et (v := (Value.int .i64 r_440)) rfl) (et (v := (Value.int .i64 (s_411.size : Int))) rfl) (by omega)) ?_)
  refine l_op wn (o_val (x_assign (et (v := (Value.int .i64 (r_440 - (s_411.size : Int)))) rfl)) ?_)
  refine l_nil ?_
  refine w_seq ?_
  refine w_seq ?_
  refine w_region ?_
  refine l_op wn (o_val (x_move (et (v := (Value.int .i64 (r_440 - (s_411.size : Int)))) rfl)) ?_)
  by_cases h_448 : (r_440 - (s_411.size : Int)) < 0
  · refine l_op wn (o_val (x_lss (r := true) (et (v := (Value.int .i64 (r_440 - (s_411.size : Int)))) rfl) ec (dec_t h_448)) ?_)
    refine l_nil ?_
    refine w_if_t (et (v := (Value.bool true)) rfl) ?_
    refine w_seq ?_
    refine w_region ?_
    refine l_op wn (o_val (x_assign ec) ?_)
    refine l_nil ?_
    refine w_ret ?_
    exact ⟨_, r_tmp (v := (Value.int .i64 (-1))) Try.results95 rfl, _, rfl, sz_close (by omega), hB_444⟩
  refine l_op wn (o_val (x_lss (r := false) (et (v := (Value.int .i64 (r_440 - (s_411.size : Int)))) rfl) ec (dec_f h_448)) ?_)
  refine l_nil ?_
  refine w_if_f (et (v := (Value.bool false)) rfl) ?_
  refine w_skip ?_
  refine w_seq ?_
  refine w_region ?_
  refine l_op wn (o_val (x_move (et (v := (Value.int .i64 (r_440 - (s_411.size : Int)))) rfl)) ?_)
  refine l_op wn (o_val (x_field (k := 0) (j := 4) Try.underlying123 rfl Try.sizeOf9 rfl (et (v := (Value.pointer (some ⟨w.heap.size, 0, none⟩))) rfl)) ?_)
  refine l_op wn (o_val (x_load (v := (Value.string s_412)) Try.isAgg9 (et (v := (Value.pointer (some ⟨w.heap.size, 4, none⟩))) rfl) ((bx_446.cell 4).trans rfl)) ?_)
  refine l_op wn (o_val (x_slen Try.underlying9 (et (v := (Value.string s_412)) rfl)) ?_)
  refine l_op wn (o_val (x_sub (et (v := (Value.int .i64 (r_440 - (s_411.size : Int)))) rfl) (et (v := (Value.int .i64 (s_412.size : Int))) rfl) (by omega)) ?_)
  refine l_op wn (o_val (x_assign (et (v := (Value.int .i64 ((r_440 - (s_411.size : Int)) - (s_412.size : Int)))) rfl)) ?_)
  refine l_nil ?_
  refine w_seq ?_
  refine w_seq ?_
  refine w_region ?_
  refine l_op wn (o_val (x_move (et (v := (Value.int .i64 ((r_440 - (s_411.size : Int)) - (s_412.size : Int)))) rfl)) ?_)
  by_cases h_449 : ((r_440 - (s_411.size : Int)) - (s_412.size : Int)) < 0
  · refine l_op wn (o_val (x_lss (r := true) (et (v := (Value.int .i64 ((r_440 - (s_411.size : Int)) - (s_412.size : Int)))) rfl) ec (dec_t h_449)) ?_)
    refine l_nil ?_
    refine w_if_t (et (v := (Value.bool true)) rfl) ?_
    refine w_seq ?_
    refine w_region ?_
    refine l_op wn (o_val (x_assign ec) ?_)
    refine l_nil ?_
    refine w_ret ?_
    exact ⟨_, r_tmp (v := (Value.int .i64 (-1))) Try.results95 rfl, _, rfl, sz_close (by omega), hB_444⟩
  refine l_op wn (o_val (x_lss (r := false) (et (v := (Value.int .i64 ((r_440 - (s_411.size : Int)) - (s_412.size : Int)))) rfl) ec (dec_f h_449)) ?_)
  refine l_nil ?_
  refine w_if_f (et (v := (Value.bool false)) rfl) ?_
  refine w_skip ?_
  refine w_seq ?_
  refine w_region ?_
  refine l_op wn (o_val (x_move (et (v := (Value.int .i64 ((r_440 - (s_411.size : Int)) - (s_412.size : Int)))) rfl)) ?_)
  refine l_op wn (o_val (x_assign (et (v := (Value.int .i64 ((r_440 - (s_411.size : Int)) - (s_412.size : Int)))) rfl)) ?_)
  refine l_nil ?_
  refine w_ret ?_
  exact ⟨_, r_tmp (v := (Value.int .i64 ((r_440 - (s_411.size : Int)) - (s_412.size : Int)))) Try.results95 rfl, _, rfl, sz_close (by omega), hB_444⟩

set_option maxHeartbeats 200000 in
theorem sz_Test (w : World) (x : V) (cs : List Value) (F : List Nat) (left : Int) (ok : Ok x tTest) (hr : Rep w x cs F) (h0 : 0 ≤ left) (h1 : left ≤ 1048576) : Calls Try.prog 124 #[.agg cs.toArray, .int .i64 left] w (RetI w (· = szV x left)) := by
  obtain ⟨s_450, s_451, rfl, rfl, rfl, bd_455, bd_456⟩ := open_Test ok hr
  have hbk : V.bulk (.agg [.str s_450, .str s_451]) = s_450.size + s_451.size := by simp only [V.bulk, V.bulks] <;> omega
  have hB0 := Below.refl w.heap.size w
  refine enter (N := 20) Try.func124 rfl Try.ntmps124 rfl ?_
  refine w_seq ?_
  refine w_region ?_
  refine l_op wn (o_new (x_box (cs := [(Value.string s_450), (Value.string s_451)]) (et (v := (Value.agg #[(Value.string s_450), (Value.string s_451)])) rfl)) ?_)
  intro w_457 z_458 k_459 bx_460
  have hB_461 := below_next hB0 k_459 (by omega)
  refine l_op wn (o_val (x_assign ec) ?_)
  refine l_nil ?_
  refine w_seq ?_
  refine w_region ?_
  refine l_op wn (o_val (x_move (et (v := (Value.int .i64 left)) rfl)) ?_)
  refine l_op wn (o_val (x_field (k := 0) (j := 0) Try.underlying199 rfl Try.sizeOf9 rfl (et (v := (Value.pointer (some ⟨w.heap.size, 0, none⟩))) rfl)) ?_)
  refine l_op wn (o_val (x_load (v := (Value.string s_450)) Try.isAgg9 (et (v := (Value.pointer (some ⟨w.heap.size, 0, none⟩))) rfl) ((bx_460.cell 0).trans rfl)) ?_)
  refine l_op wn (o_val (x_slen Try.underlying9 (et (v := (Value.string s_450)) rfl)) ?_)
  refine l_op wn (o_val (x_sub (et (v := (Value.int .i64 left)) rfl) (et (v := (Value.int .i64 (s_450.size : Int))) rfl) (by omega)) ?_)
  refine l_op wn (o_val (x_assign (et (v := (Value.int .i64 (left - (s_450.size : Int)))) rfl)) ?_)
  refine l_nil ?_
  refine w_seq ?_
  refine w_seq ?_
  refine w_region ?_
  refine l_op wn (o_val (x_move (et (v := (Value.int .i64 (left - (s_450.size : Int)))) rfl)) ?_)
  by_cases h_462 : (left - (s_450.size : Int)) < 0
  · refine l_op wn (o_val (x_lss (r := true) (et (v := (Value.int .i64 (left - (s_450.size : Int)))) rfl) ec (dec_t h_462)) ?_)
    refine l_nil ?_
    refine w_if_t (et (v := (Value.bool true)) rfl) ?_
    refine w_seq ?_
    refine w_region ?_
    refine l_op wn (o_val (x_assign ec) ?_)
    refine l_nil ?_
    refine w_ret ?_
    exact ⟨_, r_tmp (v := (Value.int .i64 (-1))) Try.results124 rfl, _, rfl, sz_close (by omega), hB_461⟩
  refine l_op wn (o_val (x_lss (r := false) (et (v := (Value.int .i64 (left - (s_450.size : Int)))) rfl) ec (dec_f h_462)) ?_)
  refine l_nil ?_
  refine w_if_f (et (v := (Value.bool false)) rfl) ?_
  refine w_skip ?_
  refine w_seq ?_
  refine w_region ?_
  refine l_op wn (o_val (x_move (et (v := (Value.int .i64 (left - (s_450.size : Int)))) rfl)) ?_)
  refine l_op wn (o_val (x_field (k := 0) (j := 1) Try.underlying199 rfl Try.sizeOf9 rfl (et (v := (Value.pointer (some ⟨w.heap.size, 0, none⟩))) rfl)) ?_)
  refine l_op wn (o_val (x_load (v := (Value.string s_451)) Try.isAgg9 (et (v := (Value.pointer (some ⟨w.heap.size, 1, none⟩))) rfl) ((bx_460.cell 1).trans rfl)) ?_)
  refine l_op wn (o_val (x_slen Try.underlying9 (et (v := (Value.string s_451)) rfl)) ?_)
  refine l_op wn (o_val (x_sub (et (v := (Value.int .i64 (left - (s_450.size : Int)))) rfl) (et (v := (Value.int .i64 (s_451.size : Int))) rfl) (by omega)) ?_)
  refine l_op wn (o_val (x_assign (et (v := (Value.int .i64 ((left - (s_450.size : Int)) - (s_451.size : Int)))) rfl)) ?_)
  refine l_nil ?_
  refine w_seq ?_
  refine w_seq ?_
  refine w_region ?_
  refine l_op wn (o_val (x_move (et (v := (Value.int .i64 ((left - (s_450.size : Int)) - (s_451.size : Int)))) rfl)) ?_)
  by_cases h_463 : ((left - (s_450.size : Int)) - (s_451.size : Int)) < 0
  · refine l_op wn (o_val (x_lss (r := true) (et (v := (Value.int .i64 ((left - (s_450.size : Int)) - (s_451.size : Int)))) rfl) ec (dec_t h_463)) ?_)
    refine l_nil ?_
    refine w_if_t (et (v := (Value.bool true)) rfl) ?_
    refine w_seq ?_
    refine w_region ?_
    refine l_op wn (o_val (x_assign ec) ?_)
    refine l_nil ?_
    refine w_ret ?_
    exact ⟨_, r_tmp (v := (Value.int .i64 (-1))) Try.results124 rfl, _, rfl, sz_close (by omega), hB_461⟩
  refine l_op wn (o_val (x_lss (r := false) (et (v := (Value.int .i64 ((left - (s_450.size : Int)) - (s_451.size : Int)))) rfl) ec (dec_f h_463)) ?_)
  refine l_nil ?_
  refine w_if_f (et (v := (Value.bool false)) rfl) ?_
  refine w_skip ?_
  refine w_seq ?_
  refine w_region ?_
  refine l_op wn (o_val (x_move (et (v := (Value.int .i64 ((left - (s_450.size : Int)) - (s_451.size : Int)))) rfl)) ?_)
  refine l_op wn (o_val (x_assign (et (v := (Value.int .i64 ((left - (s_450.size : Int)) - (s_451.size : Int)))) rfl)) ?_)
  refine l_nil ?_
  refine w_ret ?_
  exact ⟨_, r_tmp (v := (Value.int .i64 ((left - (s_450.size : Int)) - (s_451.size : Int)))) Try.results124 rfl, _, rfl, sz_close (by omega), hB_461⟩

set_option maxHeartbeats 200000 in
theorem sz_TestS (w : World) (xs : List V) (A : Option Addr) (n c : Nat) (F : List Nat) (left : Int) (ok : Oks xs tTest) (hr : Rep w (.list xs) [.slice A n c] F) (h0 : 0 ≤ left) (h1 : left ≤ 1048576) : Calls Try.prog 121 #[.slice A n c, .int .i64 left] w (RetI w (· = szV (.list xs) left)) := by
  have hB0 := Below.refl w.heap.size w
  obtain ⟨ln, lc, lm⟩ := hr.len
  refine enter (N := 27) Try.func121 rfl Try.ntmps121 rfl ?_
  refine w_seq ?_
  refine w_region ?_
  refine l_op wn (o_val (x_assign ec) ?_)
  refine l_nil ?_
  refine w_seq ?_
  refine w_region ?_
  refine l_op wn (o_val (x_move (et (v := (Value.int .i64 left)) rfl)) ?_)
  refine l_op wn (o_val (x_move (et (v := (Value.slice A n c)) rfl)) ?_)
  refine l_op wn (o_val (x_len Try.underlying186 (et (v := (Value.slice A n c)) rfl)) ?_)
  refine l_op wn (o_val (x_sub (et (v := (Value.int .i64 left)) rfl) (et (v := (Value.int .i64 (n : Int))) rfl) (by omega)) ?_)
  refine l_op wn (o_val (x_assign (et (v := (Value.int .i64 (left - (n : Int)))) rfl)) ?_)
  refine l_nil ?_
  refine w_seq ?_
  refine w_seq ?_
  refine w_region ?_
  refine l_op wn (o_val (x_move (et (v := (Value.int .i64 (left - (n : Int)))) rfl)) ?_)
  by_cases h_464 : (left - (n : Int)) < 0
  · refine l_op wn (o_val (x_lss (r := true) (et (v := (Value.int .i64 (left - (n : Int)))) rfl) ec (dec_t h_464)) ?_)
    refine l_nil ?_
    refine w_if_t (et (v := (Value.bool true)) rfl) ?_
    refine w_seq ?_
    refine w_region ?_
    refine l_op wn (o_val (x_assign ec) ?_)
    refine l_nil ?_
    refine w_ret ?_
    exact ⟨_, r_tmp (v := (Value.int .i64 (-1))) Try.results121 rfl, _, rfl, sz_close (by have := bulk_list xs; (try have bs := bulks_step ‹xs[i]? = some _›); (try have ba := bulks_all (n := i) (xs := xs) (by omega)); omega), hB0⟩
  refine l_op wn (o_val (x_lss (r := false) (et (v := (Value.int .i64 (left - (n : Int)))) rfl) ec (dec_f h_464)) ?_)
  refine l_nil ?_
  refine w_if_f (et (v := (Value.bool false)) rfl) ?_
  refine w_skip ?_
  refine w_seq ?_
  refine w_seq ?_
  refine w_region ?_
  refine l_op wn (o_val (x_assign ec) ?_)
  refine l_nil ?_
  refine w_block ?_
  refine w_loop (fun μ f w' => ∃ (i : Nat), ∃ (l : Int), f 0 = (Value.slice A n c) ∧ f 5 = (Value.int .i64 (i : Int)) ∧ f 1 = (Value.int .i64 l) ∧ Below w.heap.size w w' ∧ (i ≤ n) ∧ (l = left - n - V.bulks (xs.take i)) ∧ (0 ≤ l) ∧ μ = n - i) (n - 0) ?_ ?_
  · exact ⟨0, left - (n : Int), rfl, vint (a := 0) (by omega), rfl, hB0, (by omega), (by simp [V.bulks]), (by omega), rfl⟩
  rintro m_467 f_465 w_466 ⟨i, l, hs_469, hs_470, hs_471, hB_468, hi, hl, hl0, rfl⟩
  have z_472 := hB_468.size
  refine w_seq ?_
  refine w_seq ?_
  refine w_region ?_
  refine l_op wn (o_val (x_move (et (v := (Value.int .i64 (i : Int))) hs_470)) ?_)
  refine l_op wn (o_val (x_move (et (v := (Value.slice A n c)) hs_469)) ?_)
  refine l_op wn (o_val (x_len Try.underlying186 (et (v := (Value.slice A n c)) rfl)) ?_)
  by_cases h_473 : (i : Int) < (n : Int)
  rotate_left
  · refine l_op wn (o_val (x_lss (r := false) (et (v := (Value.int .i64 (i : Int))) rfl) (et (v := (Value.int .i64 (n : Int))) rfl) (dec_f h_473)) ?_)
    refine l_nil ?_
    refine w_if_f (et (v := (Value.bool false)) rfl) ?_
    refine w_exit ?_
    refine Eq.mpr (if_pos rfl) ?_
    refine w_seq ?_
    refine w_region ?_
    refine l_op wn (o_val (x_move (et (v := (Value.int .i64 l)) hs_471)) ?_)
    refine l_op wn (o_val (x_assign (et (v := (Value.int .i64 l)) rfl)) ?_)
    refine l_nil ?_
    refine w_ret ?_
    exact ⟨_, r_tmp (v := (Value.int .i64 l)) Try.results121 rfl, _, rfl, sz_close (by have := bulk_list xs; (try have bs := bulks_step ‹xs[i]? = some _›); (try have ba := bulks_all (n := i) (xs := xs) (by omega)); omega), hB_468⟩
  refine l_op wn (o_val (x_lss (r := true) (et (v := (Value.int .i64 (i : Int))) rfl) (et (v := (Value.int .i64 (n : Int))) rfl) (dec_t h_473)) ?_)
  refine l_nil ?_
  refine w_if_t (et (v := (Value.bool true)) rfl) ?_
  refine w_skip ?_
  refine w_seq ?_
  refine w_block ?_
  refine w_seq ?_
  refine w_region ?_
  refine l_op wn (o_val (x_move (et (v := (Value.slice A n c)) hs_469)) ?_)
  refine l_op wn (o_val (x_move (et (v := (Value.int .i64 (i : Int))) hs_470)) ?_)
  obtain ⟨b_474, o_475, x_476, cs_477, G_478, hA_479, hbF_480, hlt_481, hx_482, hrx_483, hG_484, hl_485, hcl_486⟩ := hr.elem (k := 2) (fun y hy => wd_Test (ok.mem y hy)) (i := i) (by omega)
  obtain ⟨s_487, s_488, rfl, rfl, rfl, bd_492, bd_493⟩ := open_Test (ok.get hx_482) hrx_483
  refine l_op wn (o_val (x_index' (i := i) Try.underlying186 Try.sizeOf199 (et (v := (Value.slice A n c)) rfl) hA_479 (et (v := (Value.int .i64 (i : Int))) rfl) (by omega) (by omega)) ?_)
  refine l_op wn (o_val (x_loadN (cs := [(Value.string s_487), (Value.string s_488)]) Try.isAgg199 Try.sizeOf199 (et (v := (Value.pointer (some ⟨b_474, o_475 + i * 2, none⟩))) rfl) rfl ((hl_485.keep (hB_468.block _ hlt_481)))) ?_)
  refine l_op wn (o_val (x_move (et (v := (Value.int .i64 l)) hs_471)) ?_)
  have rr_498 := (ragg (rcons (rstr (w := w_466) (n := s_487) bd_492) (rcons (rstr (w := w_466) (n := s_488) bd_493) (rnil (w := w_466)))))
  refine l_op wn (o_call (x_call Try.call124 ef (a2 (et (v := (Value.agg #[(Value.string s_487), (Value.string s_488)])) rfl) (et (v := (Value.int .i64 l)) rfl))) (sz_Test w_466 (.agg [.str s_487, .str s_488]) [(Value.string s_487), (Value.string s_488)] _ l (ok_agg rfl (okz_cons (ok_str rfl) (okz_cons (ok_str rfl) okz_nil))) rr_498 (by omega) (by omega)) ?_)
  rintro _ w_494 ⟨r_495, rfl, er_496, k_497⟩
  refine ⟨_, rfl, ?_⟩
  have sc_499 := sz_cases er_496
  have hB_500 := below_next hB_468 k_497 (by omega)
  have z_501 := k_497.size
  refine l_op wn (o_val (x_assign (et (v := (Value.int .i64 r_495)) rfl)) ?_)
  refine l_nil ?_
  refine w_seq ?_
  refine w_region ?_
  refine l_op wn (o_val (x_move (et (v := (Value.int .i64 r_495)) rfl)) ?_)
  by_cases h_502 : r_495 < 0
  · refine l_op wn (o_val (x_lss (r := true) (et (v := (Value.int .i64 r_495)) rfl) ec (dec_t h_502)) ?_)
    refine l_nil ?_
    refine w_if_t (et (v := (Value.bool true)) rfl) ?_
    refine w_seq ?_
    refine w_region ?_
    refine l_op wn (o_val (x_assign ec) ?_)
    refine l_nil ?_
    refine w_ret ?_
    exact ⟨_, r_tmp (v := (Value.int .i64 (-1))) Try.results121 rfl, _, rfl, sz_close (by have := bulk_list xs; (try have bs := bulks_step ‹xs[i]? = some _›); (try have ba := bulks_all (n := i) (xs := xs) (by omega)); omega), hB_500⟩
  refine l_op wn (o_val (x_lss (r := false) (et (v := (Value.int .i64 r_495)) rfl) ec (dec_f h_502)) ?_)
  refine l_nil ?_
  refine w_if_f (et (v := (Value.bool false)) rfl) ?_
  refine w_skip ?_
  refine w_region ?_
  refine l_op wn (o_val (x_move (et (v := (Value.int .i64 (i : Int))) hs_470)) ?_)
  refine l_op wn (o_val (x_add (et (v := (Value.int .i64 (i : Int))) rfl) ec (by omega)) ?_)
  refine l_op wn (o_val (x_assign (et (v := (Value.int .i64 ((i : Int) + 1))) rfl)) ?_)
  refine l_nil ?_
  have bs := bulks_step hx_482
  exact ⟨n - (i + 1), by omega, ⟨i + 1, r_495, hs_469, vint (a := ((i : Int) + 1)) (by omega), rfl, hB_500, (by omega), (by omega), (by omega), rfl⟩⟩

set_option maxHeartbeats 200000 in
theorem sz_Step (w : World) (x : V) (cs : List Value) (F : List Nat) (left : Int) (ok : Ok x tStep) (hr : Rep w x cs F) (h0 : 0 ≤ left) (h1 : left ≤ 1048576) : Calls Try.prog 118 #[.agg cs.toArray, .int .i64 left] w (RetI w (· = szV x left)) := by
  obtain ⟨s_503, xs_504, A_505, n_506, c_507, F_508, rfl, rfl, rfl, bd_513, ok_514, hr_515, ln_516⟩ := open_Step ok hr
  have hbk : V.bulk (.agg [.str s_503, .list xs_504]) = s_503.size + V.bulk (.list xs_504) := by simp only [V.bulk, V.bulks] <;> omega
  have hB0 := Below.refl w.heap.size w
  refine enter (N := 19) Try.func118 rfl Try.ntmps118 rfl ?_
  refine w_seq ?_
  refine w_region ?_
  refine l_op wn (o_new (x_box (cs := [(Value.string s_503), (Value.slice A_505 n_506 c_507)]) (et (v := (Value.agg #[(Value.string s_503), (Value.slice A_505 n_506 c_507)])) rfl)) ?_)
  intro w_517 z_518 k_519 bx_520
  have hB_521 := below_next hB0 k_519 (by omega)
  refine l_op wn (o_val (x_assign ec) ?_)
  refine l_nil ?_
  refine w_seq ?_
  refine w_region ?_
  refine l_op wn (o_val (x_move (et (v := (Value.int .i64 left)) rfl)) ?_)
  refine l_op wn (o_val (x_field (k := 0) (j := 0) Try.underlying188 rfl Try.sizeOf9 rfl (et (v := (Value.pointer (some ⟨w.heap.size, 0, none⟩))) rfl)) ?_)
  refine l_op wn (o_val (x_load (v := (Value.string s_503)) Try.isAgg9 (et (v := (Value.pointer (some ⟨w.heap.size, 0, none⟩))) rfl) ((bx_520.cell 0).trans rfl)) ?_)
  refine l_op wn (o_val (x_slen Try.underlying9 (et (v := (Value.string s_503)) rfl)) ?_)
  refine l_op wn (o_val (x_sub (et (v := (Value.int .i64 left)) rfl) (et (v := (Value.int .i64 (s_503.size : Int))) rfl) (by omega)) ?_)
  refine l_op wn (o_val (x_assign (et (v := (Value.int .i64 (left - (s_503.size : Int)))) rfl)) ?_)
  refine l_nil ?_
  refine w_seq ?_
  refine w_seq ?_
  refine w_region ?_
  refine l_op wn (o_val (x_move (et (v := (Value.int .i64 (left - (s_503.size : Int)))) rfl)) ?_)
  by_cases h_522 : (left - (s_503.size : Int)) < 0
  · refine l_op wn (o_val (x_lss (r := true) (et (v := (Value.int .i64 (left - (s_503.size : Int)))) rfl) ec (dec_t h_522)) ?_)
    refine l_nil ?_
    refine w_if_t (et (v := (Value.bool true)) rfl) ?_
    refine w_seq ?_
    refine w_region ?_
    refine l_op wn (o_val (x_assign ec) ?_)
    refine l_nil ?_
    refine w_ret ?_
    exact ⟨_, r_tmp (v := (Value.int .i64 (-1))) Try.results118 rfl, _, rfl, sz_close (by omega), hB_521⟩
  refine l_op wn (o_val (x_lss (r := false) (et (v := (Value.int .i64 (left - (s_503.size : Int)))) rfl) ec (dec_f h_522)) ?_)
  refine l_nil ?_
  refine w_if_f (et (v := (Value.bool false)) rfl) ?_
  refine w_skip ?_
  refine w_seq ?_
  refine w_region ?_
  refine l_op wn (o_val (x_field (k := 0) (j := 1) Try.underlying188 rfl Try.sizeOf186 rfl (et (v := (Value.pointer (some ⟨w.heap.size, 0, none⟩))) rfl)) ?_)
  refine l_op wn (o_val (x_load (v := (Value.slice A_505 n_506 c_507)) Try.isAgg186 (et (v := (Value.pointer (some ⟨w.heap.size, 1, none⟩))) rfl) ((bx_520.cell 1).trans rfl)) ?_)
  refine l_op wn (o_val (x_move (et (v := (Value.int .i64 (left - (s_503.size : Int)))) rfl)) ?_)
  refine l_op wn (o_call (x_call Try.call121 ef (a2 (et (v := (Value.slice A_505 n_506 c_507)) rfl) (et (v := (Value.int .i64 (left - (s_503.size : Int)))) rfl))) (sz_TestS w_517 xs_504 A_505 n_506 c_507 _ (left - (s_503.size : Int)) ok_514 (hr_515.below hB_521) (by omega) (by omega)) ?_)
  rintro _ w_523 ⟨r_524, rfl, er_525, k_526⟩
  refine ⟨_, rfl, ?_⟩
  have sc_527 := sz_cases er_525
  have hB_528 := below_next hB_521 k_526 (by omega)
  have z_529 := k_526.size
  have bx_530 := bx_520.below k_526
  refine l_op wn (o_val (x_assign (et (v := (Value.int .i64 r_524)) rfl)) ?_)
  refine l_nil ?_
  refine w_seq ?_
  refine w_seq ?_
  refine w_region ?_
  refine l_op wn (o_val (x_move (et (v := (Value.int .i64 r_524)) rfl)) ?_)
  by_cases h_531 : r_524 < 0
  · refine l_op wn (o_val (x_lss (r := true) (et (v := (Value.int .i64 r_524)) rfl) ec (dec_t h_531)) ?_)
    refine l_nil ?_
    refine w_if_t (et (v := (Value.bool true)) rfl) ?_
    refine w_seq ?_
    refine w_region ?_
    refine l_op wn (o_val (x_assign ec) ?_)
    refine l_nil ?_
    refine w_ret ?_
    exact ⟨_, r_tmp (v := (Value.int .i64 (-1))) Try.results118 rfl, _, rfl, sz_close (by omega), hB_528⟩
  refine l_op wn (o_val (x_lss (r := false) (et (v := (Value.int .i64 r_524)) rfl) ec (dec_f h_531)) ?_)
  refine l_nil ?_
  refine w_if_f (et (v := (Value.bool false)) rfl) ?_
  refine w_skip ?_
  refine w_seq ?_
  refine w_region ?_
  refine l_op wn (o_val (x_move (et (v := (Value.int .i64 r_524)) rfl)) ?_)
  refine l_op wn (o_val (x_assign (et (v := (Value.int .i64 r_524)) rfl)) ?_)
  refine l_nil ?_
  refine w_ret ?_
  exact ⟨_, r_tmp (v := (Value.int .i64 r_524)) Try.results118 rfl, _, rfl, sz_close (by omega), hB_528⟩

set_option maxHeartbeats 200000 in
theorem sz_StepS (w : World) (xs : List V) (A : Option Addr) (n c : Nat) (F : List Nat) (left : Int) (ok : Oks xs tStep) (hr : Rep w (.list xs) [.slice A n c] F) (h0 : 0 ≤ left) (h1 : left ≤ 1048576) : Calls Try.prog 115 #[.slice A n c, .int .i64 left] w (RetI w (· = szV (.list xs) left)) := by
  have hB0 := Below.refl w.heap.size w
  obtain ⟨ln, lc, lm⟩ := hr.len
  refine enter (N := 27) Try.func115 rfl Try.ntmps115 rfl ?_
  refine w_seq ?_
  refine w_region ?_
  refine l_op wn (o_val (x_assign ec) ?_)
  refine l_nil ?_
  refine w_seq ?_
  refine w_region ?_
  refine l_op wn (o_val (x_move (et (v := (Value.int .i64 left)) rfl)) ?_)
  refine l_op wn (o_val (x_move (et (v := (Value.slice A n c)) rfl)) ?_)
  refine l_op wn (o_val (x_len Try.underlying160 (et (v := (Value.slice A n c)) rfl)) ?_)
  refine l_op wn (o_val (x_sub (et (v := (Value.int .i64 left)) rfl) (et (v := (Value.int .i64 (n : Int))) rfl) (by omega)) ?_)
  refine l_op wn (o_val (x_assign (et (v := (Value.int .i64 (left - (n : Int)))) rfl)) ?_)
  refine l_nil ?_
  refine w_seq ?_
  refine w_seq ?_
  refine w_region ?_
  refine l_op wn (o_val (x_move (et (v := (Value.int .i64 (left - (n : Int)))) rfl)) ?_)
  by_cases h_532 : (left - (n : Int)) < 0
  · refine l_op wn (o_val (x_lss (r := true) (et (v := (Value.int .i64 (left - (n : Int)))) rfl) ec (dec_t h_532)) ?_)
    refine l_nil ?_
    refine w_if_t (et (v := (Value.bool true)) rfl) ?_
    refine w_seq ?_
    refine w_region ?_
    refine l_op wn (o_val (x_assign ec) ?_)
    refine l_nil ?_
    refine w_ret ?_
    exact ⟨_, r_tmp (v := (Value.int .i64 (-1))) Try.results115 rfl, _, rfl, sz_close (by have := bulk_list xs; (try have bs := bulks_step ‹xs[i]? = some _›); (try have ba := bulks_all (n := i) (xs := xs) (by omega)); omega), hB0⟩
  refine l_op wn (o_val (x_lss (r := false) (et (v := (Value.int .i64 (left - (n : Int)))) rfl) ec (dec_f h_532)) ?_)
  refine l_nil ?_
  refine w_if_f (et (v := (Value.bool false)) rfl) ?_
  refine w_skip ?_
  refine w_seq ?_
  refine w_seq ?_
  refine w_region ?_
  refine l_op wn (o_val (x_assign ec) ?_)
  refine l_nil ?_
  refine w_block ?_
  refine w_loop (fun μ f w' => ∃ (i : Nat), ∃ (l : Int), f 0 = (Value.slice A n c) ∧ f 5 = (Value.int .i64 (i : Int)) ∧ f 1 = (Value.int .i64 l) ∧ Below w.heap.size w w' ∧ (i ≤ n) ∧ (l = left - n - V.bulks (xs.take i)) ∧ (0 ≤ l) ∧ μ = n - i) (n - 0) ?_ ?_
  · exact ⟨0, left - (n : Int), rfl, vint (a := 0) (by omega), rfl, hB0, (by omega), (by simp [V.bulks]), (by omega), rfl⟩
  rintro m_535 f_533 w_534 ⟨i, l, hs_537, hs_538, hs_539, hB_536, hi, hl, hl0, rfl⟩
  have z_540 := hB_536.size
  refine w_seq ?_
  refine w_seq ?_
  refine w_region ?_
  refine l_op wn (o_val (x_move (et (v := (Value.int .i64 (i : Int))) hs_538)) ?_)
  refine l_op wn (o_val (x_move (et (v := (Value.slice A n c)) hs_537)) ?_)
  refine l_op wn (o_val (x_len Try.underlying160 (et (v := (Value.slice A n c)) rfl)) ?_)
  by_cases h_541 : (i : Int) < (n : Int)
  rotate_left
  · refine l_op wn (o_val (x_lss (r := false) (et (v := (Value.int .i64 (i : Int))) rfl) (et (v := (Value.int .i64 (n : Int))) rfl) (dec_f h_541)) ?_)
    refine l_nil ?_
    refine w_if_f (et (v := (Value.bool false)) rfl) ?_
    refine w_exit ?_
    refine Eq.mpr (if_pos rfl) ?_
    refine w_seq ?_
    refine w_region ?_
    refine l_op wn (o_val (x_move (et (v := (Value.int .i64 l)) hs_539)) ?_)
    refine l_op wn (o_val (x_assign (et (v := (Value.int .i64 l)) rfl)) ?_)
    refine l_nil ?_
    refine w_ret ?_
    exact ⟨_, r_tmp (v := (Value.int .i64 l)) Try.results115 rfl, _, rfl, sz_close (by have := bulk_list xs; (try have bs := bulks_step ‹xs[i]? = some _›); (try have ba := bulks_all (n := i) (xs := xs) (by omega)); omega), hB_536⟩
  refine l_op wn (o_val (x_lss (r := true) (et (v := (Value.int .i64 (i : Int))) rfl) (et (v := (Value.int .i64 (n : Int))) rfl) (dec_t h_541)) ?_)
  refine l_nil ?_
  refine w_if_t (et (v := (Value.bool true)) rfl) ?_
  refine w_skip ?_
  refine w_seq ?_
  refine w_block ?_
  refine w_seq ?_
  refine w_region ?_
  refine l_op wn (o_val (x_move (et (v := (Value.slice A n c)) hs_537)) ?_)
  refine l_op wn (o_val (x_move (et (v := (Value.int .i64 (i : Int))) hs_538)) ?_)
  obtain ⟨b_542, o_543, x_544, cs_545, G_546, hA_547, hbF_548, hlt_549, hx_550, hrx_551, hG_552, hl_553, hcl_554⟩ := hr.elem (k := 2) (fun y hy => wd_Step (ok.mem y hy)) (i := i) (by omega)
  obtain ⟨s_555, xs_556, A_557, n_558, c_559, F_560, rfl, rfl, rfl, bd_565, ok_566, hr_567, ln_568⟩ := open_Step (ok.get hx_550) hrx_551
  refine l_op wn (o_val (x_index' (i := i) Try.underlying160 Try.sizeOf188 (et (v := (Value.slice A n c)) rfl) hA_547 (et (v := (Value.int .i64 (i : Int))) rfl) (by omega) (by omega)) ?_)
  refine l_op wn (o_val (x_loadN (cs := [(Value.string s_555), (Value.slice A_557 n_558 c_559)]) Try.isAgg188 Try.sizeOf188 (et (v := (Value.pointer (some ⟨b_542, o_543 + i * 2, none⟩))) rfl) rfl ((hl_553.keep (hB_536.block _ hlt_549)))) ?_)
  refine l_op wn (o_val (x_move (et (v := (Value.int .i64 l)) hs_539)) ?_)
  have rr_573 := (ragg (rcons (rstr (w := w_534) (n := s_555) bd_565) (rcons (hr_567.below hB_536) (rnil (w := w_534)))))
  refine l_op wn (o_call (x_call Try.call118 ef (a2 (et (v := (Value.agg #[(Value.string s_555), (Value.slice A_557 n_558 c_559)])) rfl) (et (v := (Value.int .i64 l)) rfl))) (sz_Step w_534 (.agg [.str s_555, .list xs_556]) [(Value.string s_555), (Value.slice A_557 n_558 c_559)] _ l (ok_agg rfl (okz_cons (ok_str rfl) (okz_cons (ok_list rfl ok_566) okz_nil))) rr_573 (by omega) (by omega)) ?_)
  rintro _ w_569 ⟨r_570, rfl, er_571, k_572⟩
  refine ⟨_, rfl, ?_⟩
  have sc_574 := sz_cases er_571
  have hB_575 := below_next hB_536 k_572 (by omega)
  have z_576 := k_572.size
  refine l_op wn (o_val (x_assign (et (v := (Value.int .i64 r_570)) rfl)) ?_)
  refine l_nil ?_
  refine w_seq ?_
  refine w_region ?_
  refine l_op wn (o_val (x_move (et (v := (Value.int .i64 r_570)) rfl)) ?_)
  by_cases h_577 : r_570 < 0
  · refine l_op wn (o_val (x_lss (r := true) (et (v := (Value.int .i64 r_570)) rfl) ec (dec_t h_577)) ?_)
    refine l_nil ?_
    refine w_if_t (et (v := (Value.bool true)) rfl) ?_
    refine w_seq ?_
    refine w_region ?_
    refine l_op wn (o_val (x_assign ec) ?_)
    refine l_nil ?_
    refine w_ret ?_
    exact ⟨_, r_tmp (v := (Value.int .i64 (-1))) Try.results115 rfl, _, rfl, sz_close (by have := bulk_list xs; (try have bs := bulks_step ‹xs[i]? = some _›); (try have ba := bulks_all (n := i) (xs := xs) (by omega)); omega), hB_575⟩
  refine l_op wn (o_val (x_lss (r := false) (et (v := (Value.int .i64 r_570)) rfl) ec (dec_f h_577)) ?_)
  refine l_nil ?_
  refine w_if_f (et (v := (Value.bool false)) rfl) ?_
  refine w_skip ?_
  refine w_region ?_
  refine l_op wn (o_val (x_move (et (v := (Value.int .i64 (i : Int))) hs_538)) ?_)
  refine l_op wn (o_val (x_add (et (v := (Value.int .i64 (i : Int))) rfl) ec (by omega)) ?_)
  refine l_op wn (o_val (x_assign (et (v := (Value.int .i64 ((i : Int) + 1))) rfl)) ?_)
  refine l_nil ?_
  have bs := bulks_step hx_550
  exact ⟨n - (i + 1), by omega, ⟨i + 1, r_570, hs_537, vint (a := ((i : Int) + 1)) (by omega), rfl, hB_575, (by omega), (by omega), (by omega), rfl⟩⟩

set_option maxHeartbeats 200000 in
theorem sz_Path (w : World) (x : V) (cs : List Value) (F : List Nat) (left : Int) (ok : Ok x tPath) (hr : Rep w x cs F) (h0 : 0 ≤ left) (h1 : left ≤ 1048576) : Calls Try.prog 110 #[.agg cs.toArray, .int .i64 left] w (RetI w (· = szV x left)) := by
  obtain ⟨q_578, i_579, xs_580, A_581, n_582, c_583, F_584, rfl, rfl, rfl, bd_589, ok_590, hr_591, ln_592⟩ := open_Path ok hr
  have hbk : V.bulk (.agg [.bool q_578, .int i_579, .list xs_580]) = V.bulk (.list xs_580) := by simp only [V.bulk, V.bulks] <;> omega
  have hB0 := Below.refl w.heap.size w
  refine enter (N := 12) Try.func110 rfl Try.ntmps110 rfl ?_
  refine w_seq ?_
  refine w_region ?_
  refine l_op wn (o_new (x_box (cs := [(Value.bool q_578), (Value.int .i64 i_579), (Value.slice A_581 n_582 c_583)]) (et (v := (Value.agg #[(Value.bool q_578), (Value.int .i64 i_579), (Value.slice A_581 n_582 c_583)])) rfl)) ?_)
  intro w_593 z_594 k_595 bx_596
  have hB_597 := below_next hB0 k_595 (by omega)
  refine l_op wn (o_val (x_assign ec) ?_)
  refine l_nil ?_
  refine w_seq ?_
  refine w_region ?_
  refine l_op wn (o_val (x_field (k := 0) (j := 2) Try.underlying162 rfl Try.sizeOf160 rfl (et (v := (Value.pointer (some ⟨w.heap.size, 0, none⟩))) rfl)) ?_)
  refine l_op wn (o_val (x_load (v := (Value.slice A_581 n_582 c_583)) Try.isAgg160 (et (v := (Value.pointer (some ⟨w.heap.size, 2, none⟩))) rfl) ((bx_596.cell 2).trans rfl)) ?_)
  refine l_op wn (o_val (x_move (et (v := (Value.int .i64 left)) rfl)) ?_)
  refine l_op wn (o_call (x_call Try.call115 ef (a2 (et (v := (Value.slice A_581 n_582 c_583)) rfl) (et (v := (Value.int .i64 left)) rfl))) (sz_StepS w_593 xs_580 A_581 n_582 c_583 _ left ok_590 (hr_591.below hB_597) (by omega) (by omega)) ?_)
  rintro _ w_598 ⟨r_599, rfl, er_600, k_601⟩
  refine ⟨_, rfl, ?_⟩
  have sc_602 := sz_cases er_600
  have hB_603 := below_next hB_597 k_601 (by omega)
  have z_604 := k_601.size
  have bx_605 := bx_596.below k_601
  refine l_op wn (o_val (x_assign (et (v := (Value.int .i64 r_599)) rfl)) ?_)
  refine l_nil ?_
  refine w_seq ?_
  refine w_seq ?_
  refine w_region ?_
  refine l_op wn (o_val (x_move (et (v := (Value.int .i64 r_599)) rfl)) ?_)
  by_cases h_606 : r_599 < 0
  · refine l_op wn (o_val (x_lss (r := true) (et (v := (Value.int .i64 r_599)) rfl) ec (dec_t h_606)) ?_)
    refine l_nil ?_
    refine w_if_t (et (v := (Value.bool true)) rfl) ?_
    refine w_seq ?_
    refine w_region ?_
    refine l_op wn (o_val (x_assign ec) ?_)
    refine l_nil ?_
    refine w_ret ?_
    exact ⟨_, r_tmp (v := (Value.int .i64 (-1))) Try.results110 rfl, _, rfl, sz_close (by omega), hB_603⟩
  refine l_op wn (o_val (x_lss (r := false) (et (v := (Value.int .i64 r_599)) rfl) ec (dec_f h_606)) ?_)
  refine l_nil ?_
  refine w_if_f (et (v := (Value.bool false)) rfl) ?_
  refine w_skip ?_
  refine w_seq ?_
  refine w_region ?_
  refine l_op wn (o_val (x_move (et (v := (Value.int .i64 r_599)) rfl)) ?_)
  refine l_op wn (o_val (x_assign (et (v := (Value.int .i64 r_599)) rfl)) ?_)
  refine l_nil ?_
  refine w_ret ?_
  exact ⟨_, r_tmp (v := (Value.int .i64 r_599)) Try.results110 rfl, _, rfl, sz_close (by omega), hB_603⟩

def Sz_ExprS (k : Nat) : Prop := ∀ (w : World) (xs : List V) (A : Option Addr) (n c : Nat) (F : List Nat) (left : Int) (ok : Oks xs tExpr) (hr : Rep w (.list xs) [.slice A n c] F) (h0 : 0 ≤ left) (h1 : left ≤ 1048576) (hc : V.cnts xs ≤ k), Calls Try.prog 96 #[.slice A n c, .int .i64 left] w (RetI w (· = szV (.list xs) left))
def Sz_Expr (k : Nat) : Prop := ∀ (w : World) (x : V) (cs : List Value) (F : List Nat) (left : Int) (ok : Ok x tExpr) (hr : Rep w x cs F) (h0 : 0 ≤ left) (h1 : left ≤ 1048576) (hc : V.cnt x ≤ k), Calls Try.prog 105 #[.agg cs.toArray, .int .i64 left] w (RetI w (· = szV x left))
set_option maxHeartbeats 200000 in
theorem sz_Expr_of (k : Nat) (ih : Sz_ExprS k) : Sz_Expr (k + 1) := by
  intro w x cs F left ok hr h0 h1 hc
  obtain ⟨i_607, i_608, s_609, q_610, i_611, xs_612, A_613, n_614, c_615, F_616, xs_618, A_619, n_620, c_621, F_622, rfl, rfl, rfl, bd_627, bd_628, bd_629, bd_630, ok_631, hr_632, ln_633, ok_634, hr_635, ln_636⟩ := open_Expr ok hr
  have hbk : V.bulk (.agg [.int i_607, .int i_608, .str s_609, .agg [.bool q_610, .int i_611, .list xs_612], .list xs_618]) = s_609.size + V.bulk (.agg [.bool q_610, .int i_611, .list xs_612]) + V.bulk (.list xs_618) := by simp only [V.bulk, V.bulks] <;> omega
  have hck : V.cnts xs_618 < V.cnt (.agg [.int i_607, .int i_608, .str s_609, .agg [.bool q_610, .int i_611, .list xs_612], .list xs_618]) := by simp only [V.cnt, V.cnts]; omega
  have hB0 := Below.refl w.heap.size w
  refine enter (N := 25) Try.func105 rfl Try.ntmps105 rfl ?_
  refine w_seq ?_
  refine w_region ?_
  refine l_op wn (o_new (x_box (cs := [(Value.int .i64 i_607), (Value.int .i64 i_608), (Value.string s_609), (Value.bool q_610), (Value.int .i64 i_611), (Value.slice A_613 n_614 c_615), (Value.slice A_619 n_620 c_621)]) (et (v := (Value.agg #[(Value.int .i64 i_607), (Value.int .i64 i_608), (Value.string s_609), (Value.bool q_610), (Value.int .i64 i_611), (Value.slice A_613 n_614 c_615), (Value.slice A_619 n_620 c_621)])) rfl)) ?_)
  intro w_637 z_638 k_639 bx_640
  have hB_641 := below_next hB0 k_639 (by omega)
  refine l_op wn (o_val (x_assign ec) ?_)
  refine l_nil ?_
  refine w_seq ?_
  refine w_region ?_
  refine l_op wn (o_val (x_move (et (v := (Value.int .i64 left)) rfl)) ?_)
  refine l_op wn (o_val (x_field (k := 0) (j := 2) Try.underlying164 rfl Try.sizeOf9 rfl (et (v := (Value.pointer (some ⟨w.heap.size, 0, none⟩))) rfl)) ?_)
  refine l_op wn (o_val (x_load (v := (Value.string s_609)) Try.isAgg9 (et (v := (Value.pointer (some ⟨w.heap.size, 2, none⟩))) rfl) ((bx_640.cell 2).trans rfl)) ?_)
  refine l_op wn (o_val (x_slen Try.underlying9 (et (v := (Value.string s_609)) rfl)) ?_)
  refine l_op wn (o_val (x_sub (et (v := (Value.int .i64 left)) rfl) (et (v := (Value.int .i64 (s_609.size : Int))) rfl) (by omega)) ?_)
  refine l_op wn (o_val (x_assign (et (v := (Value.int .i64 (left - (s_609.size : Int)))) rfl)) ?_)
  refine l_nil ?_
  refine w_seq ?_
  refine w_seq ?_
  refine w_region ?_
  refine l_op wn (o_val (x_move (et (v := (Value.int .i64 (left - (s_609.size : Int)))) rfl)) ?_)
  by_cases h_642 : (left - (s_609.size : Int)) < 0
  · refine l_op wn (o_val (x_lss (r := true) (et (v := (Value.int .i64 (left - (s_609.size : Int)))) rfl) ec (dec_t h_642)) ?_)
    refine l_nil ?_
    refine w_if_t (et (v := (Value.bool true)) rfl) ?_
    refine w_seq ?_
    refine w_region ?_
    refine l_op wn (o_val (x_assign ec) ?_)
    refine l_nil ?_
    refine w_ret ?_
    exact ⟨_, r_tmp (v := (Value.int .i64 (-1))) Try.results105 rfl, _, rfl, sz_close (by omega), hB_641⟩
  refine l_op wn (o_val (x_lss (r := false) (et (v := (Value.int .i64 (left - (s_609.size : Int)))) rfl) ec (dec_f h_642)) ?_)
  refine l_nil ?_
  refine w_if_f (et (v := (Value.bool false)) rfl) ?_
  refine w_skip ?_
  refine w_seq ?_
  refine w_region ?_
  refine l_op wn (o_val (x_field (k := 2) (j := 3) Try.underlying164 rfl Try.sizeOf162 rfl (et (v := (Value.pointer (some ⟨w.heap.size, 0, none⟩))) rfl)) ?_)
  refine l_op wn (o_val (x_loadN (cs := [(Value.bool q_610), (Value.int .i64 i_611), (Value.slice A_613 n_614 c_615)]) Try.isAgg162 Try.sizeOf162 (et (v := (Value.pointer (some ⟨w.heap.size, 3, none⟩))) rfl) rfl (bx_640.lies.sub 3 3)) ?_)
  refine l_op wn (o_val (x_move (et (v := (Value.int .i64 (left - (s_609.size : Int)))) rfl)) ?_)
  have rr_647 := (ragg (rcons (rbool (w := w_637) (n := q_610)) (rcons (rint (w := w_637) (n := i_611) bd_630) (rcons (hr_632.below hB_641) (rnil (w := w_637))))))
  refine l_op wn (o_call (x_call Try.call110 ef (a2 (et (v := (Value.agg #[(Value.bool q_610), (Value.int .i64 i_611), (Value.slice A_613 n_614 c_615)])) rfl) (et (v := (Value.int .i64 (left - (s_609.size : Int)))) rfl))) (sz_Path w_637 (.agg [.bool q_610, .int i_611, .list xs_612]) [(Value.bool q_610), (Value.int .i64 i_611), (Value.slice A_613 n_614 c_615)] _ (left - (s_609.size : Int)) (ok_agg rfl (okz_cons (ok_bool rfl) (okz_cons (ok_int rfl) (okz_cons (ok_list rfl ok_631) okz_nil)))) rr_647 (by omega) (by omega)) ?_)
  rintro _ w_643 ⟨r_644, rfl, er_645, k_646⟩
  refine ⟨_, rfl, ?_⟩
  have sc_648 := sz_cases er_645
  have hB_649 := below_next hB_641 k_646 (by omega)
  have z_650 := k_646.size
  have bx_651 := bx_640.below k_646
  refine l_op wn (o_val (x_assign (et (v := (Value.int .i64 r_644)) rfl)) ?_)
  refine l_nil ?_
  refine w_seq ?_
  refine w_seq ?_
  refine w_region ?_
  refine l_op wn (o_val (x_move (et (v := (Value.int .i64 r_644)) rfl)) ?_)
  by_cases h_652 : r_644 < 0
  · refine l_op wn (o_val (x_lss (r := true) (et (v := (Value.int .i64 r_644)) rfl) ec (dec_t h_652)) ?_)
    refine l_nil ?_
    refine w_if_t (et (v := (Value.bool true)) rfl) ?_
    refine w_seq ?_
    refine w_region ?_
    refine l_op wn (o_val (x_assign ec) ?_)
    refine l_nil ?_
    refine w_ret ?_
    exact ⟨_, r_tmp (v := (Value.int .i64 (-1))) Try.results105 rfl, _, rfl, sz_close (by omega), hB_649⟩
  refine l_op wn (o_val (x_lss (r := false) (et (v := (Value.int .i64 r_644)) rfl) ec (dec_f h_652)) ?_)
  refine l_nil ?_
  refine w_if_f (et (v := (Value.bool false)) rfl) ?_
  refine w_skip ?_
  refine w_seq ?_
  refine w_region ?_
  refine l_op wn (o_val (x_field (k := 0) (j := 6) Try.underlying164 rfl Try.sizeOf124 rfl (et (v := (Value.pointer (some ⟨w.heap.size, 0, none⟩))) rfl)) ?_)
  refine l_op wn (o_val (x_load (v := (Value.slice A_619 n_620 c_621)) Try.isAgg124 (et (v := (Value.pointer (some ⟨w.heap.size, 6, none⟩))) rfl) ((bx_651.cell 6).trans rfl)) ?_)
  refine l_op wn (o_val (x_move (et (v := (Value.int .i64 r_644)) rfl)) ?_)
  refine l_op wn (o_call (x_call Try.call96 ef (a2 (et (v := (Value.slice A_619 n_620 c_621)) rfl) (et (v := (Value.int .i64 r_644)) rfl))) (ih w_643 xs_618 A_619 n_620 c_621 _ r_644 ok_634 (hr_635.below hB_649) (by omega) (by omega) (by omega)) ?_)
  rintro _ w_653 ⟨r_654, rfl, er_655, k_656⟩
  refine ⟨_, rfl, ?_⟩
  have sc_657 := sz_cases er_655
  have hB_658 := below_next hB_649 k_656 (by omega)
  have z_659 := k_656.size
  have bx_660 := bx_651.below k_656
  refine l_op wn (o_val (x_assign (et (v := (Value.int .i64 r_654)) rfl)) ?_)
  refine l_nil ?_
  refine w_seq ?_
  refine w_seq ?_
  refine w_region ?_
  refine l_op wn (o_val (x_move (et (v := (Value.int .i64 r_654)) rfl)) ?_)
  by_cases h_661 : r_654 < 0
  · refine l_op wn (o_val (x_lss (r := true) (et (v := (Value.int .i64 r_654)) rfl) ec (dec_t h_661)) ?_)
    refine l_nil ?_
    refine w_if_t (et (v := (Value.bool true)) rfl) ?_
    refine w_seq ?_
    refine w_region ?_
    refine l_op wn (o_val (x_assign ec) ?_)
    refine l_nil ?_
    refine w_ret ?_
    exact ⟨_, r_tmp (v := (Value.int .i64 (-1))) Try.results105 rfl, _, rfl, sz_close (by omega), hB_658⟩
  refine l_op wn (o_val (x_lss (r := false) (et (v := (Value.int .i64 r_654)) rfl) ec (dec_f h_661)) ?_)
  refine l_nil ?_
  refine w_if_f (et (v := (Value.bool false)) rfl) ?_
  refine w_skip ?_
  refine w_seq ?_
  refine w_region ?_
  refine l_op wn (o_val (x_move (et (v := (Value.int .i64 r_654)) rfl)) ?_)
  refine l_op wn (o_val (x_assign (et (v := (Value.int .i64 r_654)) rfl)) ?_)
  refine l_nil ?_
  refine w_ret ?_
  exact ⟨_, r_tmp (v := (Value.int .i64 r_654)) Try.results105 rfl, _, rfl, sz_close (by omega), hB_658⟩

set_option maxHeartbeats 200000 in
theorem sz_ExprS_of (k : Nat) (ih : Sz_Expr k) : Sz_ExprS k := by
  intro w xs A n c F left ok hr h0 h1 hc
  have hB0 := Below.refl w.heap.size w
  obtain ⟨ln, lc, lm⟩ := hr.len
  refine enter (N := 27) Try.func96 rfl Try.ntmps96 rfl ?_
  refine w_seq ?_
  refine w_region ?_
  refine l_op wn (o_val (x_assign ec) ?_)
  refine l_nil ?_
  refine w_seq ?_
  refine w_region ?_
  refine l_op wn (o_val (x_move (et (v := (Value.int .i64 left)) rfl)) ?_)
  refine l_op wn (o_val (x_move (et (v := (Value.slice A n c)) rfl)) ?_)
  refine l_op wn (o_val (x_len Try.underlying124 (et (v := (Value.slice A n c)) rfl)) ?_)
  refine l_op wn (o_val (x_sub (et (v := (Value.int .i64 left)) rfl) (et (v := (Value.int .i64 (n : Int))) rfl) (by omega)) ?_)
  refine l_op wn (o_val (x_assign (et (v := (Value.int .i64 (left - (n : Int)))) rfl)) ?_)
  refine l_nil ?_
  refine w_seq ?_
  refine w_seq ?_
  refine w_region ?_
  refine l_op wn (o_val (x_move (et (v := (Value.int .i64 (left - (n : Int)))) rfl)) ?_)
  by_cases h_662 : (left - (n : Int)) < 0
  · refine l_op wn (o_val (x_lss (r := true) (et (v := (Value.int .i64 (left - (n : Int)))) rfl) ec (dec_t h_662)) ?_)
    refine l_nil ?_
    refine w_if_t (et (v := (Value.bool true)) rfl) ?_
    refine w_seq ?_
    refine w_region ?_
    refine l_op wn (o_val (x_assign ec) ?_)
    refine l_nil ?_
    refine w_ret ?_
    exact ⟨_, r_tmp (v := (Value.int .i64 (-1))) Try.results96 rfl, _, rfl, sz_close (by have := bulk_list xs; (try have bs := bulks_step ‹xs[i]? = some _›); (try have ba := bulks_all (n := i) (xs := xs) (by omega)); omega), hB0⟩
  refine l_op wn (o_val (x_lss (r := false) (et (v := (Value.int .i64 (left - (n : Int)))) rfl) ec (dec_f h_662)) ?_)
  refine l_nil ?_
  refine w_if_f (et (v := (Value.bool false)) rfl) ?_
  refine w_skip ?_
  refine w_seq ?_
  refine w_seq ?_
  refine w_region ?_
  refine l_op wn (o_val (x_assign ec) ?_)
  refine l_nil ?_
  refine w_block ?_
  refine w_loop (fun μ f w' => ∃ (i : Nat), ∃ (l : Int), f 0 = (Value.slice A n c) ∧ f 5 = (Value.int .i64 (i : Int)) ∧ f 1 = (Value.int .i64 l) ∧ Below w.heap.size w w' ∧ (i ≤ n) ∧ (l = left - n - V.bulks (xs.take i)) ∧ (0 ≤ l) ∧ μ = n - i) (n - 0) ?_ ?_
  · exact ⟨0, left - (n : Int), rfl, vint (a := 0) (by omega), rfl, hB0, (by omega), (by simp [V.bulks]), (by omega), rfl⟩
  rintro m_665 f_663 w_664 ⟨i, l, hs_667, hs_668, hs_669, hB_666, hi, hl, hl0, rfl⟩
  have z_670 := hB_666.size
  refine w_seq ?_
  refine w_seq ?_
  refine w_region ?_
  refine l_op wn (o_val (x_move (et (v := (Value.int .i64 (i : Int))) hs_668)) ?_)
  refine l_op wn (o_val (x_move (et (v := (Value.slice A n c)) hs_667)) ?_)
  refine l_op wn (o_val (x_len Try.underlying124 (et (v := (Value.slice A n c)) rfl)) ?_)
  by_cases h_671 : (i : Int) < (n : Int)
  rotate_left
  · refine l_op wn (o_val (x_lss (r := false) (et (v := (Value.int .i64 (i : Int))) rfl) (et (v := (Value.int .i64 (n : Int))) rfl) (dec_f h_671)) ?_)
    refine l_nil ?_
    refine w_if_f (et (v := (Value.bool false)) rfl) ?_
    refine w_exit ?_
    refine Eq.mpr (if_pos rfl) ?_
    refine w_seq ?_
    refine w_region ?_
    refine l_op wn (o_val (x_move (et (v := (Value.int .i64 l)) hs_669)) ?_)
    refine l_op wn (o_val (x_assign (et (v := (Value.int .i64 l)) rfl)) ?_)
    refine l_nil ?_
    refine w_ret ?_
    exact ⟨_, r_tmp (v := (Value.int .i64 l)) Try.results96 rfl, _, rfl, sz_close (by have := bulk_list xs; (try have bs := bulks_step ‹xs[i]? = some _›); (try have ba := bulks_all (n := i) (xs := xs) (by omega)); omega), hB_666⟩
  refine l_op wn (o_val (x_lss (r := true) (et (v := (Value.int .i64 (i : Int))) rfl) (et (v := (Value.int .i64 (n : Int))) rfl) (dec_t h_671)) ?_)
  refine l_nil ?_
  refine w_if_t (et (v := (Value.bool true)) rfl) ?_
  refine w_skip ?_
  refine w_seq ?_
  refine w_block ?_
  refine w_seq ?_
  refine w_region ?_
  refine l_op wn (o_val (x_move (et (v := (Value.slice A n c)) hs_667)) ?_)
  refine l_op wn (o_val (x_move (et (v := (Value.int .i64 (i : Int))) hs_668)) ?_)
  obtain ⟨b_672, o_673, x_674, cs_675, G_676, hA_677, hbF_678, hlt_679, hx_680, hrx_681, hG_682, hl_683, hcl_684⟩ := hr.elem (k := 7) (fun y hy => wd_Expr (ok.mem y hy)) (i := i) (by omega)
  obtain ⟨i_685, i_686, s_687, q_688, i_689, xs_690, A_691, n_692, c_693, F_694, xs_696, A_697, n_698, c_699, F_700, rfl, rfl, rfl, bd_705, bd_706, bd_707, bd_708, ok_709, hr_710, ln_711, ok_712, hr_713, ln_714⟩ := open_Expr (ok.get hx_680) hrx_681
  refine l_op wn (o_val (x_index' (i := i) Try.underlying124 Try.sizeOf164 (et (v := (Value.slice A n c)) rfl) hA_677 (et (v := (Value.int .i64 (i : Int))) rfl) (by omega) (by omega)) ?_)
  refine l_op wn (o_val (x_loadN (cs := [(Value.int .i64 i_685), (Value.int .i64 i_686), (Value.string s_687), (Value.bool q_688), (Value.int .i64 i_689), (Value.slice A_691 n_692 c_693), (Value.slice A_697 n_698 c_699)]) Try.isAgg164 Try.sizeOf164 (et (v := (Value.pointer (some ⟨b_672, o_673 + i * 7, none⟩))) rfl) rfl ((hl_683.keep (hB_666.block _ hlt_679)))) ?_)
  refine l_op wn (o_val (x_move (et (v := (Value.int .i64 l)) hs_669)) ?_)
  have rr_719 := (ragg (rcons (rint (w := w_664) (n := i_685) bd_705) (rcons (rint (w := w_664) (n := i_686) bd_706) (rcons (rstr (w := w_664) (n := s_687) bd_707) (rcons (ragg (rcons (rbool (w := w_664) (n := q_688)) (rcons (rint (w := w_664) (n := i_689) bd_708) (rcons (hr_710.below hB_666) (rnil (w := w_664)))))) (rcons (hr_713.below hB_666) (rnil (w := w_664))))))))
  refine l_op wn (o_call (x_call Try.call105 ef (a2 (et (v := (Value.agg #[(Value.int .i64 i_685), (Value.int .i64 i_686), (Value.string s_687), (Value.bool q_688), (Value.int .i64 i_689), (Value.slice A_691 n_692 c_693), (Value.slice A_697 n_698 c_699)])) rfl) (et (v := (Value.int .i64 l)) rfl))) (ih w_664 (.agg [.int i_685, .int i_686, .str s_687, .agg [.bool q_688, .int i_689, .list xs_690], .list xs_696]) [(Value.int .i64 i_685), (Value.int .i64 i_686), (Value.string s_687), (Value.bool q_688), (Value.int .i64 i_689), (Value.slice A_691 n_692 c_693), (Value.slice A_697 n_698 c_699)] _ l (ok_agg rfl (okz_cons (ok_int rfl) (okz_cons (ok_int rfl) (okz_cons (ok_str rfl) (okz_cons (ok_agg rfl (okz_cons (ok_bool rfl) (okz_cons (ok_int rfl) (okz_cons (ok_list rfl ok_709) okz_nil)))) (okz_cons (ok_list rfl ok_712) okz_nil)))))) rr_719 (by omega) (by omega) (by have := cnt_mem hx_680; omega)) ?_)
  rintro _ w_715 ⟨r_716, rfl, er_717, k_718⟩
  refine ⟨_, rfl, ?_⟩
  have sc_720 := sz_cases er_717
  have hB_721 := below_next hB_666 k_718 (by omega)
  have z_722 := k_718.size
  refine l_op wn (o_val (x_assign (et (v := (Value.int .i64 r_716)) rfl)) ?_)
  refine l_nil ?_
  refine w_seq ?_
  refine w_region ?_
  refine l_op wn (o_val (x_move (et (v := (Value.int .i64 r_716)) rfl)) ?_)
  by_cases h_723 : r_716 < 0
  · refine l_op wn (o_val (x_lss (r := true) (et (v := (Value.int .i64 r_716)) rfl) ec (dec_t h_723)) ?_)
    refine l_nil ?_
    refine w_if_t (et (v := (Value.bool true)) rfl) ?_
    refine w_seq ?_
    refine w_region ?_
    refine l_op wn (o_val (x_assign ec) ?_)
    refine l_nil ?_
    refine w_ret ?_
    exact ⟨_, r_tmp (v := (Value.int .i64 (-1))) Try.results96 rfl, _, rfl, sz_close (by have := bulk_list xs; (try have bs := bulks_step ‹xs[i]? = some _›); (try have ba := bulks_all (n := i) (xs := xs) (by omega)); omega), hB_721⟩
  refine l_op wn (o_val (x_lss (r := false) (et (v := (Value.int .i64 r_716)) rfl) ec (dec_f h_723)) ?_)
  refine l_nil ?_
  refine w_if_f (et (v := (Value.bool false)) rfl) ?_
  refine w_skip ?_
  refine w_region ?_
  refine l_op wn (o_val (x_move (et (v := (Value.int .i64 (i : Int))) hs_668)) ?_)
  refine l_op wn (o_val (x_add (et (v := (Value.int .i64 (i : Int))) rfl) ec (by omega)) ?_)
  refine l_op wn (o_val (x_assign (et (v := (Value.int .i64 ((i : Int) + 1))) rfl)) ?_)
  refine l_nil ?_
  have bs := bulks_step hx_680
  exact ⟨n - (i + 1), by omega, ⟨i + 1, r_716, hs_667, vint (a := ((i : Int) + 1)) (by omega), rfl, hB_721, (by omega), (by omega), (by omega), rfl⟩⟩
theorem sz_Expr_all : ∀ k, Sz_Expr k
  | 0 => fun w x cs F left ok hr h0 h1 hc => absurd hc (by have := cnt_pos x; omega)
  | k + 1 => sz_Expr_of k (sz_ExprS_of k (sz_Expr_all k))
theorem sz_ExprS (w : World) (xs : List V) (A : Option Addr) (n c : Nat) (F : List Nat) (left : Int) (ok : Oks xs tExpr) (hr : Rep w (.list xs) [.slice A n c] F) (h0 : 0 ≤ left) (h1 : left ≤ 1048576) : Calls Try.prog 96 #[.slice A n c, .int .i64 left] w (RetI w (· = szV (.list xs) left)) := sz_ExprS_of _ (sz_Expr_all _) w xs A n c F left ok hr h0 h1 (Nat.le_refl _)
theorem sz_Expr (w : World) (x : V) (cs : List Value) (F : List Nat) (left : Int) (ok : Ok x tExpr) (hr : Rep w x cs F) (h0 : 0 ≤ left) (h1 : left ≤ 1048576) : Calls Try.prog 105 #[.agg cs.toArray, .int .i64 left] w (RetI w (· = szV x left)) := sz_Expr_all _ w x cs F left ok hr h0 h1 (Nat.le_refl _)

def Sz_SchemaS (k : Nat) : Prop := ∀ (w : World) (xs : List V) (A : Option Addr) (n c : Nat) (F : List Nat) (left : Int) (ok : Oks xs tSchema) (hr : Rep w (.list xs) [.slice A n c] F) (h0 : 0 ≤ left) (h1 : left ≤ 1048576) (hc : V.cnts xs ≤ k), Calls Try.prog 66 #[.slice A n c, .int .i64 left] w (RetI w (· = szV (.list xs) left))
def Sz_Schema (k : Nat) : Prop := ∀ (w : World) (x : V) (cs : List Value) (F : List Nat) (left : Int) (ok : Ok x tSchema) (hr : Rep w x cs F) (h0 : 0 ≤ left) (h1 : left ≤ 1048576) (hc : V.cnt x ≤ k), Calls Try.prog 85 #[.agg cs.toArray, .int .i64 left] w (RetI w (· = szV x left))
set_option maxHeartbeats 1000000 in
theorem sz_Schema_of (k : Nat) (ih : Sz_SchemaS k) : Sz_Schema (k + 1) := by
  intro w x cs F left ok hr h0 h1 hc
  obtain ⟨i_724, s_725, i_726, xs_727, A_728, n_729, c_730, F_731, xs_733, A_734, n_735, c_736, F_737, s_739, s_740, xs_741, A_742, n_743, c_744, F_745, xs_747, A_748, n_749, c_750, F_751, s_753, q_754, q_755, q_756, q_757, i_758, i_759, xs_760, A_761, n_762, c_763, F_764, xs_766, A_767, n_768, c_769, F_770, xs_772, A_773, n_774, c_775, F_776, rfl, rfl, rfl, bd_781, bd_782, bd_783, ok_784, hr_785, ln_786, ok_787, hr_788, ln_789, bd_790, bd_791, ok_792, hr_793, ln_794, ok_795, hr_796, ln_797, bd_798, bd_799, bd_800, ok_801, hr_802, ln_803, ok_804, hr_805, ln_806, ok_807, hr_808, ln_809⟩ := open_Schema ok hr
  have hbk : V.bulk (.agg [.int i_724, .str s_725, .agg [.int i_726, .list xs_727, .list xs_733, .str s_739, .str s_740], .list xs_741, .list xs_747, .str s_753, .bool q_754, .bool q_755, .bool q_756, .bool q_757, .int i_758, .int i_759, .list xs_760, .list xs_766, .list xs_772]) = s_725.size + V.bulk (.agg [.int i_726, .list xs_727, .list xs_733, .str s_739, .str s_740]) + V.bulk (.list xs_741) + V.bulk (.list xs_747) + s_753.size + V.bulk (.list xs_760) + V.bulk (.list xs_766) + V.bulk (.list xs_772) := by simp only [V.bulk, V.bulks] <;> omega
  have hck : V.cnts xs_772 < V.cnt (.agg [.int i_724, .str s_725, .agg [.int i_726, .list xs_727, .list xs_733, .str s_739, .str s_740], .list xs_741, .list xs_747, .str s_753, .bool q_754, .bool q_755, .bool q_756, .bool q_757, .int i_758, .int i_759, .list xs_760, .list xs_766, .list xs_772]) := by simp only [V.cnt, V.cnts]; omega
  have hB0 := Below.refl w.heap.size w
  refine enter (N := 56) Try.func85 rfl Try.ntmps85 rfl ?_
  refine w_seq ?_
  refine w_region ?_
  refine l_op wn (o_new (x_box (cs := [(Value.int .i64 i_724), (Value.string s_725), (Value.int .i64 i_726), (Value.slice A_728 n_729 c_730), (Value.slice A_734 n_735 c_736), (Value.string s_739), (Value.string s_740), (Value.slice A_742 n_743 c_744), (Value.slice A_748 n_749 c_750), (Value.string s_753), (Value.bool q_754), (Value.bool q_755), (Value.bool q_756), (Value.bool q_757), (Value.int .i64 i_758), (Value.int .i64 i_759), (Value.slice A_761 n_762 c_763), (Value.slice A_767 n_768 c_769), (Value.slice A_773 n_774 c_775)]) (et (v := (Value.agg #[(Value.int .i64 i_724), (Value.string s_725), (Value.int .i64 i_726), (Value.slice A_728 n_729 c_730), (Value.slice A_734 n_735 c_736), (Value.string s_739), (Value.string s_740), (Value.slice A_742 n_743 c_744), (Value.slice A_748 n_749 c_750), (Value.string s_753), (Value.bool q_754), (Value.bool q_755), (Value.bool q_756), (Value.bool q_757), (Value.int .i64 i_758), (Value.int .i64 i_759), (Value.slice A_761 n_762 c_763), (Value.slice A_767 n_768 c_769), (Value.slice A_773 n_774 c_775)])) rfl)) ?_)
  intro w_810 z_811 k_812 bx_813
  have hB_814 := below_next hB0 k_812 (by omega)
  refine l_op wn (o_val (x_assign ec) ?_)
  refine l_nil ?_
  refine w_seq ?_
  refine w_region ?_
  refine l_op wn (o_val (x_move (et (v := (Value.int .i64 left)) rfl)) ?_)
  refine l_op wn (o_val (x_field (k := 0) (j := 1) Try.underlying126 rfl Try.sizeOf9 rfl (et (v := (Value.pointer (some ⟨w.heap.size, 0, none⟩))) rfl)) ?_)
  refine l_op wn (o_val (x_load (v := (Value.string s_725)) Try.isAgg9 (et (v := (Value.pointer (some ⟨w.heap.size, 1, none⟩))) rfl) ((bx_813.cell 1).trans rfl)) ?_)
  refine l_op wn (o_val (x_slen Try.underlying9 (et (v := (Value.string s_725)) rfl)) ?_)
  refine l_op wn (o_val (x_sub (et (v := (Value.int .i64 left)) rfl) (et (v := (Value.int .i64 (s_725.size : Int))) rfl) (by omega)) ?_)
  refine l_op wn (o_val (x_assign (et (v := (Value.int .i64 (left - (s_725.size : Int)))) rfl)) ?_)
  refine l_nil ?_
  refine w_seq ?_
  refine w_seq ?_
  refine w_region ?_
  refine l_op wn (o_val (x_move (et (v := (Value.int .i64 (left - (s_725.size : Int)))) rfl)) ?_)
  by_cases h_815 : (left - (s_725.size : Int)) < 0
  · refine l_op wn (o_val (x_lss (r := true) (et (v := (Value.int .i64 (left - (s_725.size : Int)))) rfl) ec (dec_t h_815)) ?_)
    refine l_nil ?_
    refine w_if_t (et (v := (Value.bool true)) rfl) ?_
    refine w_seq ?_
    refine w_region ?_
    refine l_op wn (o_val (x_assign ec) ?_)
    refine l_nil ?_
    refine w_ret ?_
    exact ⟨_, r_tmp (v := (Value.int .i64 (-1))) Try.results85 rfl, _, rfl, sz_close (by omega), hB_814⟩
  refine l_op wn (o_val (x_lss (r := false) (et (v := (Value.int .i64 (left - (s_725.size : Int)))) rfl) ec (dec_f h_815)) ?_)
  refine l_nil ?_
  refine w_if_f (et (v := (Value.bool false)) rfl) ?_
  refine w_skip ?_
  refine w_seq ?_
  refine w_region ?_
  refine l_op wn (o_val (x_field (k := 4) (j := 2) Try.underlying126 rfl Try.sizeOf123 rfl (et (v := (Value.pointer (some ⟨w.heap.size, 0, none⟩))) rfl)) ?_)
  refine l_op wn (o_val (x_loadN (cs := [(Value.int .i64 i_726), (Value.slice A_728 n_729 c_730), (Value.slice A_734 n_735 c_736), (Value.string s_739), (Value.string s_740)]) Try.isAgg123 Try.sizeOf123 (et (v := (Value.pointer (some ⟨w.heap.size, 2, none⟩))) rfl) rfl (bx_813.lies.sub 2 5)) ?_)
  refine l_op wn (o_val (x_move (et (v := (Value.int .i64 (left - (s_725.size : Int)))) rfl)) ?_)
  have rr_820 := (ragg (rcons (rint (w := w_810) (n := i_726) bd_783) (rcons (hr_785.below hB_814) (rcons (hr_788.below hB_814) (rcons (rstr (w := w_810) (n := s_739) bd_790) (rcons (rstr (w := w_810) (n := s_740) bd_791) (rnil (w := w_810))))))))
  refine l_op wn (o_call (x_call Try.call95 ef (a2 (et (v := (Value.agg #[(Value.int .i64 i_726), (Value.slice A_728 n_729 c_730), (Value.slice A_734 n_735 c_736), (Value.string s_739), (Value.string s_740)])) rfl) (et (v := (Value.int .i64 (left - (s_725.size : Int)))) rfl))) (sz_Type w_810 (.agg [.int i_726, .list xs_727, .list xs_733, .str s_739, .str s_740]) [(Value.int .i64 i_726), (Value.slice A_728 n_729 c_730), (Value.slice A_734 n_735 c_736), (Value.string s_739), (Value.string s_740)] _ (left - (s_725.size : Int)) (ok_agg rfl (okz_cons (ok_int rfl) (okz_cons (ok_list rfl ok_784) (okz_cons (ok_list rfl ok_787) (okz_cons (ok_str rfl) (okz_cons (ok_str rfl) okz_nil)))))) rr_820 (by omega) (by omega)) ?_)
  rintro _ w_816 ⟨r_817, rfl, er_818, k_819⟩
  refine ⟨_, rfl, ?_⟩
  have sc_821 := sz_cases er_818
  have hB_822 := below_next hB_814 k_819 (by omega)
  have z_823 := k_819.size
  have bx_824 := bx_813.below k_819
  refine l_op wn (o_val (x_assign (et (v := (Value.int .i64 r_817)) rfl)) ?_)
  refine l_nil ?_
  refine w_seq ?_
  refine w_seq ?_
  refine w_region ?_
  refine l_op wn (o_val (x_move (et (v := (Value.int .i64 r_817)) rfl)) ?_)
  by_cases h_825 : r_817 < 0
  · refine l_op wn (o_val (x_lss (r := true) (et (v := (Value.int .i64 r_817)) rfl) ec (dec_t h_825)) ?_)
    refine l_nil ?_
    refine w_if_t (et (v := (Value.bool true)) rfl) ?_
    refine w_seq ?_
    refine w_region ?_
    refine l_op wn (o_val (x_assign ec) ?_)
    refine l_nil ?_
    refine w_ret ?_
    exact ⟨_, r_tmp (v := (Value.int .i64 (-1))) Try.results85 rfl, _, rfl, sz_close (by omega), hB_822⟩
  refine l_op wn (o_val (x_lss (r := false) (et (v := (Value.int .i64 r_817)) rfl) ec (dec_f h_825)) ?_)
  refine l_nil ?_
  refine w_if_f (et (v := (Value.bool false)) rfl) ?_
  refine w_skip ?_
  refine w_seq ?_
  refine w_region ?_
  refine l_op wn (o_val (x_field (k := 0) (j := 7) Try.underlying126 rfl Try.sizeOf29 rfl (et (v := (Value.pointer (some ⟨w.heap.size, 0, none⟩))) rfl)) ?_)
  refine l_op wn (o_val (x_load (v := (Value.slice A_742 n_743 c_744)) Try.isAgg29 (et (v := (Value.pointer (some ⟨w.heap.size, 7, none⟩))) rfl) ((bx_824.cell 7).trans rfl)) ?_)
  refine l_op wn (o_val (x_move (et (v := (Value.int .i64 r_817)) rfl)) ?_)
  refine l_op wn (o_call (x_call Try.call14 ef (a2 (et (v := (Value.slice A_742 n_743 c_744)) rfl) (et (v := (Value.int .i64 r_817)) rfl))) (sz_StrS w_816 xs_741 A_742 n_743 c_744 _ r_817 ok_792 (hr_793.below hB_822) (by omega) (by omega)) ?_)
  rintro _ w_826 ⟨r_827, rfl, er_828, k_829⟩
  refine ⟨_, rfl, ?_⟩
  have sc_830 := sz_cases er_828
  have hB_831 := below_next hB_822 k_829 (by omega)
  have z_832 := k_829.size
  have bx_833 := bx_824.below k_829
  refine l_op wn (o_val (x_assign (et (v := (Value.int .i64 r_827)) rfl)) ?_)
  refine l_nil ?_
  refine w_seq ?_
  refine w_seq ?_
  refine w_region ?_
  refine l_op wn (o_val (x_move (et (v := (Value.int .i64 r_827)) rfl)) ?_)
  by_cases h_834 : r_827 < 0
  · refine l_op wn (o_val (x_lss (r := true) (et (v := (Value.int .i64 r_827)) rfl) ec (dec_t h_834)) ?_)
    refine l_nil ?_
    refine w_if_t (et (v := (Value.bool true)) rfl) ?_
    refine w_seq ?_
    refine w_region ?_
    refine l_op wn (o_val (x_assign ec) ?_)
    refine l_nil ?_
    refine w_ret ?_
    exact ⟨_, r_tmp (v := (Value.int .i64 (-1))) Try.results85 rfl, _, rfl, sz_close (by omega), hB_831⟩
  refine l_op wn (o_val (x_lss (r := false) (et (v := (Value.int .i64 r_827)) rfl) ec (dec_f h_834)) ?_)
  refine l_nil ?_
  refine w_if_f (et (v := (Value.bool false)) rfl) ?_
  refine w_skip ?_
  refine w_seq ?_
  refine w_region ?_
  refine l_op wn (o_val (x_field (k := 0) (j := 8) Try.underlying126 rfl Try.sizeOf29 rfl (et (v := (Value.pointer (some ⟨w.heap.size, 0, none⟩))) rfl)) ?_)
  refine l_op wn (o_val (x_load (v := (Value.slice A_748 n_749 c_750)) Try.isAgg29 (et (v := (Value.pointer (some ⟨w.heap.size, 8, none⟩))) rfl) ((bx_833.cell 8).trans rfl)) ?_)
  refine l_op wn (o_val (x_move (et (v := (Value.int .i64 r_827)) rfl)) ?_)
  refine l_op wn (o_call (x_call Try.call14 ef (a2 (et (v := (Value.slice A_748 n_749 c_750)) rfl) (et (v := (Value.int .i64 r_827)) rfl))) (sz_StrS w_826 xs_747 A_748 n_749 c_750 _ r_827 ok_795 (hr_796.below hB_831) (by omega) (by omega)) ?_)
  rintro _ w_835 ⟨r_836, rfl, er_837, k_838⟩
  refine ⟨_, rfl, ?_⟩
  have sc_839 := sz_cases er_837
  have hB_840 := below_next hB_831 k_838 (by omega)
  have z_841 := k_838.size
  have bx_842 := bx_833.below k_838
  refine l_op wn (o_val (x_assign (et (v := (Value.int .i64 r_836)) rfl)) ?_)
  refine l_nil ?_
  refine w_seq ?_
  refine w_seq ?_
  refine w_region ?_
  refine l_op wn (o_val (x_move (et (v := (Value.int .i64 r_836)) rfl)) ?_)
  by_cases h_843 : r_836 < 0
  · refine l_op wn (o_val (x_lss (r := true) (et (v := (Value.int .i64 r_836)) rfl) ec (dec_t h_843)) ?_)
    refine l_nil ?_
    refine w_if_t (et (v := (Value.bool true)) rfl) ?_
    refine w_seq ?_
    refine w_region ?_
    refine l_op wn (o_val (x_assign ec) ?_)
    refine l_nil ?_
    refine w_ret ?_
    exact ⟨_, r_tmp (v := (Value.int .i64 (-1))) Try.results85 rfl, _, rfl, sz_close (by omega), hB_840⟩
  refine l_op wn (o_val (x_lss (r := false) (et (v := (Value.int .i64 r_836)) rfl) ec (dec_f h_843)) ?_)
  refine l_nil ?_
  refine w_if_f (et (v := (Value.bool false)) rfl) ?_
  refine w_skip ?_
  refine w_seq ?_
  refine w_region ?_
  refine l_op wn (o_val (x_move (et (v := (Value.int .i64 r_836)) rfl)) ?_)
  refine l_op wn (o_val (x_field (k := 0) (j := 9) Try.underlying126 rfl Try.sizeOf9 rfl (et (v := (Value.pointer (some ⟨w.heap.size, 0, none⟩))) rfl)) ?_)
  refine l_op wn (o_val (x_load (v := (Value.string s_753)) Try.isAgg9 (et (v := (Value.pointer (some ⟨w.heap.size, 9, none⟩))) rfl) ((bx_842.cell 9).trans rfl)) ?_)
  refine l_op wn (o_val (x_slen Try.underlying9 (et (v := (Value.string s_753)) rfl)) ?_)
  refine l_op wn (o_val (x_sub (et (v := (Value.int .i64 r_836)) rfl) (et (v := (Value.int .i64 (s_753.size : Int))) rfl) (by omega)) ?_)
  refine l_op wn (o_val (x_assign (et (v := (Value.int .i64 (r_836 - (s_753.size : Int)))) rfl)) ?_)
  refine l_nil ?_
  refine w_seq ?_
  refine w_seq ?_
  refine w_region ?_
  refine l_op wn (o_val (x_move (et (v := (Value.int .i64 (r_836 - (s_753.size : Int)))) rfl)) ?_)
  by_cases h_844 : (r_836 - (s_753.size : Int)) < 0
  · refine l_op wn (o_val (x_lss (r := true) (et (v := (Value.int .i64 (r_836 - (s_753.size : Int)))) rfl) ec (dec_t h_844)) ?_)
    refine l_nil ?_
    refine w_if_t (et (v := (Value.bool true)) rfl) ?_
    refine w_seq ?_
    refine w_region ?_
    refine l_op wn (o_val (x_assign ec) ?_)
    refine l_nil ?_
    refine w_ret ?_
    exact ⟨_, r_tmp (v := (Value.int .i64 (-1))) Try.results85 rfl, _, rfl, sz_close (by omega), hB_840⟩
  refine l_op wn (o_val (x_lss (r := false) (et (v := (Value.int .i64 (r_836 - (s_753.size : Int)))) rfl) ec (dec_f h_844)) ?_)
  refine l_nil ?_
  refine w_if_f (et (v := (Value.bool false)) rfl) ?_
  refine w_skip ?_
  refine w_seq ?_
  refine w_region ?_
  refine l_op wn (o_val (x_field (k := 0) (j := 16) Try.underlying126 rfl Try.sizeOf124 rfl (et (v := (Value.pointer (some ⟨w.heap.size, 0, none⟩))) rfl)) ?_)
  refine l_op wn (o_val (x_load (v := (Value.slice A_761 n_762 c_763)) Try.isAgg124 (et (v := (Value.pointer (some ⟨w.heap.size, 16, none⟩))) rfl) ((bx_842.cell 16).trans rfl)) ?_)
  refine l_op wn (o_val (x_move (et (v := (Value.int .i64 (r_836 - (s_753.size : Int)))) rfl)) ?_)
  refine l_op wn (o_call (x_call Try.call96 ef (a2 (et (v := (Value.slice A_761 n_762 c_763)) rfl) (et (v := (Value.int .i64 (r_836 - (s_753.size : Int)))) rfl))) (sz_ExprS w_835 xs_760 A_761 n_762 c_763 _ (r_836 - (s_753.size : Int)) ok_801 (hr_802.below hB_840) (by omega) (by omega)) ?_)
  rintro _ w_845 ⟨r_846, rfl, er_847, k_848⟩
  refine ⟨_, rfl, ?_⟩
  have sc_849 := sz_cases er_847
  have hB_850 := below_next hB_840 k_848 (by omega)
  have z_851 := k_848.size
  have bx_852 := bx_842.below k_848
  refine l_op wn (o_val (x_assign (et (v := (Value.int .i64 r_846)) rfl)) ?_)
  refine l_nil ?_
  refine w_seq ?_
  refine w_seq ?_
  refine w_region ?_
  refine l_op wn (o_val (x_move (et (v := (Value.int .i64 r_846)) rfl)) ?_)
  by_cases h_853 : r_846 < 0
  · refine l_op wn (o_val (x_lss (r := true) (et (v := (Value.int .i64 r_846)) rfl) ec (dec_t h_853)) ?_)
    refine l_nil ?_
    refine w_if_t (et (v := (Value.bool true)) rfl) ?_
    refine w_seq ?_
    refine w_region ?_
    refine l_op wn (o_val (x_assign ec) ?_)
    refine l_nil ?_
    refine w_ret ?_
    exact ⟨_, r_tmp (v := (Value.int .i64 (-1))) Try.results85 rfl, _, rfl, sz_close (by omega), hB_850⟩
  refine l_op wn (o_val (x_lss (r := false) (et (v := (Value.int .i64 r_846)) rfl) ec (dec_f h_853)) ?_)
  refine l_nil ?_
  refine w_if_f (et (v := (Value.bool false)) rfl) ?_
  refine w_skip ?_
  refine w_seq ?_
  refine w_region ?_
  refine l_op wn (o_val (x_field (k := 0) (j := 17) Try.underlying126 rfl Try.sizeOf124 rfl (et (v := (Value.pointer (some ⟨w.heap.size, 0, none⟩))) rfl)) ?_)
  refine l_op wn (o_val (x_load (v := (Value.slice A_767 n_768 c_769)) Try.isAgg124 (et (v := (Value.pointer (some ⟨w.heap.size, 17, none⟩))) rfl) ((bx_852.cell 17).trans rfl)) ?_)
  refine l_op wn (o_val (x_move (et (v := (Value.int .i64 r_846)) rfl)) ?_)
  refine l_op wn (o_call (x_call Try.call96 ef (a2 (et (v := (Value.slice A_767 n_768 c_769)) rfl) (et (v := (Value.int .i64 r_846)) rfl))) (sz_ExprS w_845 xs_766 A_767 n_768 c_769 _ r_846 ok_804 (hr_805.below hB_850) (by omega) (by omega)) ?_)
  rintro _ w_854 ⟨r_855, rfl, er_856, k_857⟩
  refine ⟨_, rfl, ?_⟩
  have sc_858 := sz_cases er_856
  have hB_859 := below_next hB_850 k_857 (by omega)
  have z_860 := k_857.size
  have bx_861 := bx_852.below k_857
  refine l_op wn (o_val (x_assign (et (v := (Value.int .i64 r_855)) rfl)) ?_)
  refine l_nil ?_
  refine w_seq ?_
  refine w_seq ?_
  refine w_region ?_
  refine l_op wn (o_val (x_move (et (v := (Value.int .i64 r_855)) rfl)) ?_)
  by_cases h_862 : r_855 < 0
  · refine l_op wn (o_val (x_lss (r := true) (et (v := (Value.int .i64 r_855)) rfl) ec (dec_t h_862)) ?_)
    refine l_nil ?_
    refine w_if_t (et (v := (Value.bool true)) rfl) ?_
    refine w_seq ?_
    refine w_region ?_
    refine l_op wn (o_val (x_assign ec) ?_)
    refine l_nil ?_
    refine w_ret ?_
    exact ⟨_, r_tmp (v := (Value.int .i64 (-1))) Try.results85 rfl, _, rfl, sz_close (by omega), hB_859⟩
  refine l_op wn (o_val (x_lss (r := false) (et (v := (Value.int .i64 r_855)) rfl) ec (dec_f h_862)) ?_)
  refine l_nil ?_
  refine w_if_f (et (v := (Value.bool false)) rfl) ?_
  refine w_skip ?_
  refine w_seq ?_
  refine w_region ?_
  refine l_op wn (o_val (x_field (k := 0) (j := 18) Try.underlying126 rfl Try.sizeOf55 rfl (et (v := (Value.pointer (some ⟨w.heap.size, 0, none⟩))) rfl)) ?_)
  refine l_op wn (o_val (x_load (v := (Value.slice A_773 n_774 c_775)) Try.isAgg55 (et (v := (Value.pointer (some ⟨w.heap.size, 18, none⟩))) rfl) ((bx_861.cell 18).trans rfl)) ?_)
  refine l_op wn (o_val (x_move (et (v := (Value.int .i64 r_855)) rfl)) ?_)
  refine l_op wn (o_call (x_call Try.call66 ef (a2 (et (v := (Value.slice A_773 n_774 c_775)) rfl) (et (v := (Value.int .i64 r_855)) rfl))) (ih w_854 xs_772 A_773 n_774 c_775 _ r_855 ok_807 (hr_808.below hB_859) (by omega) (by omega) (by omega)) ?_)
  rintro _ w_863 ⟨r_864, rfl, er_865, k_866⟩
  refine ⟨_, rfl, ?_⟩
  have sc_867 := sz_cases er_865
  have hB_868 := below_next hB_859 k_866 (by omega)
  have z_869 := k_866.size
  have bx_870 := bx_861.below k_866
  refine l_op wn (o_val (x_assign (et (v := (Value.int .i64 r_864)) rfl)) ?_)
  refine l_nil ?_
  refine w_seq ?_
  refine w_seq ?_
  refine w_region ?_
  refine l_op wn (o_val (x_move (et (v := (Value.int .i64 r_864)) rfl)) ?_)
  by_cases h_871 : r_864 < 0
  · refine l_op wn (o_val (x_lss (r := true) (et (v := (Value.int .i64 r_864)) rfl) ec (dec_t h_871)) ?_)
    refine l_nil ?_
    refine w_if_t (et (v := (Value.bool true)) rfl) ?_
    refine w_seq ?_
    refine w_region ?_
    refine l_op wn (o_val (x_assign ec) ?_)
    refine l_nil ?_
    refine w_ret ?_
    exact ⟨_, r_tmp (v := (Value.int .i64 (-1))) Try.results85 rfl, _, rfl, sz_close (by omega), hB_868⟩
  refine l_op wn (o_val (x_lss (r := false) (et (v := (Value.int .i64 r_864)) rfl) ec (dec_f h_871)) ?_)
  refine l_nil ?_
  refine w_if_f (et (v := (Value.bool false)) rfl) ?_
  refine w_skip ?_
  refine w_seq ?_
  refine w_region ?_
  refine l_op wn (o_val (x_move (et (v := (Value.int .i64 r_864)) rfl)) ?_)
  refine l_op wn (o_val (x_assign (et (v := (Value.int .i64 r_864)) rfl)) ?_)
  refine l_nil ?_
  refine w_ret ?_
  exact ⟨_, r_tmp (v := (Value.int .i64 r_864)) Try.results85 rfl, _, rfl, sz_close (by omega), hB_868⟩

set_option maxHeartbeats 1000000 in
theorem sz_SchemaS_of (k : Nat) (ih : Sz_Schema k) : Sz_SchemaS k := by
  intro w xs A n c F left ok hr h0 h1 hc
  have hB0 := Below.refl w.heap.size w
  obtain ⟨ln, lc, lm⟩ := hr.len
  refine enter (N := 27) Try.func66 rfl Try.ntmps66 rfl ?_
  refine w_seq ?_
  refine w_region ?_
  refine l_op wn (o_val (x_assign ec) ?_)
  refine l_nil ?_
  refine w_seq ?_
  refine w_region ?_
  refine l_op wn (o_val (x_move (et (v := (Value.int .i64 left)) rfl)) ?_)
  refine l_op wn (o_val (x_move (et (v := (Value.slice A n c)) rfl)) ?_)
  refine l_op wn (o_val (x_len Try.underlying55 (et (v := (Value.slice A n c)) rfl)) ?_)
  refine l_op wn (o_val (x_sub (et (v := (Value.int .i64 left)) rfl) (et (v := (Value.int .i64 (n : Int))) rfl) (by omega)) ?_)
  refine l_op wn (o_val (x_assign (et (v := (Value.int .i64 (left - (n : Int)))) rfl)) ?_)
  refine l_nil ?_
  refine w_seq ?_
  refine w_seq ?_
  refine w_region ?_
  refine l_op wn (o_val (x_move (et (v := (Value.int .i64 (left - (n : Int)))) rfl)) ?_)
  by_cases h_872 : (left - (n : Int)) < 0
  · refine l_op wn (o_val (x_lss (r := true) (et (v := (Value.int .i64 (left - (n : Int)))) rfl) ec (dec_t h_872)) ?_)
    refine l_nil ?_
    refine w_if_t (et (v := (Value.bool true)) rfl) ?_
    refine w_seq ?_
    refine w_region ?_
    refine l_op wn (o_val (x_assign ec) ?_)
    refine l_nil ?_
    refine w_ret ?_
    exact ⟨_, r_tmp (v := (Value.int .i64 (-1))) Try.results66 rfl, _, rfl, sz_close (by have := bulk_list xs; (try have bs := bulks_step ‹xs[i]? = some _›); (try have ba := bulks_all (n := i) (xs := xs) (by omega)); omega), hB0⟩
  refine l_op wn (o_val (x_lss (r := false) (et (v := (Value.int .i64 (left - (n : Int)))) rfl) ec (dec_f h_872)) ?_)
  refine l_nil ?_
  refine w_if_f (et (v := (Value.bool false)) rfl) ?_
  refine w_skip ?_
  refine w_seq ?_
  refine w_seq ?_
  refine w_region ?_
  refine l_op wn (o_val (x_assign ec) ?_)
  refine l_nil ?_
  refine w_block ?_
  refine w_loop (fun μ f w' => ∃ (i : Nat), ∃ (l : Int), f 0 = (Value.slice A n c) ∧ f 5 = (Value.int .i64 (i : Int)) ∧ f 1 = (Value.int .i64 l) ∧ Below w.heap.size w w' ∧ (i ≤ n) ∧ (l = left - n - V.bulks (xs.take i)) ∧ (0 ≤ l) ∧ μ = n - i) (n - 0) ?_ ?_
  · exact ⟨0, left - (n : Int), rfl, vint (a := 0) (by omega), rfl, hB0, (by omega), (by simp [V.bulks]), (by omega), rfl⟩
  rintro m_875 f_873 w_874 ⟨i, l, hs_877, hs_878, hs_879, hB_876, hi, hl, hl0, rfl⟩
  have z_880 := hB_876.size
  refine w_seq ?_
  refine w_seq ?_
  refine w_region ?_
  refine l_op wn (o_val (x_move (et (v := (Value.int .i64 (i : Int))) hs_878)) ?_)
  refine l_op wn (o_val (x_move (et (v := (Value.slice A n c)) hs_877)) ?_)
  refine l_op wn (o_val (x_len Try.underlying55 (et (v := (Value.slice A n c)) rfl)) ?_)
  by_cases h_881 : (i : Int) < (n : Int)
  rotate_left
  · refine l_op wn (o_val (x_lss (r := false) (et (v := (Value.int .i64 (i : Int))) rfl) (et (v := (Value.int .i64 (n : Int))) rfl) (dec_f h_881)) ?_)
    refine l_nil ?_
    refine w_if_f (et (v := (Value.bool false)) rfl) ?_
    refine w_exit ?_
    refine Eq.mpr (if_pos rfl) ?_
    refine w_seq ?_
    refine w_region ?_
    refine l_op wn (o_val (x_move (et (v := (Value.int .i64 l)) hs_879)) ?_)
    refine l_op wn (o_val (x_assign (et (v := (Value.int .i64 l)) rfl)) ?_)
    refine l_nil ?_
    refine w_ret ?_
    exact ⟨_, r_tmp (v := (Value.int .i64 l)) Try.results66 rfl, _, rfl, sz_close (by have := bulk_list xs; (try have bs := bulks_step ‹xs[i]? = some _›); (try have ba := bulks_all (n := i) (xs := xs) (by omega)); omega), hB_876⟩
  refine l_op wn (o_val (x_lss (r := true) (et (v := (Value.int .i64 (i : Int))) rfl) (et (v := (Value.int .i64 (n : Int))) rfl) (dec_t h_881)) ?_)
  refine l_nil ?_
  refine w_if_t (et (v := (Value.bool true)) rfl) ?_
  refine w_skip ?_
  refine w_seq ?_
  refine w_block ?_
  refine w_seq ?_
  refine w_region ?_
  refine l_op wn (o_val (x_move (et (v := (Value.slice A n c)) hs_877)) ?_)
  refine l_op wn (o_val (x_move (et (v := (Value.int .i64 (i : Int))) hs_878)) ?_)
  obtain ⟨b_882, o_883, x_884, cs_885, G_886, hA_887, hbF_888, hlt_889, hx_890, hrx_891, hG_892, hl_893, hcl_894⟩ := hr.elem (k := 19) (fun y hy => wd_Schema (ok.mem y hy)) (i := i) (by omega)
  obtain ⟨i_895, s_896, i_897, xs_898, A_899, n_900, c_901, F_902, xs_904, A_905, n_906, c_907, F_908, s_910, s_911, xs_912, A_913, n_914, c_915, F_916, xs_918, A_919, n_920, c_921, F_922, s_924, q_925, q_926, q_927, q_928, i_929, i_930, xs_931, A_932, n_933, c_934, F_935, xs_937, A_938, n_939, c_940, F_941, xs_943, A_944, n_945, c_946, F_947, rfl, rfl, rfl, bd_952, bd_953, bd_954, ok_955, hr_956, ln_957, ok_958, hr_959, ln_960, bd_961, bd_962, ok_963, hr_964, ln_965, ok_966, hr_967, ln_968, bd_969, bd_970, bd_971, ok_972, hr_973, ln_974, ok_975, hr_976, ln_977, ok_978, hr_979, ln_980⟩ := open_Schema (ok.get hx_890) hrx_891
  refine l_op wn (o_val (x_index' (i := i) Try.underlying55 Try.sizeOf126 (et (v := (Value.slice A n c)) rfl) hA_887 (et (v := (Value.int .i64 (i : Int))) rfl) (by omega) (by omega)) ?_)
  refine l_op wn (o_val (x_loadN (cs := [(Value.int .i64 i_895), (Value.string s_896), (Value.int .i64 i_897), (Value.slice A_899 n_900 c_901), (Value.slice A_905 n_906 c_907), (Value.string s_910), (Value.string s_911), (Value.slice A_913 n_914 c_915), (Value.slice A_919 n_920 c_921), (Value.string s_924), (Value.bool q_925), (Value.bool q_926), (Value.bool q_927), (Value.bool q_928), (Value.int .i64 i_929), (Value.int .i64 i_930), (Value.slice A_932 n_933 c_934), (Value.slice A_938 n_939 c_940), (Value.slice A_944 n_945 c_946)]) Try.isAgg126 Try.sizeOf126 (et (v := (Value.pointer (some ⟨b_882, o_883 + i * 19, none⟩))) rfl) rfl ((hl_893.keep (hB_876.block _ hlt_889)))) ?_)
  refine l_op wn (o_val (x_move (et (v := (Value.int .i64 l)) hs_879)) ?_)
  have rr_985 := (ragg (rcons (rint (w := w_874) (n := i_895) bd_952) (rcons (rstr (w := w_874) (n := s_896) bd_953) (rcons (ragg (rcons (rint (w := w_874) (n := i_897) bd_954) (rcons (hr_956.below hB_876) (rcons (hr_959.below hB_876) (rcons (rstr (w := w_874) (n := s_910) bd_961) (rcons (rstr (w := w_874) (n := s_911) bd_962) (rnil (w := w_874)))))))) (rcons (hr_964.below hB_876) (rcons (hr_967.below hB_876) (rcons (rstr (w := w_874) (n := s_924) bd_969) (rcons (rbool (w := w_874) (n := q_925)) (rcons (rbool (w := w_874) (n := q_926)) (rcons (rbool (w := w_874) (n := q_927)) (rcons (rbool (w := w_874) (n := q_928)) (rcons (rint (w := w_874) (n := i_929) bd_970) (rcons (rint (w := w_874) (n := i_930) bd_971) (rcons (hr_973.below hB_876) (rcons (hr_976.below hB_876) (rcons (hr_979.below hB_876) (rnil (w := w_874))))))))))))))))))
  refine l_op wn (o_call (x_call Try.call85 ef (a2 (et (v := (Value.agg #[(Value.int .i64 i_895), (Value.string s_896), (Value.int .i64 i_897), (Value.slice A_899 n_900 c_901), (Value.slice A_905 n_906 c_907), (Value.string s_910), (Value.string s_911), (Value.slice A_913 n_914 c_915), (Value.slice A_919 n_920 c_921), (Value.string s_924), (Value.bool q_925), (Value.bool q_926), (Value.bool q_927), (Value.bool q_928), (Value.int .i64 i_929), (Value.int .i64 i_930), (Value.slice A_932 n_933 c_934), (Value.slice A_938 n_939 c_940), (Value.slice A_944 n_945 c_946)])) rfl) (et (v := (Value.int .i64 l)) rfl))) (ih w_874 (.agg [.int i_895, .str s_896, .agg [.int i_897, .list xs_898, .list xs_904, .str s_910, .str s_911], .list xs_912, .list xs_918, .str s_924, .bool q_925, .bool q_926, .bool q_927, .bool q_928, .int i_929, .int i_930, .list xs_931, .list xs_937, .list xs_943]) [(Value.int .i64 i_895), (Value.string s_896), (Value.int .i64 i_897), (Value.slice A_899 n_900 c_901), (Value.slice A_905 n_906 c_907), (Value.string s_910), (Value.string s_911), (Value.slice A_913 n_914 c_915), (Value.slice A_919 n_920 c_921), (Value.string s_924), (Value.bool q_925), (Value.bool q_926), (Value.bool q_927), (Value.bool q_928), (Value.int .i64 i_929), (Value.int .i64 i_930), (Value.slice A_932 n_933 c_934), (Value.slice A_938 n_939 c_940), (Value.slice A_944 n_945 c_946)] _ l (ok_agg rfl (okz_cons (ok_int rfl) (okz_cons (ok_str rfl) (okz_cons (ok_agg rfl (okz_cons (ok_int rfl) (okz_cons (ok_list rfl ok_955) (okz_cons (ok_list rfl ok_958) (okz_cons (ok_str rfl) (okz_cons (ok_str rfl) okz_nil)))))) (okz_cons (ok_list rfl ok_963) (okz_cons (ok_list rfl ok_966) (okz_cons (ok_str rfl) (okz_cons (ok_bool rfl) (okz_cons (ok_bool rfl) (okz_cons (ok_bool rfl) (okz_cons (ok_bool rfl) (okz_cons (ok_int rfl) (okz_cons (ok_int rfl) (okz_cons (ok_list rfl ok_972) (okz_cons (ok_list rfl ok_975) (okz_cons (ok_list rfl ok_978) okz_nil)))))))))))))))) rr_985 (by omega) (by omega) (by have := cnt_mem hx_890; omega)) ?_)
  rintro _ w_981 ⟨r_982, rfl, er_983, k_984⟩
  refine ⟨_, rfl, ?_⟩
  have sc_986 := sz_cases er_983
  have hB_987 := below_next hB_876 k_984 (by omega)
  have z_988 := k_984.size
  refine l_op wn (o_val (x_assign (et (v := (Value.int .i64 r_982)) rfl)) ?_)
  refine l_nil ?_
  refine w_seq ?_
  refine w_region ?_
  refine l_op wn (o_val (x_move (et (v := (Value.int .i64 r_982)) rfl)) ?_)
  by_cases h_989 : r_982 < 0
  · refine l_op wn (o_val (x_lss (r := true) (et (v := (Value.int .i64 r_982)) rfl) ec (dec_t h_989)) ?_)
    refine l_nil ?_
    refine w_if_t (et (v := (Value.bool true)) rfl) ?_
    refine w_seq ?_
    refine w_region ?_
    refine l_op wn (o_val (x_assign ec) ?_)
    refine l_nil ?_
    refine w_ret ?_
    exact ⟨_, r_tmp (v := (Value.int .i64 (-1))) Try.results66 rfl, _, rfl, sz_close (by have := bulk_list xs; (try have bs := bulks_step ‹xs[i]? = some _›); (try have ba := bulks_all (n := i) (xs := xs) (by omega)); omega), hB_987⟩
  refine l_op wn (o_val (x_lss (r := false) (et (v := (Value.int .i64 r_982)) rfl) ec (dec_f h_989)) ?_)
  refine l_nil ?_
  refine w_if_f (et (v := (Value.bool false)) rfl) ?_
  refine w_skip ?_
  refine w_region ?_
  refine l_op wn (o_val (x_move (et (v := (Value.int .i64 (i : Int))) hs_878)) ?_)
  refine l_op wn (o_val (x_add (et (v := (Value.int .i64 (i : Int))) rfl) ec (by omega)) ?_)
  refine l_op wn (o_val (x_assign (et (v := (Value.int .i64 ((i : Int) + 1))) rfl)) ?_)
  refine l_nil ?_
  have bs := bulks_step hx_890
  exact ⟨n - (i + 1), by omega, ⟨i + 1, r_982, hs_877, vint (a := ((i : Int) + 1)) (by omega), rfl, hB_987, (by omega), (by omega), (by omega), rfl⟩⟩
theorem sz_Schema_all : ∀ k, Sz_Schema k
  | 0 => fun w x cs F left ok hr h0 h1 hc => absurd hc (by have := cnt_pos x; omega)
  | k + 1 => sz_Schema_of k (sz_SchemaS_of k (sz_Schema_all k))
theorem sz_SchemaS (w : World) (xs : List V) (A : Option Addr) (n c : Nat) (F : List Nat) (left : Int) (ok : Oks xs tSchema) (hr : Rep w (.list xs) [.slice A n c] F) (h0 : 0 ≤ left) (h1 : left ≤ 1048576) : Calls Try.prog 66 #[.slice A n c, .int .i64 left] w (RetI w (· = szV (.list xs) left)) := sz_SchemaS_of _ (sz_Schema_all _) w xs A n c F left ok hr h0 h1 (Nat.le_refl _)
theorem sz_Schema (w : World) (x : V) (cs : List Value) (F : List Nat) (left : Int) (ok : Ok x tSchema) (hr : Rep w x cs F) (h0 : 0 ≤ left) (h1 : left ≤ 1048576) : Calls Try.prog 85 #[.agg cs.toArray, .int .i64 left] w (RetI w (· = szV x left)) := sz_Schema_all _ w x cs F left ok hr h0 h1 (Nat.le_refl _)

set_option maxHeartbeats 200000 in
theorem sz_Version (w : World) (x : V) (cs : List Value) (F : List Nat) (left : Int) (ok : Ok x tVersion) (hr : Rep w x cs F) (h0 : 0 ≤ left) (h1 : left ≤ 1048576) : Calls Try.prog 86 #[.agg cs.toArray, .int .i64 left] w (RetI w (· = szV x left)) := by
  obtain ⟨xs_990, A_991, n_992, c_993, F_994, i_996, i_997, rfl, rfl, rfl, ok_1001, hr_1002, ln_1003, bd_1004, bd_1005⟩ := open_Version ok hr
  have hbk : V.bulk (.agg [.list xs_990, .int i_996, .int i_997]) = V.bulk (.list xs_990) := by simp only [V.bulk, V.bulks] <;> omega
  have hB0 := Below.refl w.heap.size w
  refine enter (N := 12) Try.func86 rfl Try.ntmps86 rfl ?_
  refine w_seq ?_
  refine w_region ?_
  refine l_op wn (o_new (x_box (cs := [(Value.slice A_991 n_992 c_993), (Value.int .i64 i_996), (Value.int .i64 i_997)]) (et (v := (Value.agg #[(Value.slice A_991 n_992 c_993), (Value.int .i64 i_996), (Value.int .i64 i_997)])) rfl)) ?_)
  intro w_1006 z_1007 k_1008 bx_1009
  have hB_1010 := below_next hB0 k_1008 (by omega)
  refine l_op wn (o_val (x_assign ec) ?_)
  refine l_nil ?_
  refine w_seq ?_
  refine w_region ?_
  refine l_op wn (o_val (x_field (k := 0) (j := 0) Try.underlying129 rfl Try.sizeOf35 rfl (et (v := (Value.pointer (some ⟨w.heap.size, 0, none⟩))) rfl)) ?_)
  refine l_op wn (o_val (x_load (v := (Value.slice A_991 n_992 c_993)) Try.isAgg35 (et (v := (Value.pointer (some ⟨w.heap.size, 0, none⟩))) rfl) ((bx_1009.cell 0).trans rfl)) ?_)
  refine l_op wn (o_val (x_move (et (v := (Value.int .i64 left)) rfl)) ?_)
  refine l_op wn (o_call (x_call Try.call24 ef (a2 (et (v := (Value.slice A_991 n_992 c_993)) rfl) (et (v := (Value.int .i64 left)) rfl))) (sz_NodeS w_1006 xs_990 A_991 n_992 c_993 _ left ok_1001 (hr_1002.below hB_1010) (by omega) (by omega)) ?_)
  rintro _ w_1011 ⟨r_1012, rfl, er_1013, k_1014⟩
  refine ⟨_, rfl, ?_⟩
  have sc_1015 := sz_cases er_1013
  have hB_1016 := below_next hB_1010 k_1014 (by omega)
  have z_1017 := k_1014.size
  have bx_1018 := bx_1009.below k_1014
  refine l_op wn (o_val (x_assign (et (v := (Value.int .i64 r_1012)) rfl)) ?_)
  refine l_nil ?_
  refine w_seq ?_
  refine w_seq ?_
  refine w_region ?_
  refine l_op wn (o_val (x_move (et (v := (Value.int .i64 r_1012)) rfl)) ?_)
  by_cases h_1019 : r_1012 < 0
  · refine l_op wn (o_val (x_lss (r := true) (et (v := (Value.int .i64 r_1012)) rfl) ec (dec_t h_1019)) ?_)
    refine l_nil ?_
    refine w_if_t (et (v := (Value.bool true)) rfl) ?_
    refine w_seq ?_
    refine w_region ?_
    refine l_op wn (o_val (x_assign ec) ?_)
    refine l_nil ?_
    refine w_ret ?_
    exact ⟨_, r_tmp (v := (Value.int .i64 (-1))) Try.results86 rfl, _, rfl, sz_close (by omega), hB_1016⟩
  refine l_op wn (o_val (x_lss (r := false) (et (v := (Value.int .i64 r_1012)) rfl) ec (dec_f h_1019)) ?_)
  refine l_nil ?_
  refine w_if_f (et (v := (Value.bool false)) rfl) ?_
  refine w_skip ?_
  refine w_seq ?_
  refine w_region ?_
  refine l_op wn (o_val (x_move (et (v := (Value.int .i64 r_1012)) rfl)) ?_)
  refine l_op wn (o_val (x_assign (et (v := (Value.int .i64 r_1012)) rfl)) ?_)
  refine l_nil ?_
  refine w_ret ?_
  exact ⟨_, r_tmp (v := (Value.int .i64 r_1012)) Try.results86 rfl, _, rfl, sz_close (by omega), hB_1016⟩

set_option maxHeartbeats 200000 in
theorem sz_VersionS (w : World) (xs : List V) (A : Option Addr) (n c : Nat) (F : List Nat) (left : Int) (ok : Oks xs tVersion) (hr : Rep w (.list xs) [.slice A n c] F) (h0 : 0 ≤ left) (h1 : left ≤ 1048576) : Calls Try.prog 67 #[.slice A n c, .int .i64 left] w (RetI w (· = szV (.list xs) left)) := by
  have hB0 := Below.refl w.heap.size w
  obtain ⟨ln, lc, lm⟩ := hr.len
  refine enter (N := 27) Try.func67 rfl Try.ntmps67 rfl ?_
  refine w_seq ?_
  refine w_region ?_
  refine l_op wn (o_val (x_assign ec) ?_)
  refine l_nil ?_
  refine w_seq ?_
  refine w_region ?_
  refine l_op wn (o_val (x_move (et (v := (Value.int .i64 left)) rfl)) ?_)
  refine l_op wn (o_val (x_move (et (v := (Value.slice A n c)) rfl)) ?_)
  refine l_op wn (o_val (x_len Try.underlying56 (et (v := (Value.slice A n c)) rfl)) ?_)
  refine l_op wn (o_val (x_sub (et (v := (Value.int .i64 left)) rfl) (et (v := (Value.int .i64 (n : Int))) rfl) (by omega)) ?_)
  refine l_op wn (o_val (x_assign (et (v := (Value.int .i64 (left - (n : Int)))) rfl)) ?_)
  refine l_nil ?_
  refine w_seq ?_
  refine w_seq ?_
  refine w_region ?_
  refine l_op wn (o_val (x_move (et (v := (Value.int .i64 (left - (n : Int)))) rfl)) ?_)
  by_cases h_1020 : (left - (n : Int)) < 0
  · refine l_op wn (o_val (x_lss (r := true) (et (v := (Value.int .i64 (left - (n : Int)))) rfl) ec (dec_t h_1020)) ?_)
    refine l_nil ?_
    refine w_if_t (et (v := (Value.bool true)) rfl) ?_
    refine w_seq ?_
    refine w_region ?_
    refine l_op wn (o_val (x_assign ec) ?_)
    refine l_nil ?_
    refine w_ret ?_
    exact ⟨_, r_tmp (v := (Value.int .i64 (-1))) Try.results67 rfl, _, rfl, sz_close (by have := bulk_list xs; (try have bs := bulks_step ‹xs[i]? = some _›); (try have ba := bulks_all (n := i) (xs := xs) (by omega)); omega), hB0⟩
  refine l_op wn (o_val (x_lss (r := false) (et (v := (Value.int .i64 (left - (n : Int)))) rfl) ec (dec_f h_1020)) ?_)
  refine l_nil ?_
  refine w_if_f (et (v := (Value.bool false)) rfl) ?_
  refine w_skip ?_
  refine w_seq ?_
  refine w_seq ?_
  refine w_region ?_
  refine l_op wn (o_val (x_assign ec) ?_)
  refine l_nil ?_
  refine w_block ?_
  refine w_loop (fun μ f w' => ∃ (i : Nat), ∃ (l : Int), f 0 = (Value.slice A n c) ∧ f 5 = (Value.int .i64 (i : Int)) ∧ f 1 = (Value.int .i64 l) ∧ Below w.heap.size w w' ∧ (i ≤ n) ∧ (l = left - n - V.bulks (xs.take i)) ∧ (0 ≤ l) ∧ μ = n - i) (n - 0) ?_ ?_
  · exact ⟨0, left - (n : Int), rfl, vint (a := 0) (by omega), rfl, hB0, (by omega), (by simp [V.bulks]), (by omega), rfl⟩
  rintro m_1023 f_1021 w_1022 ⟨i, l, hs_1025, hs_1026, hs_1027, hB_1024, hi, hl, hl0, rfl⟩
  have z_1028 := hB_1024.size
  refine w_seq ?_
  refine w_seq ?_
  refine w_region ?_
  refine l_op wn (o_val (x_move (et (v := (Value.int .i64 (i : Int))) hs_1026)) ?_)
  refine l_op wn (o_val (x_move (et (v := (Value.slice A n c)) hs_1025)) ?_)
  refine l_op wn (o_val (x_len Try.underlying56 (et (v := (Value.slice A n c)) rfl)) ?_)
  by_cases h_1029 : (i : Int) < (n : Int)
  rotate_left
  · refine l_op wn (o_val (x_lss (r := false) (et (v := (Value.int .i64 (i : Int))) rfl) (et (v := (Value.int .i64 (n : Int))) rfl) (dec_f h_1029)) ?_)
    refine l_nil ?_
    refine w_if_f (et (v := (Value.bool false)) rfl) ?_
    refine w_exit ?_
    refine Eq.mpr (if_pos rfl) ?_
    refine w_seq ?_
    refine w_region ?_
    refine l_op wn (o_val (x_move (et (v := (Value.int .i64 l)) hs_1027)) ?_)
    refine l_op wn (o_val (x_assign (et (v := (Value.int .i64 l)) rfl)) ?_)
    refine l_nil ?_
    refine w_ret ?_
    exact ⟨_, r_tmp (v := (Value.int .i64 l)) Try.results67 rfl, _, rfl, sz_close (by have := bulk_list xs; (try have bs := bulks_step ‹xs[i]? = some _›); (try have ba := bulks_all (n := i) (xs := xs) (by omega)); omega), hB_1024⟩
  refine l_op wn (o_val (x_lss (r := true) (et (v := (Value.int .i64 (i : Int))) rfl) (et (v := (Value.int .i64 (n : Int))) rfl) (dec_t h_1029)) ?_)
  refine l_nil ?_
  refine w_if_t (et (v := (Value.bool true)) rfl) ?_
  refine w_skip ?_
  refine w_seq ?_
  refine w_block ?_
  refine w_seq ?_
  refine w_region ?_
  refine l_op wn (o_val (x_move (et (v := (Value.slice A n c)) hs_1025)) ?_)
  refine l_op wn (o_val (x_move (et (v := (Value.int .i64 (i : Int))) hs_1026)) ?_)
  obtain ⟨b_1030, o_1031, x_1032, cs_1033, G_1034, hA_1035, hbF_1036, hlt_1037, hx_1038, hrx_1039, hG_1040, hl_1041, hcl_1042⟩ := hr.elem (k := 3) (fun y hy => wd_Version (ok.mem y hy)) (i := i) (by omega)
  obtain ⟨xs_1043, A_1044, n_1045, c_1046, F_1047, i_1049, i_1050, rfl, rfl, rfl, ok_1054, hr_1055, ln_1056, bd_1057, bd_1058⟩ := open_Version (ok.get hx_1038) hrx_1039
  refine l_op wn (o_val (x_index' (i := i) Try.underlying56 Try.sizeOf129 (et (v := (Value.slice A n c)) rfl) hA_1035 (et (v := (Value.int .i64 (i : Int))) rfl) (by omega) (by omega)) ?_)
  refine l_op wn (o_val (x_loadN (cs := [(Value.slice A_1044 n_1045 c_1046), (Value.int .i64 i_1049), (Value.int .i64 i_1050)]) Try.isAgg129 Try.sizeOf129 (et (v := (Value.pointer (some ⟨b_1030, o_1031 + i * 3, none⟩))) rfl) rfl ((hl_1041.keep (hB_1024.block _ hlt_1037)))) ?_)
  refine l_op wn (o_val (x_move (et (v := (Value.int .i64 l)) hs_1027)) ?_)
  have rr_1063 := (ragg (rcons (hr_1055.below hB_1024) (rcons (rint (w := w_1022) (n := i_1049) bd_1057) (rcons (rint (w := w_1022) (n := i_1050) bd_1058) (rnil (w := w_1022))))))
  refine l_op wn (o_call (x_call Try.call86 ef (a2 (et (v := (Value.agg #[(Value.slice A_1044 n_1045 c_1046), (Value.int .i64 i_1049), (Value.int .i64 i_1050)])) rfl) (et (v := (Value.int .i64 l)) rfl))) (sz_Version w_1022 (.agg [.list xs_1043, .int i_1049, .int i_1050]) [(Value.slice A_1044 n_1045 c_1046), (Value.int .i64 i_1049), (Value.int .i64 i_1050)] _ l (ok_agg rfl (okz_cons (ok_list rfl ok_1054) (okz_cons (ok_int rfl) (okz_cons (ok_int rfl) okz_nil)))) rr_1063 (by omega) (by omega)) ?_)
  rintro _ w_1059 ⟨r_1060, rfl, er_1061, k_1062⟩
  refine ⟨_, rfl, ?_⟩
  have sc_1064 := sz_cases er_1061
  have hB_1065 := below_next hB_1024 k_1062 (by omega)
  have z_1066 := k_1062.size
  refine l_op wn (o_val (x_assign (et (v := (Value.int .i64 r_1060)) rfl)) ?_)
  refine l_nil ?_
  refine w_seq ?_
  refine w_region ?_
  refine l_op wn (o_val (x_move (et (v := (Value.int .i64 r_1060)) rfl)) ?_)
  by_cases h_1067 : r_1060 < 0
  · refine l_op wn (o_val (x_lss (r := true) (et (v := (Value.int .i64 r_1060)) rfl) ec (dec_t h_1067)) ?_)
    refine l_nil ?_
    refine w_if_t (et (v := (Value.bool true)) rfl) ?_
    refine w_seq ?_
    refine w_region ?_
    refine l_op wn (o_val (x_assign ec) ?_)
    refine l_nil ?_
    refine w_ret ?_
    exact ⟨_, r_tmp (v := (Value.int .i64 (-1))) Try.results67 rfl, _, rfl, sz_close (by have := bulk_list xs; (try have bs := bulks_step ‹xs[i]? = some _›); (try have ba := bulks_all (n := i) (xs := xs) (by omega)); omega), hB_1065⟩
  refine l_op wn (o_val (x_lss (r := false) (et (v := (Value.int .i64 r_1060)) rfl) ec (dec_f h_1067)) ?_)
  refine l_nil ?_
  refine w_if_f (et (v := (Value.bool false)) rfl) ?_
  refine w_skip ?_
  refine w_region ?_
  refine l_op wn (o_val (x_move (et (v := (Value.int .i64 (i : Int))) hs_1026)) ?_)
  refine l_op wn (o_val (x_add (et (v := (Value.int .i64 (i : Int))) rfl) ec (by omega)) ?_)
  refine l_op wn (o_val (x_assign (et (v := (Value.int .i64 ((i : Int) + 1))) rfl)) ?_)
  refine l_nil ?_
  have bs := bulks_step hx_1038
  exact ⟨n - (i + 1), by omega, ⟨i + 1, r_1060, hs_1025, vint (a := ((i : Int) + 1)) (by omega), rfl, hB_1065, (by omega), (by omega), (by omega), rfl⟩⟩

set_option maxHeartbeats 200000 in
theorem sz_Pending (w : World) (x : V) (cs : List Value) (F : List Nat) (left : Int) (ok : Ok x tPending) (hr : Rep w x cs F) (h0 : 0 ≤ left) (h1 : left ≤ 1048576) : Calls Try.prog 68 #[.agg cs.toArray, .int .i64 left] w (RetI w (· = szV x left)) := by
  obtain ⟨q_1068, i_1069, i_1070, s_1071, xs_1072, A_1073, n_1074, c_1075, F_1076, rfl, rfl, rfl, bd_1081, bd_1082, bd_1083, ok_1084, hr_1085, ln_1086⟩ := open_Pending ok hr
  have hbk : V.bulk (.agg [.bool q_1068, .int i_1069, .int i_1070, .str s_1071, .list xs_1072]) = s_1071.size + V.bulk (.list xs_1072) := by simp only [V.bulk, V.bulks] <;> omega
  have hB0 := Below.refl w.heap.size w
  refine enter (N := 19) Try.func68 rfl Try.ntmps68 rfl ?_
  refine w_seq ?_
  refine w_region ?_
  refine l_op wn (o_new (x_box (cs := [(Value.bool q_1068), (Value.int .i64 i_1069), (Value.int .i64 i_1070), (Value.string s_1071), (Value.slice A_1073 n_1074 c_1075)]) (et (v := (Value.agg #[(Value.bool q_1068), (Value.int .i64 i_1069), (Value.int .i64 i_1070), (Value.string s_1071), (Value.slice A_1073 n_1074 c_1075)])) rfl)) ?_)
  intro w_1087 z_1088 k_1089 bx_1090
  have hB_1091 := below_next hB0 k_1089 (by omega)
  refine l_op wn (o_val (x_assign ec) ?_)
  refine l_nil ?_
  refine w_seq ?_
  refine w_region ?_
  refine l_op wn (o_val (x_move (et (v := (Value.int .i64 left)) rfl)) ?_)
  refine l_op wn (o_val (x_field (k := 0) (j := 3) Try.underlying58 rfl Try.sizeOf9 rfl (et (v := (Value.pointer (some ⟨w.heap.size, 0, none⟩))) rfl)) ?_)
  refine l_op wn (o_val (x_load (v := (Value.string s_1071)) Try.isAgg9 (et (v := (Value.pointer (some ⟨w.heap.size, 3, none⟩))) rfl) ((bx_1090.cell 3).trans rfl)) ?_)
  refine l_op wn (o_val (x_slen Try.underlying9 (et (v := (Value.string s_1071)) rfl)) ?_)
  refine l_op wn (o_val (x_sub (et (v := (Value.int .i64 left)) rfl) (et (v := (Value.int .i64 (s_1071.size : Int))) rfl) (by omega)) ?_)
  refine l_op wn (o_val (x_assign (et (v := (Value.int .i64 (left - (s_1071.size : Int)))) rfl)) ?_)
  refine l_nil ?_
  refine w_seq ?_
  refine w_seq ?_
  refine w_region ?_
  refine l_op wn (o_val (x_move (et (v := (Value.int .i64 (left - (s_1071.size : Int)))) rfl)) ?_)
  by_cases h_1092 : (left - (s_1071.size : Int)) < 0
  · refine l_op wn (o_val (x_lss (r := true) (et (v := (Value.int .i64 (left - (s_1071.size : Int)))) rfl) ec (dec_t h_1092)) ?_)
    refine l_nil ?_
    refine w_if_t (et (v := (Value.bool true)) rfl) ?_
    refine w_seq ?_
    refine w_region ?_
    refine l_op wn (o_val (x_assign ec) ?_)
    refine l_nil ?_
    refine w_ret ?_
    exact ⟨_, r_tmp (v := (Value.int .i64 (-1))) Try.results68 rfl, _, rfl, sz_close (by omega), hB_1091⟩
  refine l_op wn (o_val (x_lss (r := false) (et (v := (Value.int .i64 (left - (s_1071.size : Int)))) rfl) ec (dec_f h_1092)) ?_)
  refine l_nil ?_
  refine w_if_f (et (v := (Value.bool false)) rfl) ?_
  refine w_skip ?_
  refine w_seq ?_
  refine w_region ?_
  refine l_op wn (o_val (x_field (k := 0) (j := 4) Try.underlying58 rfl Try.sizeOf35 rfl (et (v := (Value.pointer (some ⟨w.heap.size, 0, none⟩))) rfl)) ?_)
  refine l_op wn (o_val (x_load (v := (Value.slice A_1073 n_1074 c_1075)) Try.isAgg35 (et (v := (Value.pointer (some ⟨w.heap.size, 4, none⟩))) rfl) ((bx_1090.cell 4).trans rfl)) ?_)
  refine l_op wn (o_val (x_move (et (v := (Value.int .i64 (left - (s_1071.size : Int)))) rfl)) ?_)
  refine l_op wn (o_call (x_call Try.call24 ef (a2 (et (v := (Value.slice A_1073 n_1074 c_1075)) rfl) (et (v := (Value.int .i64 (left - (s_1071.size : Int)))) rfl))) (sz_NodeS w_1087 xs_1072 A_1073 n_1074 c_1075 _ (left - (s_1071.size : Int)) ok_1084 (hr_1085.below hB_1091) (by omega) (by omega)) ?_)
  rintro _ w_1093 ⟨r_1094, rfl, er_1095, k_1096⟩
  refine ⟨_, rfl, ?_⟩
  have sc_1097 := sz_cases er_1095
  have hB_1098 := below_next hB_1091 k_1096 (by omega)
  have z_1099 := k_1096.size
  have bx_1100 := bx_1090.below k_1096
  refine l_op wn (o_val (x_assign (et (v := (Value.int .i64 r_1094)) rfl)) ?_)
  refine l_nil ?_
  refine w_seq ?_
  refine w_seq ?_
  refine w_region ?_
  refine l_op wn (o_val (x_move (et (v := (Value.int .i64 r_1094)) rfl)) ?_)
  by_cases h_1101 : r_1094 < 0
  · refine l_op wn (o_val (x_lss (r := true) (et (v := (Value.int .i64 r_1094)) rfl) ec (dec_t h_1101)) ?_)
    refine l_nil ?_
    refine w_if_t (et (v := (Value.bool true)) rfl) ?_
    refine w_seq ?_
    refine w_region ?_
    refine l_op wn (o_val (x_assign ec) ?_)
    refine l_nil ?_
    refine w_ret ?_
    exact ⟨_, r_tmp (v := (Value.int .i64 (-1))) Try.results68 rfl, _, rfl, sz_close (by omega), hB_1098⟩
  refine l_op wn (o_val (x_lss (r := false) (et (v := (Value.int .i64 r_1094)) rfl) ec (dec_f h_1101)) ?_)
  refine l_nil ?_
  refine w_if_f (et (v := (Value.bool false)) rfl) ?_
  refine w_skip ?_
  refine w_seq ?_
  refine w_region ?_
  refine l_op wn (o_val (x_move (et (v := (Value.int .i64 r_1094)) rfl)) ?_)
  refine l_op wn (o_val (x_assign (et (v := (Value.int .i64 r_1094)) rfl)) ?_)
  refine l_nil ?_
  refine w_ret ?_
  exact ⟨_, r_tmp (v := (Value.int .i64 r_1094)) Try.results68 rfl, _, rfl, sz_close (by omega), hB_1098⟩

set_option maxHeartbeats 1000000 in
theorem sz_Store (w : World) (x : V) (cs : List Value) (F : List Nat) (left : Int) (ok : Ok x tStore) (hr : Rep w x cs F) (h0 : 0 ≤ left) (h1 : left ≤ 1048576) : Calls Try.prog 34 #[.agg cs.toArray, .int .i64 left] w (RetI w (· = szV x left)) := by
  obtain ⟨xs_1102, A_1103, n_1104, c_1105, F_1106, xs_1108, A_1109, n_1110, c_1111, F_1112, xs_1114, A_1115, n_1116, c_1117, F_1118, i_1120, xs_1121, A_1122, n_1123, c_1124, F_1125, q_1127, i_1128, i_1129, s_1130, xs_1131, A_1132, n_1133, c_1134, F_1135, rfl, rfl, rfl, ok_1140, hr_1141, ln_1142, ok_1143, hr_1144, ln_1145, ok_1146, hr_1147, ln_1148, bd_1149, ok_1150, hr_1151, ln_1152, bd_1153, bd_1154, bd_1155, ok_1156, hr_1157, ln_1158⟩ := open_Store ok hr
  have hbk : V.bulk (.agg [.list xs_1102, .list xs_1108, .list xs_1114, .int i_1120, .list xs_1121, .agg [.bool q_1127, .int i_1128, .int i_1129, .str s_1130, .list xs_1131]]) = V.bulk (.list xs_1102) + V.bulk (.list xs_1108) + V.bulk (.list xs_1114) + V.bulk (.list xs_1121) + V.bulk (.agg [.bool q_1127, .int i_1128, .int i_1129, .str s_1130, .list xs_1131]) := by simp only [V.bulk, V.bulks] <;> omega
  have hB0 := Below.refl w.heap.size w
  refine enter (N := 36) Try.func34 rfl Try.ntmps34 rfl ?_
  refine w_seq ?_
  refine w_region ?_
  refine l_op wn (o_new (x_box (cs := [(Value.slice A_1103 n_1104 c_1105), (Value.slice A_1109 n_1110 c_1111), (Value.slice A_1115 n_1116 c_1117), (Value.int .i64 i_1120), (Value.slice A_1122 n_1123 c_1124), (Value.bool q_1127), (Value.int .i64 i_1128), (Value.int .i64 i_1129), (Value.string s_1130), (Value.slice A_1132 n_1133 c_1134)]) (et (v := (Value.agg #[(Value.slice A_1103 n_1104 c_1105), (Value.slice A_1109 n_1110 c_1111), (Value.slice A_1115 n_1116 c_1117), (Value.int .i64 i_1120), (Value.slice A_1122 n_1123 c_1124), (Value.bool q_1127), (Value.int .i64 i_1128), (Value.int .i64 i_1129), (Value.string s_1130), (Value.slice A_1132 n_1133 c_1134)])) rfl)) ?_)
  intro w_1159 z_1160 k_1161 bx_1162
  have hB_1163 := below_next hB0 k_1161 (by omega)
  refine l_op wn (o_val (x_assign ec) ?_)
  refine l_nil ?_
  refine w_seq ?_
  refine w_region ?_
  refine l_op wn (o_val (x_field (k := 0) (j := 0) Try.underlying60 rfl Try.sizeOf55 rfl (et (v := (Value.pointer (some ⟨w.heap.size, 0, none⟩))) rfl)) ?_)
  refine l_op wn (o_val (x_load (v := (Value.slice A_1103 n_1104 c_1105)) Try.isAgg55 (et (v := (Value.pointer (some ⟨w.heap.size, 0, none⟩))) rfl) ((bx_1162.cell 0).trans rfl)) ?_)
  refine l_op wn (o_val (x_move (et (v := (Value.int .i64 left)) rfl)) ?_)
  refine l_op wn (o_call (x_call Try.call66 ef (a2 (et (v := (Value.slice A_1103 n_1104 c_1105)) rfl) (et (v := (Value.int .i64 left)) rfl))) (sz_SchemaS w_1159 xs_1102 A_1103 n_1104 c_1105 _ left ok_1140 (hr_1141.below hB_1163) (by omega) (by omega)) ?_)
  rintro _ w_1164 ⟨r_1165, rfl, er_1166, k_1167⟩
  refine ⟨_, rfl, ?_⟩
  have sc_1168 := sz_cases er_1166
  have hB_1169 := below_next hB_1163 k_1167 (by omega)
  have z_1170 := k_1167.size
  have bx_1171 := bx_1162.below k_1167
  refine l_op wn (o_val (x_assign (et (v := (Value.int .i64 r_1165)) rfl)) ?_)
  refine l_nil ?_
  refine w_seq ?_
  refine w_seq ?_
  refine w_region ?_
  refine l_op wn (o_val (x_move (et (v := (Value.int .i64 r_1165)) rfl)) ?_)
  by_cases h_1172 : r_1165 < 0
  · refine l_op wn (o_val (x_lss (r := true) (et (v := (Value.int .i64 r_1165)) rfl) ec (dec_t h_1172)) ?_)
    refine l_nil ?_
    refine w_if_t (et (v := (Value.bool true)) rfl) ?_
    refine w_seq ?_
    refine w_region ?_
    refine l_op wn (o_val (x_assign ec) ?_)
    refine l_nil ?_
    refine w_ret ?_
    exact ⟨_, r_tmp (v := (Value.int .i64 (-1))) Try.results34 rfl, _, rfl, sz_close (by omega), hB_1169⟩
  refine l_op wn (o_val (x_lss (r := false) (et (v := (Value.int .i64 r_1165)) rfl) ec (dec_f h_1172)) ?_)
  refine l_nil ?_
  refine w_if_f (et (v := (Value.bool false)) rfl) ?_
  refine w_skip ?_
  refine w_seq ?_
  refine w_region ?_
  refine l_op wn (o_val (x_field (k := 0) (j := 1) Try.underlying60 rfl Try.sizeOf35 rfl (et (v := (Value.pointer (some ⟨w.heap.size, 0, none⟩))) rfl)) ?_)
  refine l_op wn (o_val (x_load (v := (Value.slice A_1109 n_1110 c_1111)) Try.isAgg35 (et (v := (Value.pointer (some ⟨w.heap.size, 1, none⟩))) rfl) ((bx_1171.cell 1).trans rfl)) ?_)
  refine l_op wn (o_val (x_move (et (v := (Value.int .i64 r_1165)) rfl)) ?_)
  refine l_op wn (o_call (x_call Try.call24 ef (a2 (et (v := (Value.slice A_1109 n_1110 c_1111)) rfl) (et (v := (Value.int .i64 r_1165)) rfl))) (sz_NodeS w_1164 xs_1108 A_1109 n_1110 c_1111 _ r_1165 ok_1143 (hr_1144.below hB_1169) (by omega) (by omega)) ?_)
  rintro _ w_1173 ⟨r_1174, rfl, er_1175, k_1176⟩
  refine ⟨_, rfl, ?_⟩
  have sc_1177 := sz_cases er_1175
  have hB_1178 := below_next hB_1169 k_1176 (by omega)
  have z_1179 := k_1176.size
  have bx_1180 := bx_1171.below k_1176
  refine l_op wn (o_val (x_assign (et (v := (Value.int .i64 r_1174)) rfl)) ?_)
  refine l_nil ?_
  refine w_seq ?_
  refine w_seq ?_
  refine w_region ?_
  refine l_op wn (o_val (x_move (et (v := (Value.int .i64 r_1174)) rfl)) ?_)
  by_cases h_1181 : r_1174 < 0
  · refine l_op wn (o_val (x_lss (r := true) (et (v := (Value.int .i64 r_1174)) rfl) ec (dec_t h_1181)) ?_)
    refine l_nil ?_
    refine w_if_t (et (v := (Value.bool true)) rfl) ?_
    refine w_seq ?_
    refine w_region ?_
    refine l_op wn (o_val (x_assign ec) ?_)
    refine l_nil ?_
    refine w_ret ?_
    exact ⟨_, r_tmp (v := (Value.int .i64 (-1))) Try.results34 rfl, _, rfl, sz_close (by omega), hB_1178⟩
  refine l_op wn (o_val (x_lss (r := false) (et (v := (Value.int .i64 r_1174)) rfl) ec (dec_f h_1181)) ?_)
  refine l_nil ?_
  refine w_if_f (et (v := (Value.bool false)) rfl) ?_
  refine w_skip ?_
  refine w_seq ?_
  refine w_region ?_
  refine l_op wn (o_val (x_field (k := 0) (j := 2) Try.underlying60 rfl Try.sizeOf35 rfl (et (v := (Value.pointer (some ⟨w.heap.size, 0, none⟩))) rfl)) ?_)
  refine l_op wn (o_val (x_load (v := (Value.slice A_1115 n_1116 c_1117)) Try.isAgg35 (et (v := (Value.pointer (some ⟨w.heap.size, 2, none⟩))) rfl) ((bx_1180.cell 2).trans rfl)) ?_)
  refine l_op wn (o_val (x_move (et (v := (Value.int .i64 r_1174)) rfl)) ?_)
  refine l_op wn (o_call (x_call Try.call24 ef (a2 (et (v := (Value.slice A_1115 n_1116 c_1117)) rfl) (et (v := (Value.int .i64 r_1174)) rfl))) (sz_NodeS w_1173 xs_1114 A_1115 n_1116 c_1117 _ r_1174 ok_1146 (hr_1147.below hB_1178) (by omega) (by omega)) ?_)
  rintro _ w_1182 ⟨r_1183, rfl, er_1184, k_1185⟩
  refine ⟨_, rfl, ?_⟩
  have sc_1186 := sz_cases er_1184
  have hB_1187 := below_next hB_1178 k_1185 (by omega)
  have z_1188 := k_1185.size
  have bx_1189 := bx_1180.below k_1185
  refine l_op wn (o_val (x_assign (et (v := (Value.int .i64 r_1183)) rfl)) ?_)
  refine l_nil ?_
  refine w_seq ?_
  refine w_seq ?_
  refine w_region ?_
  refine l_op wn (o_val (x_move (et (v := (Value.int .i64 r_1183)) rfl)) ?_)
  by_cases h_1190 : r_1183 < 0
  · refine l_op wn (o_val (x_lss (r := true) (et (v := (Value.int .i64 r_1183)) rfl) ec (dec_t h_1190)) ?_)
    refine l_nil ?_
    refine w_if_t (et (v := (Value.bool true)) rfl) ?_
    refine w_seq ?_
    refine w_region ?_
    refine l_op wn (o_val (x_assign ec) ?_)
    refine l_nil ?_
    refine w_ret ?_
    exact ⟨_, r_tmp (v := (Value.int .i64 (-1))) Try.results34 rfl, _, rfl, sz_close (by omega), hB_1187⟩
  refine l_op wn (o_val (x_lss (r := false) (et (v := (Value.int .i64 r_1183)) rfl) ec (dec_f h_1190)) ?_)
  refine l_nil ?_
  refine w_if_f (et (v := (Value.bool false)) rfl) ?_
  refine w_skip ?_
  refine w_seq ?_
  refine w_region ?_
  refine l_op wn (o_val (x_field (k := 0) (j := 4) Try.underlying60 rfl Try.sizeOf56 rfl (et (v := (Value.pointer (some ⟨w.heap.size, 0, none⟩))) rfl)) ?_)
  refine l_op wn (o_val (x_load (v := (Value.slice A_1122 n_1123 c_1124)) Try.isAgg56 (et (v := (Value.pointer (some ⟨w.heap.size, 4, none⟩))) rfl) ((bx_1189.cell 4).trans rfl)) ?_)
  refine l_op wn (o_val (x_move (et (v := (Value.int .i64 r_1183)) rfl)) ?_)
  refine l_op wn (o_call (x_call Try.call67 ef (a2 (et (v := (Value.slice A_1122 n_1123 c_1124)) rfl) (et (v := (Value.int .i64 r_1183)) rfl))) (sz_VersionS w_1182 xs_1121 A_1122 n_1123 c_1124 _ r_1183 ok_1150 (hr_1151.below hB_1187) (by omega) (by omega)) ?_)
  rintro _ w_1191 ⟨r_1192, rfl, er_1193, k_1194⟩
  refine ⟨_, rfl, ?_⟩
  have sc_1195 := sz_cases er_1193
  have hB_1196 := below_next hB_1187 k_1194 (by omega)
  have z_1197 := k_1194.size
  have bx_1198 := bx_1189.below k_1194
  refine l_op wn (o_val (x_assign (et (v := (Value.int .i64 r_1192)) rfl)) ?_)
  refine l_nil ?_
  refine w_seq ?_
  refine w_seq ?_
  refine w_region ?_
  refine l_op wn (o_val (x_move (et (v := (Value.int .i64 r_1192)) rfl)) ?_)
  by_cases h_1199 : r_1192 < 0
  · refine l_op wn (o_val (x_lss (r := true) (et (v := (Value.int .i64 r_1192)) rfl) ec (dec_t h_1199)) ?_)
    refine l_nil ?_
    refine w_if_t (et (v := (Value.bool true)) rfl) ?_
    refine w_seq ?_
    refine w_region ?_
    refine l_op wn (o_val (x_assign ec) ?_)
    refine l_nil ?_
    refine w_ret ?_
    exact ⟨_, r_tmp (v := (Value.int .i64 (-1))) Try.results34 rfl, _, rfl, sz_close (by omega), hB_1196⟩
  refine l_op wn (o_val (x_lss (r := false) (et (v := (Value.int .i64 r_1192)) rfl) ec (dec_f h_1199)) ?_)
  refine l_nil ?_
  refine w_if_f (et (v := (Value.bool false)) rfl) ?_
  refine w_skip ?_
  refine w_seq ?_
  refine w_region ?_
  refine l_op wn (o_val (x_field (k := 4) (j := 5) Try.underlying60 rfl Try.sizeOf58 rfl (et (v := (Value.pointer (some ⟨w.heap.size, 0, none⟩))) rfl)) ?_)
  refine l_op wn (o_val (x_loadN (cs := [(Value.bool q_1127), (Value.int .i64 i_1128), (Value.int .i64 i_1129), (Value.string s_1130), (Value.slice A_1132 n_1133 c_1134)]) Try.isAgg58 Try.sizeOf58 (et (v := (Value.pointer (some ⟨w.heap.size, 5, none⟩))) rfl) rfl (bx_1198.lies.sub 5 5)) ?_)
  refine l_op wn (o_val (x_move (et (v := (Value.int .i64 r_1192)) rfl)) ?_)
  have rr_1204 := (ragg (rcons (rbool (w := w_1191) (n := q_1127)) (rcons (rint (w := w_1191) (n := i_1128) bd_1153) (rcons (rint (w := w_1191) (n := i_1129) bd_1154) (rcons (rstr (w := w_1191) (n := s_1130) bd_1155) (rcons (hr_1157.below hB_1196) (rnil (w := w_1191))))))))
  refine l_op wn (o_call (x_call Try.call68 ef (a2 (et (v := (Value.agg #[(Value.bool q_1127), (Value.int .i64 i_1128), (Value.int .i64 i_1129), (Value.string s_1130), (Value.slice A_1132 n_1133 c_1134)])) rfl) (et (v := (Value.int .i64 r_1192)) rfl))) (sz_Pending w_1191 (.agg [.bool q_1127, .int i_1128, .int i_1129, .str s_1130, .list xs_1131]) [(Value.bool q_1127), (Value.int .i64 i_1128), (Value.int .i64 i_1129), (Value.string s_1130), (Value.slice A_1132 n_1133 c_1134)] _ r_1192 (ok_agg rfl (okz_cons (ok_bool rfl) (okz_cons (ok_int rfl) (okz_cons (ok_int rfl) (okz_cons (ok_str rfl) (okz_cons (ok_list rfl ok_1156) okz_nil)))))) rr_1204 (by omega) (by omega)) ?_)
  rintro _ w_1200 ⟨r_1201, rfl, er_1202, k_1203⟩
  refine ⟨_, rfl, ?_⟩
  have sc_1205 := sz_cases er_1202
  have hB_1206 := below_next hB_1196 k_1203 (by omega)
  have z_1207 := k_1203.size
  have bx_1208 := bx_1198.below k_1203
  refine l_op wn (o_val (x_assign (et (v := (Value.int .i64 r_1201)) rfl)) ?_)
  refine l_nil ?_
  refine w_seq ?_
  refine w_seq ?_
  refine w_region ?_
  refine l_op wn (o_val (x_move (et (v := (Value.int .i64 r_1201)) rfl)) ?_)
  by_cases h_1209 : r_1201 < 0
  · refine l_op wn (o_val (x_lss (r := true) (et (v := (Value.int .i64 r_1201)) rfl) ec (dec_t h_1209)) ?_)
    refine l_nil ?_
    refine w_if_t (et (v := (Value.bool true)) rfl) ?_
    refine w_seq ?_
    refine w_region ?_
    refine l_op wn (o_val (x_assign ec) ?_)
    refine l_nil ?_
    refine w_ret ?_
    exact ⟨_, r_tmp (v := (Value.int .i64 (-1))) Try.results34 rfl, _, rfl, sz_close (by omega), hB_1206⟩
  refine l_op wn (o_val (x_lss (r := false) (et (v := (Value.int .i64 r_1201)) rfl) ec (dec_f h_1209)) ?_)
  refine l_nil ?_
  refine w_if_f (et (v := (Value.bool false)) rfl) ?_
  refine w_skip ?_
  refine w_seq ?_
  refine w_region ?_
  refine l_op wn (o_val (x_move (et (v := (Value.int .i64 r_1201)) rfl)) ?_)
  refine l_op wn (o_val (x_assign (et (v := (Value.int .i64 r_1201)) rfl)) ?_)
  refine l_nil ?_
  refine w_ret ?_
  exact ⟨_, r_tmp (v := (Value.int .i64 r_1201)) Try.results34 rfl, _, rfl, sz_close (by omega), hB_1206⟩


end Go.Proofs.Ytilohpakglpdcaa
