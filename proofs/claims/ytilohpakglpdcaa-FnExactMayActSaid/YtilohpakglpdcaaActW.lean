/-
  Who may act, in the program and in the reference. Printed by a program of our own.
-/
import Derived.Test.YtilohpakglpdcaaPlain
import Derived.Test.YtilohpakglpdcaaProg
namespace Go.Proofs.Ytilohpakglpdcaa
open Go.RowKit
set_option linter.unusedVariables false
set_option maxRecDepth 100000

set_option maxHeartbeats 800000 in
theorem l23In_c (w : World) (xs : List V) (A : Option Addr) (n c : Nat) (F : List Nat) (ok : Oks xs tStr) (hr : Rep w (.list xs) [.slice A n c] F) (t : ByteArray) (ht : t.size ≤ 9223372036854775807) : Calls Try.prog 46 #[.slice A n c, .string t] w (RetB w (V.str t ∈ xs)) := by
  have hB0 := Below.refl w.heap.size w
  obtain ⟨ln, lc, lm⟩ := hr.len
  refine enter (N := 18) Try.func46 rfl Try.ntmps46 rfl ?_
  refine w_seq ?_
  refine w_region ?_
  refine l_op wn (o_val (x_assign ec) ?_)
  refine l_nil ?_
  refine w_seq ?_
  refine w_seq ?_
  refine w_region ?_
  refine l_op wn (o_val (x_assign ec) ?_)
  refine l_nil ?_
  refine w_block ?_
  refine w_loop (fun μ f w' => ∃ (i : Nat), f 0 = (Value.slice A n c) ∧ f 1 = (Value.string t) ∧ f 5 = (Value.int .i64 (i : Int)) ∧ Below w.heap.size w w' ∧ (i ≤ n) ∧ (∀ j, j < i → xs[j]? ≠ some (V.str t)) ∧ μ = n - i) (n - 0) ?_ ?_
  · exact ⟨0, rfl, rfl, vint (a := 0) (by omega), hB0, (by omega), (fun j hj => by omega), rfl⟩
  rintro m_3 f_1 w_2 ⟨i, hs_5, hs_6, hs_7, hB_4, hi, hnm, rfl⟩
  have z_8 := hB_4.size
  refine w_seq ?_
  refine w_seq ?_
  refine w_region ?_
  refine l_op wn (o_val (x_move (et (v := (Value.int .i64 (i : Int))) hs_7)) ?_)
  refine l_op wn (o_val (x_move (et (v := (Value.slice A n c)) hs_5)) ?_)
  refine l_op wn (o_val (x_len Try.underlying29 (et (v := (Value.slice A n c)) rfl)) ?_)
  by_cases h_9 : (i : Int) < (n : Int)
  rotate_left
  · refine l_op wn (o_val (x_lss (r := false) (et (v := (Value.int .i64 (i : Int))) rfl) (et (v := (Value.int .i64 (n : Int))) rfl) (dec_f h_9)) ?_)
    refine l_nil ?_
    refine w_if_f (et (v := (Value.bool false)) rfl) ?_
    refine w_exit ?_
    refine Eq.mpr (if_pos rfl) ?_
    refine w_seq ?_
    refine w_region ?_
    refine l_op wn (o_val (x_assign ec) ?_)
    refine l_nil ?_
    refine w_ret ?_
    exact ⟨_, r_tmp (v := (Value.bool false)) Try.results46 rfl, _, rfl, iff_f (by exact not_mem_upto ln (fun j hj => hnm j (by omega))), hB_4⟩
  refine l_op wn (o_val (x_lss (r := true) (et (v := (Value.int .i64 (i : Int))) rfl) (et (v := (Value.int .i64 (n : Int))) rfl) (dec_t h_9)) ?_)
  refine l_nil ?_
  refine w_if_t (et (v := (Value.bool true)) rfl) ?_
  refine w_skip ?_
  refine w_seq ?_
  refine w_block ?_
  refine w_seq ?_
  refine w_region ?_
  refine l_op wn (o_val (x_move (et (v := (Value.slice A n c)) hs_5)) ?_)
  refine l_op wn (o_val (x_move (et (v := (Value.int .i64 (i : Int))) hs_7)) ?_)
  obtain ⟨b_10, o_11, x_12, cs_13, G_14, hA_15, hbF_16, hlt_17, hx_18, hrx_19, hG_20, hl_21, hcl_22⟩ := hr.elem (k := 1) (fun y hy => wd_str (ok.mem y hy)) (i := i) (by omega)
  obtain ⟨s_23, rfl, rfl, rfl, bd_27⟩ := open_str (ok.get hx_18) hrx_19
  refine l_op wn (o_val (x_index' (i := i) Try.underlying29 Try.sizeOf9 (et (v := (Value.slice A n c)) rfl) hA_15 (et (v := (Value.int .i64 (i : Int))) rfl) (by omega) (by omega)) ?_)
  refine l_op wn (o_val (x_load (v := (Value.string s_23)) Try.isAgg9 (et (v := (Value.pointer (some ⟨b_10, o_11 + i * 1, none⟩))) rfl) ((hl_21.keep (hB_4.block _ hlt_17)) 0 _ rfl)) ?_)
  refine l_op wn (o_val (x_move (et (v := (Value.string t)) hs_6)) ?_)
  by_cases h_28 : s_23 = t
  · refine l_op wn (o_val (x_seql (r := true) (et (v := (Value.string s_23)) rfl) (et (v := (Value.string t)) rfl) (dec_t h_28)) ?_)
    refine l_nil ?_
    refine w_if_t (et (v := (Value.bool true)) rfl) ?_
    refine w_seq ?_
    refine w_region ?_
    refine l_op wn (o_val (x_assign ec) ?_)
    refine l_nil ?_
    refine w_ret ?_
    exact ⟨_, r_tmp (v := (Value.bool true)) Try.results46 rfl, _, rfl, iff_t (by exact mem_of_get (hx_18.trans (congrArg (fun z => some (V.str z)) (by assumption)))), hB_4⟩
  refine l_op wn (o_val (x_seql (r := false) (et (v := (Value.string s_23)) rfl) (et (v := (Value.string t)) rfl) (dec_f h_28)) ?_)
  refine l_nil ?_
  refine w_if_f (et (v := (Value.bool false)) rfl) ?_
  refine w_skip ?_
  refine w_region ?_
  refine l_op wn (o_val (x_move (et (v := (Value.int .i64 (i : Int))) hs_7)) ?_)
  refine l_op wn (o_val (x_add (et (v := (Value.int .i64 (i : Int))) rfl) ec (by omega)) ?_)
  refine l_op wn (o_val (x_assign (et (v := (Value.int .i64 ((i : Int) + 1))) rfl)) ?_)
  refine l_nil ?_
  exact ⟨n - (i + 1), by omega, ⟨i + 1, hs_5, hs_6, vint (a := ((i : Int) + 1)) (by omega), hB_4, (by omega), (upto_succ hnm (fun e => by rw [hx_18] at e; cases e; exact absurd rfl (by assumption))), rfl⟩⟩

set_option maxHeartbeats 800000 in
theorem index_c (w : World) (xs : List V) (A : Option Addr) (n c : Nat) (F : List Nat) (ok : Oks xs tStr) (hr : Rep w (.list xs) [.slice A n c] F) (t : ByteArray) (ht : t.size ≤ 9223372036854775807) : Calls Try.prog 77 #[.slice A n c, .string t] w (RetI w (fun r => (0 ≤ r ↔ V.str t ∈ xs))) := by
  have hB0 := Below.refl w.heap.size w
  obtain ⟨ln, lc, lm⟩ := hr.len
  refine enter (N := 19) Try.func77 rfl Try.ntmps77 rfl ?_
  refine w_seq ?_
  refine w_region ?_
  refine l_op wn (o_val (x_assign ec) ?_)
  refine l_nil ?_
  refine w_seq ?_
  refine w_seq ?_
  refine w_region ?_
  refine l_op wn (o_val (x_move (et (v := (Value.slice A n c)) rfl)) ?_)
  refine l_op wn (o_val (x_len Try.underlying29 (et (v := (Value.slice A n c)) rfl)) ?_)
  refine l_op wn (o_val (x_move ec) ?_)
  refine l_nil ?_
  refine w_block ?_
  refine w_loop (fun μ f w' => ∃ (i : Nat), f 0 = (Value.slice A n c) ∧ f 1 = (Value.string t) ∧ f 7 = (Value.int .i64 (n : Int)) ∧ f 8 = (Value.int .i64 (i : Int)) ∧ Below w.heap.size w w' ∧ (i ≤ n) ∧ (∀ j, j < i → xs[j]? ≠ some (V.str t)) ∧ μ = n - i) (n - 0) ?_ ?_
  · exact ⟨0, rfl, rfl, rfl, vint (a := 0) (by omega), hB0, (by omega), (fun j hj => by omega), rfl⟩
  rintro m_31 f_29 w_30 ⟨i, hs_33, hs_34, hs_35, hs_36, hB_32, hi, hnm, rfl⟩
  have z_37 := hB_32.size
  refine w_seq ?_
  refine w_region ?_
  by_cases h_38 : (i : Int) < (n : Int)
  rotate_left
  · refine l_op wn (o_val (x_lss (r := false) (et (v := (Value.int .i64 (i : Int))) hs_36) (et (v := (Value.int .i64 (n : Int))) hs_35) (dec_f h_38)) ?_)
    refine l_nil ?_
    refine w_seq ?_
    refine w_if_f (et (v := (Value.bool false)) rfl) ?_
    refine w_exit ?_
    refine Eq.mpr (if_pos rfl) ?_
    refine w_seq ?_
    refine w_region ?_
    refine l_op wn (o_val (x_assign ec) ?_)
    refine l_nil ?_
    refine w_ret ?_
    exact ⟨_, r_tmp (v := (Value.int .i64 (-1))) Try.results77 rfl, _, rfl, ⟨fun h => by omega, fun hm => absurd hm (not_mem_upto ln (fun j hj => hnm j (by omega)))⟩, hB_32⟩
  refine l_op wn (o_val (x_lss (r := true) (et (v := (Value.int .i64 (i : Int))) hs_36) (et (v := (Value.int .i64 (n : Int))) hs_35) (dec_t h_38)) ?_)
  refine l_nil ?_
  refine w_seq ?_
  refine w_if_t (et (v := (Value.bool true)) rfl) ?_
  refine w_skip ?_
  refine w_seq ?_
  refine w_block ?_
  refine w_seq ?_
  refine w_region ?_
  refine l_op wn (o_val (x_move (et (v := (Value.int .i64 (i : Int))) hs_36)) ?_)
  refine l_op wn (o_val (x_assign (et (v := (Value.int .i64 (i : Int))) rfl)) ?_)
  refine l_nil ?_
  refine w_seq ?_
  refine w_region ?_
  refine l_op wn (o_val (x_move (et (v := (Value.string t)) hs_34)) ?_)
  refine l_op wn (o_val (x_move (et (v := (Value.slice A n c)) hs_33)) ?_)
  refine l_op wn (o_val (x_move (et (v := (Value.int .i64 (i : Int))) rfl)) ?_)
  obtain ⟨b_39, o_40, x_41, cs_42, G_43, hA_44, hbF_45, hlt_46, hx_47, hrx_48, hG_49, hl_50, hcl_51⟩ := hr.elem (k := 1) (fun y hy => wd_str (ok.mem y hy)) (i := i) (by omega)
  obtain ⟨s_52, rfl, rfl, rfl, bd_56⟩ := open_str (ok.get hx_47) hrx_48
  refine l_op wn (o_val (x_index' (i := i) Try.underlying29 Try.sizeOf9 (et (v := (Value.slice A n c)) rfl) hA_44 (et (v := (Value.int .i64 (i : Int))) rfl) (by omega) (by omega)) ?_)
  refine l_op wn (o_val (x_load (v := (Value.string s_52)) Try.isAgg9 (et (v := (Value.pointer (some ⟨b_39, o_40 + i * 1, none⟩))) rfl) ((hl_50.keep (hB_32.block _ hlt_46)) 0 _ rfl)) ?_)
  by_cases h_57 : t = s_52
  rotate_left
  · refine l_op wn (o_val (x_seql (r := false) (et (v := (Value.string t)) rfl) (et (v := (Value.string s_52)) rfl) (dec_f h_57)) ?_)
    refine l_nil ?_
    refine w_if_f (et (v := (Value.bool false)) rfl) ?_
    refine w_skip ?_
    refine w_region ?_
    refine l_op wn (o_val (x_add (et (v := (Value.int .i64 (i : Int))) hs_36) ec (by omega)) ?_)
    refine l_op wn (o_val (x_move (et (v := (Value.int .i64 ((i : Int) + 1))) rfl)) ?_)
    refine l_nil ?_
    exact ⟨n - (i + 1), by omega, ⟨i + 1, hs_33, hs_34, hs_35, vint (a := ((i : Int) + 1)) (by omega), hB_32, (by omega), (upto_succ hnm (fun e => by rw [hx_47] at e; cases e; exact absurd rfl (by assumption))), rfl⟩⟩
  refine l_op wn (o_val (x_seql (r := true) (et (v := (Value.string t)) rfl) (et (v := (Value.string s_52)) rfl) (dec_t h_57)) ?_)
  refine l_nil ?_
  refine w_if_t (et (v := (Value.bool true)) rfl) ?_
  refine w_seq ?_
  refine w_region ?_
  refine l_op wn (o_val (x_move (et (v := (Value.int .i64 (i : Int))) rfl)) ?_)
  refine l_op wn (o_val (x_assign (et (v := (Value.int .i64 (i : Int))) rfl)) ?_)
  refine l_nil ?_
  refine w_ret ?_
  have em : xs[i]? = some (V.str t) := hx_47.trans (congrArg (fun z => some (V.str z)) (by symm; assumption))
  exact ⟨_, r_tmp (v := (Value.int .i64 (i : Int))) Try.results77 rfl, _, rfl, ⟨fun _ => mem_of_get em, fun _ => by omega⟩, hB_32⟩

set_option maxHeartbeats 800000 in
theorem contains_c (w : World) (xs : List V) (A : Option Addr) (n c : Nat) (F : List Nat) (ok : Oks xs tStr) (hr : Rep w (.list xs) [.slice A n c] F) (t : ByteArray) (ht : t.size ≤ 9223372036854775807) : Calls Try.prog 48 #[.slice A n c, .string t] w (RetB w (V.str t ∈ xs)) := by
  have hB0 := Below.refl w.heap.size w
  obtain ⟨ln, lc, lm⟩ := hr.len
  refine enter (N := 9) Try.func48 rfl Try.ntmps48 rfl ?_
  refine w_seq ?_
  refine w_region ?_
  refine l_op wn (o_val (x_assign ec) ?_)
  refine l_nil ?_
  refine w_seq ?_
  refine w_region ?_
  refine l_op wn (o_val (x_move (et (v := (Value.slice A n c)) rfl)) ?_)
  refine l_op wn (o_val (x_move (et (v := (Value.string t)) rfl)) ?_)
  refine l_op wn (o_call (x_call Try.call77 ef (a2 (et (v := (Value.slice A n c)) rfl) (et (v := (Value.string t)) rfl))) (index_c w xs A n c _ ok (hr.below hB0) t ht) ?_)
  rintro _ w_58 ⟨r_59, rfl, er_60, k_61⟩
  refine ⟨_, rfl, ?_⟩
  have hB_62 := below_next hB0 k_61 (by omega)
  have z_63 := k_61.size
  by_cases h_64 : 0 ≤ r_59
  rotate_left
  · refine l_op wn (o_val (x_geq (r := false) (et (v := (Value.int .i64 r_59)) rfl) ec (dec_f h_64)) ?_)
    refine l_op wn (o_val (x_assign (et (v := (Value.bool false)) rfl)) ?_)
    refine l_nil ?_
    refine w_ret ?_
    exact ⟨_, r_tmp (v := (Value.bool false)) Try.results48 rfl, _, rfl, iff_f (by exact fun hm => absurd (er_60.2 hm) (by assumption)), hB_62⟩
  refine l_op wn (o_val (x_geq (r := true) (et (v := (Value.int .i64 r_59)) rfl) ec (dec_t h_64)) ?_)
  refine l_op wn (o_val (x_assign (et (v := (Value.bool true)) rfl)) ?_)
  refine l_nil ?_
  refine w_ret ?_
  exact ⟨_, r_tmp (v := (Value.bool true)) Try.results48 rfl, _, rfl, iff_t (by exact er_60.1 (by assumption)), hB_62⟩

set_option maxHeartbeats 800000 in
theorem equal_c (w : World) (xs : List V) (A : Option Addr) (n c : Nat) (F : List Nat) (ok : Oks xs tStr) (hr : Rep w (.list xs) [.slice A n c] F) (ys : List V) (A' : Option Addr) (n' c' : Nat) (F' : List Nat) (ok' : Oks ys tStr) (hr' : Rep w (.list ys) [.slice A' n' c'] F') : Calls Try.prog 49 #[.slice A n c, .slice A' n' c'] w (RetB w (xs = ys)) := by
  have hB0 := Below.refl w.heap.size w
  obtain ⟨ln, lc, lm⟩ := hr.len
  obtain ⟨ln', lc', lm'⟩ := hr'.len
  refine enter (N := 26) Try.func49 rfl Try.ntmps49 rfl ?_
  refine w_seq ?_
  refine w_region ?_
  refine l_op wn (o_val (x_assign ec) ?_)
  refine l_nil ?_
  refine w_seq ?_
  refine w_seq ?_
  refine w_region ?_
  refine l_op wn (o_val (x_move (et (v := (Value.slice A n c)) rfl)) ?_)
  refine l_op wn (o_val (x_len Try.underlying29 (et (v := (Value.slice A n c)) rfl)) ?_)
  refine l_op wn (o_val (x_move (et (v := (Value.slice A' n' c')) rfl)) ?_)
  refine l_op wn (o_val (x_len Try.underlying29 (et (v := (Value.slice A' n' c')) rfl)) ?_)
  by_cases h_65 : (n : Int) = (n' : Int)
  rotate_left
  · refine l_op wn (o_val (x_neq (r := true) (et (v := (Value.int .i64 (n : Int))) rfl) (et (v := (Value.int .i64 (n' : Int))) rfl) (dec_f h_65)) ?_)
    refine l_nil ?_
    refine w_if_t (et (v := (Value.bool true)) rfl) ?_
    refine w_seq ?_
    refine w_region ?_
    refine l_op wn (o_val (x_assign ec) ?_)
    refine l_nil ?_
    refine w_ret ?_
    exact ⟨_, r_tmp (v := (Value.bool false)) Try.results49 rfl, _, rfl, iff_f (by intro e; subst e; omega), hB0⟩
  refine l_op wn (o_val (x_neq (r := false) (et (v := (Value.int .i64 (n : Int))) rfl) (et (v := (Value.int .i64 (n' : Int))) rfl) (dec_t h_65)) ?_)
  refine l_nil ?_
  refine w_if_f (et (v := (Value.bool false)) rfl) ?_
  refine w_skip ?_
  refine w_seq ?_
  refine w_seq ?_
  refine w_region ?_
  refine l_op wn (o_val (x_move (et (v := (Value.slice A n c)) rfl)) ?_)
  refine l_op wn (o_val (x_len Try.underlying29 (et (v := (Value.slice A n c)) rfl)) ?_)
  refine l_op wn (o_val (x_move ec) ?_)
  refine l_nil ?_
  refine w_block ?_
  refine w_loop (fun μ f w' => ∃ (i : Nat), f 0 = (Value.slice A n c) ∧ f 1 = (Value.slice A' n' c') ∧ f 12 = (Value.int .i64 (n : Int)) ∧ f 13 = (Value.int .i64 (i : Int)) ∧ Below w.heap.size w w' ∧ (i ≤ n) ∧ (n = n') ∧ (∀ j, j < i → xs[j]? = ys[j]?) ∧ μ = n - i) (n - 0) ?_ ?_
  · exact ⟨0, rfl, rfl, rfl, vint (a := 0) (by omega), hB0, (by omega), (by omega), (fun j hj => by omega), rfl⟩
  rintro m_68 f_66 w_67 ⟨i, hs_70, hs_71, hs_72, hs_73, hB_69, hi, hnn, hal, rfl⟩
  have z_74 := hB_69.size
  refine w_seq ?_
  refine w_region ?_
  by_cases h_75 : (i : Int) < (n : Int)
  rotate_left
  · refine l_op wn (o_val (x_lss (r := false) (et (v := (Value.int .i64 (i : Int))) hs_73) (et (v := (Value.int .i64 (n : Int))) hs_72) (dec_f h_75)) ?_)
    refine l_nil ?_
    refine w_seq ?_
    refine w_if_f (et (v := (Value.bool false)) rfl) ?_
    refine w_exit ?_
    refine Eq.mpr (if_pos rfl) ?_
    refine w_seq ?_
    refine w_region ?_
    refine l_op wn (o_val (x_assign ec) ?_)
    refine l_nil ?_
    refine w_ret ?_
    exact ⟨_, r_tmp (v := (Value.bool true)) Try.results49 rfl, _, rfl, iff_t (by exact List.ext_getElem? (fun j => by by_cases hj : j < n; exact hal j (by omega); rw [List.getElem?_eq_none (by omega), List.getElem?_eq_none (by omega)])), hB_69⟩
  refine l_op wn (o_val (x_lss (r := true) (et (v := (Value.int .i64 (i : Int))) hs_73) (et (v := (Value.int .i64 (n : Int))) hs_72) (dec_t h_75)) ?_)
  refine l_nil ?_
  refine w_seq ?_
  refine w_if_t (et (v := (Value.bool true)) rfl) ?_
  refine w_skip ?_
  refine w_seq ?_
  refine w_block ?_
  refine w_seq ?_
  refine w_region ?_
  refine l_op wn (o_val (x_move (et (v := (Value.int .i64 (i : Int))) hs_73)) ?_)
  refine l_op wn (o_val (x_assign (et (v := (Value.int .i64 (i : Int))) rfl)) ?_)
  refine l_nil ?_
  refine w_seq ?_
  obtain ⟨b_77, o_78, x_79, cs_80, G_81, hA_82, hbF_83, hlt_84, hx_85, hrx_86, hG_87, hl_88, hcl_89⟩ := hr.elem (k := 1) (fun y hy => wd_str (ok.mem y hy)) (i := i) (by omega)
  obtain ⟨s_90, rfl, rfl, rfl, bd_94⟩ := open_str (ok.get hx_85) hrx_86
  obtain ⟨b_95, o_96, x_97, cs_98, G_99, hA_100, hbF_101, hlt_102, hx_103, hrx_104, hG_105, hl_106, hcl_107⟩ := hr'.elem (k := 1) (fun y hy => wd_str (ok'.mem y hy)) (i := i) (by omega)
  obtain ⟨s_108, rfl, rfl, rfl, bd_112⟩ := open_str (ok'.get hx_103) hrx_104
  have hS_113 := Sm.start [b_77, b_95] w_67
  refine w_draw (Sm [b_77, b_95] w_67) [(0, true), (1, true), (2, true), (3, true), (4, true), (5, true), (6, true), (7, true), (8, true)] (by kernel_rfl) (by kernel_rfl) rfl (by kernel_rfl) ?_
  have hB_114 := hB_69.drew
  have z_115 : w_67.drew.heap.size = w_67.heap.size := rfl
  refine d_q rfl rfl wn (fun w' hS' => (x_move (et (v := (Value.slice A n c)) hs_70))) hS_113 ?_
  refine d_q rfl rfl wn (fun w' hS' => (x_move (et (v := (Value.int .i64 (i : Int))) rfl))) hS_113 ?_
  refine d_q rfl rfl wn (fun w' hS' => (x_index' (i := i) Try.underlying29 Try.sizeOf9 (et (v := (Value.slice A n c)) rfl) hA_82 (et (v := (Value.int .i64 (i : Int))) rfl) (by omega) (by omega))) hS_113 ?_
  refine d_q rfl rfl wn (fun w' hS' => (x_load (v := (Value.string s_90)) Try.isAgg9 (et (v := (Value.pointer (some ⟨b_77, o_78 + i * 1, none⟩))) rfl) (((hl_88.keep (hB_69.block _ hlt_84)).keep (hS' _ (by simp))) 0 _ rfl))) hS_113 ?_
  refine d_q rfl rfl wn (fun w' hS' => (x_move (et (v := (Value.slice A' n' c')) hs_71))) hS_113 ?_
  refine d_q rfl rfl wn (fun w' hS' => (x_move (et (v := (Value.int .i64 (i : Int))) rfl))) hS_113 ?_
  refine d_q rfl rfl wn (fun w' hS' => (x_index' (i := i) Try.underlying29 Try.sizeOf9 (et (v := (Value.slice A' n' c')) rfl) hA_100 (et (v := (Value.int .i64 (i : Int))) rfl) (by omega) (by omega))) hS_113 ?_
  refine d_q rfl rfl wn (fun w' hS' => (x_load (v := (Value.string s_108)) Try.isAgg9 (et (v := (Value.pointer (some ⟨b_95, o_96 + i * 1, none⟩))) rfl) (((hl_106.keep (hB_69.block _ hlt_102)).keep (hS' _ (by simp))) 0 _ rfl))) hS_113 ?_
  by_cases h_116 : s_90 = s_108
  rotate_left
  · refine d_q rfl rfl wn (fun w' hS' => x_sneq (r := true) (et (v := (Value.string s_90)) rfl) (et (v := (Value.string s_108)) rfl) (dec_f h_116)) hS_113 ?_
    refine d_nil ?_
    refine w_if_t (et (v := (Value.bool true)) rfl) ?_
    refine w_seq ?_
    refine w_region ?_
    refine l_op wn (o_val (x_assign ec) ?_)
    refine l_nil ?_
    refine w_ret ?_
    exact ⟨_, r_tmp (v := (Value.bool false)) Try.results49 rfl, _, rfl, iff_f (by intro e; have h1 := hx_85; have h2 := hx_103; rw [e, h2] at h1; cases h1; exact absurd rfl (by assumption)), hB_114⟩
  refine d_q rfl rfl wn (fun w' hS' => x_sneq (r := false) (et (v := (Value.string s_90)) rfl) (et (v := (Value.string s_108)) rfl) (dec_t h_116)) hS_113 ?_
  refine d_nil ?_
  refine w_if_f (et (v := (Value.bool false)) rfl) ?_
  refine w_skip ?_
  refine w_region ?_
  refine l_op wn (o_val (x_add (et (v := (Value.int .i64 (i : Int))) hs_73) ec (by omega)) ?_)
  refine l_op wn (o_val (x_move (et (v := (Value.int .i64 ((i : Int) + 1))) rfl)) ?_)
  refine l_nil ?_
  exact ⟨n - (i + 1), by omega, ⟨i + 1, hs_70, hs_71, hs_72, vint (a := ((i : Int) + 1)) (by omega), hB_114, (by omega), (hnn), (upto_succ hal (by rw [hx_85, hx_103]; congr 2)), rfl⟩⟩

set_option maxHeartbeats 800000 in
theorem begins_c (w : World) (xs : List V) (A : Option Addr) (n c : Nat) (F : List Nat) (ok : Oks xs tStr) (hr : Rep w (.list xs) [.slice A n c] F) (ys : List V) (A' : Option Addr) (n' c' : Nat) (F' : List Nat) (ok' : Oks ys tStr) (hr' : Rep w (.list ys) [.slice A' n' c'] F') : Calls Try.prog 47 #[.slice A n c, .slice A' n' c'] w (RetB w (BeginsP xs ys)) := by
  have hB0 := Below.refl w.heap.size w
  obtain ⟨ln, lc, lm⟩ := hr.len
  obtain ⟨ln', lc', lm'⟩ := hr'.len
  refine enter (N := 27) Try.func47 rfl Try.ntmps47 rfl ?_
  refine w_seq ?_
  refine w_region ?_
  refine l_op wn (o_val (x_assign ec) ?_)
  refine l_nil ?_
  refine w_seq ?_
  refine w_seq ?_
  refine w_region ?_
  refine l_op wn (o_val (x_assign ec) ?_)
  refine l_nil ?_
  refine w_block ?_
  refine w_loop (fun μ f w' => ∃ (i : Nat), f 0 = (Value.slice A n c) ∧ f 1 = (Value.slice A' n' c') ∧ f 5 = (Value.int .i64 (i : Int)) ∧ Below w.heap.size w w' ∧ (i ≤ n') ∧ (∀ j, j < i → xs[j]? = ys[j]?) ∧ μ = n' - i) (n' - 0) ?_ ?_
  · exact ⟨0, rfl, rfl, vint (a := 0) (by omega), hB0, (by omega), (fun j hj => by omega), rfl⟩
  rintro m_119 f_117 w_118 ⟨i, hs_121, hs_122, hs_123, hB_120, hi, hal, rfl⟩
  have z_124 := hB_120.size
  refine w_seq ?_
  refine w_seq ?_
  refine w_region ?_
  refine l_op wn (o_val (x_move (et (v := (Value.int .i64 (i : Int))) hs_123)) ?_)
  refine l_op wn (o_val (x_move (et (v := (Value.slice A' n' c')) hs_122)) ?_)
  refine l_op wn (o_val (x_len Try.underlying29 (et (v := (Value.slice A' n' c')) rfl)) ?_)
  by_cases h_125 : (i : Int) < (n' : Int)
  rotate_left
  · refine l_op wn (o_val (x_lss (r := false) (et (v := (Value.int .i64 (i : Int))) rfl) (et (v := (Value.int .i64 (n' : Int))) rfl) (dec_f h_125)) ?_)
    refine l_nil ?_
    refine w_if_f (et (v := (Value.bool false)) rfl) ?_
    refine w_exit ?_
    refine Eq.mpr (if_pos rfl) ?_
    refine w_seq ?_
    refine w_region ?_
    refine l_op wn (o_val (x_assign ec) ?_)
    refine l_nil ?_
    refine w_ret ?_
    exact ⟨_, r_tmp (v := (Value.bool true)) Try.results47 rfl, _, rfl, iff_t (by exact fun j hj => hal j (by omega)), hB_120⟩
  refine l_op wn (o_val (x_lss (r := true) (et (v := (Value.int .i64 (i : Int))) rfl) (et (v := (Value.int .i64 (n' : Int))) rfl) (dec_t h_125)) ?_)
  refine l_nil ?_
  refine w_if_t (et (v := (Value.bool true)) rfl) ?_
  refine w_skip ?_
  refine w_seq ?_
  refine w_block ?_
  refine w_seq ?_
  by_cases h_126 : (i : Int) < (n : Int)
  rotate_left
  · have hS_170 := Sm.start [] w_118
    refine w_draw (Sm [] w_118) [(0, true), (1, true), (2, true), (3, true), (4, true), (5, true), (6, true), (7, true), (8, true), (9, true), (10, true), (11, true), (12, true), (13, true), (14, true)] (by kernel_rfl) (by kernel_rfl) rfl (by kernel_rfl) ?_
    have hB_171 := hB_120.drew
    have z_172 : w_118.drew.heap.size = w_118.heap.size := rfl
    refine d_q rfl rfl wn (fun w' hS' => (x_move (et (v := (Value.int .i64 (i : Int))) hs_123))) hS_170 ?_
    refine d_q rfl rfl wn (fun w' hS' => (x_move (et (v := (Value.slice A n c)) hs_121))) hS_170 ?_
    refine d_q rfl rfl wn (fun w' hS' => (x_len Try.underlying29 (et (v := (Value.slice A n c)) rfl))) hS_170 ?_
    have h_173 : (n : Int) ≤ (i : Int) := by omega
    refine d_q rfl rfl wn (fun w' hS' => x_geq (r := true) (et (v := (Value.int .i64 (i : Int))) rfl) (et (v := (Value.int .i64 (n : Int))) rfl) (dec_t h_173)) hS_170 ?_
    refine d_q rfl rfl wn (fun w' hS' => (x_move (et (v := (Value.bool true)) rfl))) hS_170 ?_
    refine d_pass rfl (wx rfl) hS_170 ?_
    refine d_pass rfl (wx rfl) hS_170 ?_
    refine d_pass rfl (wx rfl) hS_170 ?_
    refine d_pass rfl (wx rfl) hS_170 ?_
    refine d_pass rfl (wx rfl) hS_170 ?_
    refine d_pass rfl (wx rfl) hS_170 ?_
    refine d_pass rfl (wx rfl) hS_170 ?_
    refine d_pass rfl (wx rfl) hS_170 ?_
    refine d_pass rfl (wx rfl) hS_170 ?_
    refine d_q rfl rfl wn (fun w' hS' => (x_pick_t (et (v := (Value.bool true)) rfl) ec)) hS_170 ?_
    refine d_nil ?_
    refine w_if_t (et (v := (Value.bool true)) rfl) ?_
    refine w_seq ?_
    refine w_region ?_
    refine l_op wn (o_val (x_assign ec) ?_)
    refine l_nil ?_
    refine w_ret ?_
    exact ⟨_, r_tmp (v := (Value.bool false)) Try.results47 rfl, _, rfl, iff_f (by intro e; have h1 := (begins_iff.1 e).1; omega), hB_171⟩
  obtain ⟨b_128, o_129, x_130, cs_131, G_132, hA_133, hbF_134, hlt_135, hx_136, hrx_137, hG_138, hl_139, hcl_140⟩ := hr.elem (k := 1) (fun y hy => wd_str (ok.mem y hy)) (i := i) (by omega)
  obtain ⟨s_141, rfl, rfl, rfl, bd_145⟩ := open_str (ok.get hx_136) hrx_137
  obtain ⟨b_146, o_147, x_148, cs_149, G_150, hA_151, hbF_152, hlt_153, hx_154, hrx_155, hG_156, hl_157, hcl_158⟩ := hr'.elem (k := 1) (fun y hy => wd_str (ok'.mem y hy)) (i := i) (by omega)
  obtain ⟨s_159, rfl, rfl, rfl, bd_163⟩ := open_str (ok'.get hx_154) hrx_155
  have hS_164 := Sm.start [b_128, b_146] w_118
  refine w_draw (Sm [b_128, b_146] w_118) [(0, true), (1, true), (2, true), (3, true), (4, true), (5, true), (6, true), (7, true), (8, true), (9, true), (10, true), (11, true), (12, true), (13, true), (14, true)] (by kernel_rfl) (by kernel_rfl) rfl (by kernel_rfl) ?_
  have hB_165 := hB_120.drew
  have z_166 : w_118.drew.heap.size = w_118.heap.size := rfl
  refine d_q rfl rfl wn (fun w' hS' => (x_move (et (v := (Value.int .i64 (i : Int))) hs_123))) hS_164 ?_
  refine d_q rfl rfl wn (fun w' hS' => (x_move (et (v := (Value.slice A n c)) hs_121))) hS_164 ?_
  refine d_q rfl rfl wn (fun w' hS' => (x_len Try.underlying29 (et (v := (Value.slice A n c)) rfl))) hS_164 ?_
  have h_167 : ¬ ((n : Int) ≤ (i : Int)) := by omega
  refine d_q rfl rfl wn (fun w' hS' => x_geq (r := false) (et (v := (Value.int .i64 (i : Int))) rfl) (et (v := (Value.int .i64 (n : Int))) rfl) (dec_f h_167)) hS_164 ?_
  refine d_q rfl rfl wn (fun w' hS' => (x_move (et (v := (Value.bool false)) rfl))) hS_164 ?_
  refine d_q rfl rfl (wy rfl) (fun w' hS' => (x_move (et (v := (Value.slice A n c)) hs_121))) hS_164 ?_
  refine d_q rfl rfl (wy rfl) (fun w' hS' => (x_move (et (v := (Value.int .i64 (i : Int))) hs_123))) hS_164 ?_
  refine d_q rfl rfl (wy rfl) (fun w' hS' => (x_index' (i := i) Try.underlying29 Try.sizeOf9 (et (v := (Value.slice A n c)) rfl) hA_133 (et (v := (Value.int .i64 (i : Int))) rfl) (by omega) (by omega))) hS_164 ?_
  refine d_q rfl rfl (wy rfl) (fun w' hS' => (x_load (v := (Value.string s_141)) Try.isAgg9 (et (v := (Value.pointer (some ⟨b_128, o_129 + i * 1, none⟩))) rfl) (((hl_139.keep (hB_120.block _ hlt_135)).keep (hS' _ (by simp))) 0 _ rfl))) hS_164 ?_
  refine d_q rfl rfl (wy rfl) (fun w' hS' => (x_move (et (v := (Value.slice A' n' c')) hs_122))) hS_164 ?_
  refine d_q rfl rfl (wy rfl) (fun w' hS' => (x_move (et (v := (Value.int .i64 (i : Int))) hs_123))) hS_164 ?_
  refine d_q rfl rfl (wy rfl) (fun w' hS' => (x_index' (i := i) Try.underlying29 Try.sizeOf9 (et (v := (Value.slice A' n' c')) rfl) hA_151 (et (v := (Value.int .i64 (i : Int))) rfl) (by omega) (by omega))) hS_164 ?_
  refine d_q rfl rfl (wy rfl) (fun w' hS' => (x_load (v := (Value.string s_159)) Try.isAgg9 (et (v := (Value.pointer (some ⟨b_146, o_147 + i * 1, none⟩))) rfl) (((hl_157.keep (hB_120.block _ hlt_153)).keep (hS' _ (by simp))) 0 _ rfl))) hS_164 ?_
  by_cases h_168 : s_141 = s_159
  rotate_left
  · refine d_q rfl rfl (wy rfl) (fun w' hS' => x_sneq (r := true) (et (v := (Value.string s_141)) rfl) (et (v := (Value.string s_159)) rfl) (dec_f h_168)) hS_164 ?_
    refine d_q rfl rfl wn (fun w' hS' => (x_pick_f (et (v := (Value.bool false)) rfl) (et (v := (Value.bool true)) rfl))) hS_164 ?_
    refine d_nil ?_
    refine w_if_t (et (v := (Value.bool true)) rfl) ?_
    refine w_seq ?_
    refine w_region ?_
    refine l_op wn (o_val (x_assign ec) ?_)
    refine l_nil ?_
    refine w_ret ?_
    exact ⟨_, r_tmp (v := (Value.bool false)) Try.results47 rfl, _, rfl, iff_f (by intro e; have h1 := e i (by omega); rw [hx_136, hx_154] at h1; cases h1; exact absurd rfl (by assumption)), hB_165⟩
  refine d_q rfl rfl (wy rfl) (fun w' hS' => x_sneq (r := false) (et (v := (Value.string s_141)) rfl) (et (v := (Value.string s_159)) rfl) (dec_t h_168)) hS_164 ?_
  refine d_q rfl rfl wn (fun w' hS' => (x_pick_f (et (v := (Value.bool false)) rfl) (et (v := (Value.bool false)) rfl))) hS_164 ?_
  refine d_nil ?_
  refine w_if_f (et (v := (Value.bool false)) rfl) ?_
  refine w_skip ?_
  refine w_region ?_
  refine l_op wn (o_val (x_move (et (v := (Value.int .i64 (i : Int))) hs_123)) ?_)
  refine l_op wn (o_val (x_add (et (v := (Value.int .i64 (i : Int))) rfl) ec (by omega)) ?_)
  refine l_op wn (o_val (x_assign (et (v := (Value.int .i64 ((i : Int) + 1))) rfl)) ?_)
  refine l_nil ?_
  exact ⟨n' - (i + 1), by omega, ⟨i + 1, hs_121, hs_122, vint (a := ((i : Int) + 1)) (by omega), hB_165, (by omega), (upto_succ hal (by rw [hx_136, hx_154]; congr 2)), rfl⟩⟩

set_option maxHeartbeats 800000 in
theorem sMayAct_c (w : World) (xs : List V) (A : Option Addr) (n c : Nat) (F : List Nat) (ok : Oks xs tRule) (hr : Rep w (.list xs) [.slice A n c] F) (gs : List V) (A' : Option Addr) (n' c' : Nat) (F' : List Nat) (ok' : Oks gs tStr) (hr' : Rep w (.list gs) [.slice A' n' c'] F') (ns : List V) (A'' : Option Addr) (n'' c'' : Nat) (F'' : List Nat) (ok'' : Oks ns tStr) (hr'' : Rep w (.list ns) [.slice A'' n'' c''] F'') (act : Int) (ha : -9223372036854775808 ≤ act ∧ act ≤ 9223372036854775807) : Calls Try.prog 15 #[.slice A n c, .slice A' n' c', .slice A'' n'' c'', .int .i64 act] w (RetB w (MayP xs gs ns act)) := by
  have hB0 := Below.refl w.heap.size w
  obtain ⟨ln, lc, lm⟩ := hr.len
  obtain ⟨ln', lc', lm'⟩ := hr'.len
  obtain ⟨ln'', lc'', lm''⟩ := hr''.len
  refine enter (N := 51) Try.func15 rfl Try.ntmps15 rfl ?_
  refine w_seq ?_
  refine w_region ?_
  refine l_op wn (o_val (x_assign ec) ?_)
  refine l_nil ?_
  refine w_seq ?_
  refine w_seq ?_
  refine w_region ?_
  refine l_op wn (o_val (x_assign ec) ?_)
  refine l_nil ?_
  refine w_block ?_
  refine w_loop (fun μ f w' => ∃ (i : Nat), f 0 = (Value.slice A n c) ∧ f 1 = (Value.slice A' n' c') ∧ f 2 = (Value.slice A'' n'' c'') ∧ f 3 = (Value.int .i64 act) ∧ f 9 = (Value.int .i64 (i : Int)) ∧ Below w.heap.size w w' ∧ (i ≤ n) ∧ (∀ j, j < i → ∀ y, xs[j]? = some y → ¬ HitsP y gs ns act) ∧ μ = n - i) (n - 0) ?_ ?_
  · exact ⟨0, rfl, rfl, rfl, rfl, vint (a := 0) (by omega), hB0, (by omega), (fun j hj => by omega), rfl⟩
  rintro m_176 f_174 w_175 ⟨i, hs_178, hs_179, hs_180, hs_181, hs_182, hB_177, hi, hnh, rfl⟩
  have z_183 := hB_177.size
  refine w_seq ?_
  refine w_seq ?_
  refine w_region ?_
  refine l_op wn (o_val (x_move (et (v := (Value.int .i64 (i : Int))) hs_182)) ?_)
  refine l_op wn (o_val (x_move (et (v := (Value.slice A n c)) hs_178)) ?_)
  refine l_op wn (o_val (x_len Try.underlying25 (et (v := (Value.slice A n c)) rfl)) ?_)
  by_cases h_184 : (i : Int) < (n : Int)
  rotate_left
  · refine l_op wn (o_val (x_lss (r := false) (et (v := (Value.int .i64 (i : Int))) rfl) (et (v := (Value.int .i64 (n : Int))) rfl) (dec_f h_184)) ?_)
    refine l_nil ?_
    refine w_if_f (et (v := (Value.bool false)) rfl) ?_
    refine w_exit ?_
    refine Eq.mpr (if_pos rfl) ?_
    refine w_seq ?_
    refine w_region ?_
    refine l_op wn (o_val (x_move (et (v := (Value.int .i64 act)) hs_181)) ?_)
    by_cases h_271 : act = 1
    rotate_left
    · refine l_op wn (o_val (x_eql (r := false) (et (v := (Value.int .i64 act)) rfl) ec (dec_f h_271)) ?_)
      refine l_op wn (o_val (x_assign (et (v := (Value.bool false)) rfl)) ?_)
      refine l_nil ?_
      refine w_ret ?_
      have hno := may_none (gs := gs) (ns := ns) (act := act) (xs := xs) (fun j y hy => hnh j (by have := (List.getElem?_eq_some_iff.1 hy).1; omega) y hy)
      exact ⟨_, r_tmp (v := (Value.bool false)) Try.results15 rfl, _, rfl, iff_f (fun h => absurd (hno.1 h) (by omega)), hB_177⟩
    refine l_op wn (o_val (x_eql (r := true) (et (v := (Value.int .i64 act)) rfl) ec (dec_t h_271)) ?_)
    refine l_op wn (o_val (x_assign (et (v := (Value.bool true)) rfl)) ?_)
    refine l_nil ?_
    refine w_ret ?_
    have hno := may_none (gs := gs) (ns := ns) (act := act) (xs := xs) (fun j y hy => hnh j (by have := (List.getElem?_eq_some_iff.1 hy).1; omega) y hy)
    exact ⟨_, r_tmp (v := (Value.bool true)) Try.results15 rfl, _, rfl, iff_t (hno.2 (by omega)), hB_177⟩
  refine l_op wn (o_val (x_lss (r := true) (et (v := (Value.int .i64 (i : Int))) rfl) (et (v := (Value.int .i64 (n : Int))) rfl) (dec_t h_184)) ?_)
  refine l_nil ?_
  refine w_if_t (et (v := (Value.bool true)) rfl) ?_
  refine w_skip ?_
  refine w_seq ?_
  refine w_block ?_
  refine w_seq ?_
  refine w_region ?_
  refine l_op wn (o_val (x_move (et (v := (Value.slice A n c)) hs_178)) ?_)
  refine l_op wn (o_val (x_move (et (v := (Value.int .i64 (i : Int))) hs_182)) ?_)
  obtain ⟨b_185, o_186, x_187, cs_188, G_189, hA_190, hbF_191, hlt_192, hx_193, hrx_194, hG_195, hl_196, hcl_197⟩ := hr.elem (k := 4) (fun y hy => wd_Rule (ok.mem y hy)) (i := i) (by omega)
  obtain ⟨s_198, xs_199, A_200, n_201, c_202, F_203, i_205, q_206, rfl, rfl, rfl, bd_210, ok_211, hr_212, ln_213, bd_214⟩ := open_Rule (ok.get hx_193) hrx_194
  refine l_op wn (o_val (x_index' (i := i) Try.underlying25 Try.sizeOf75 (et (v := (Value.slice A n c)) rfl) hA_190 (et (v := (Value.int .i64 (i : Int))) rfl) (by omega) (by omega)) ?_)
  refine l_op wn (o_val (x_loadN (cs := [(Value.string s_198), (Value.slice A_200 n_201 c_202), (Value.int .i64 i_205), (Value.bool q_206)]) Try.isAgg75 Try.sizeOf75 (et (v := (Value.pointer (some ⟨b_185, o_186 + i * 4, none⟩))) rfl) rfl ((hl_196.keep (hB_177.block _ hlt_192)))) ?_)
  refine l_op wn (o_new (x_alloc (cs := [(Value.string (⟨#[]⟩)), (Value.slice none 0 0), (Value.int .i64 0), (Value.bool false)]) Try.zeroValue75) ?_)
  intro w_215 z_216 k_217 bx_218
  have hB_219 := below_next hB_177 k_217 (by omega)
  refine l_op wn (o_storeN (vs := [(Value.string s_198), (Value.slice A_200 n_201 c_202), (Value.int .i64 i_205), (Value.bool q_206)]) Try.sizeOf75 (et (v := (Value.pointer (some ⟨w_175.heap.size, 0, none⟩))) rfl) (et (v := (Value.agg #[(Value.string s_198), (Value.slice A_200 n_201 c_202), (Value.int .i64 i_205), (Value.bool q_206)])) rfl) rfl (by simp [one]) bx_218 (by simp) ?_)
  intro w_220 of_221 bx_222
  have bx_223 : Blk w_220 w_175.heap.size 75 [(Value.string s_198), (Value.slice A_200 n_201 c_202), (Value.int .i64 i_205), (Value.bool q_206)] := bx_222
  have hB_224 := below_off hB_219 of_221 (by omega)
  have z_225 := of_221.size
  refine l_nil ?_
  refine w_seq ?_
  refine w_region ?_
  refine l_op wn (o_val (x_field (k := 0) (j := 0) Try.underlying75 rfl Try.sizeOf9 rfl (et (v := (Value.pointer (some ⟨w_175.heap.size, 0, none⟩))) rfl)) ?_)
  refine l_op wn (o_val (x_load (v := (Value.string s_198)) Try.isAgg9 (et (v := (Value.pointer (some ⟨w_175.heap.size, 0, none⟩))) rfl) ((bx_223.cell 0).trans rfl)) ?_)
  by_cases h_226 : s_198 = (⟨#[]⟩)
  · refine l_op wn (o_val (x_seql (r := true) (et (v := (Value.string s_198)) rfl) ec (dec_t h_226)) ?_)
    refine l_op wn (o_val (x_move (et (v := (Value.bool true)) rfl)) ?_)
    refine l_pass (wx rfl) ?_
    refine l_pass (wx rfl) ?_
    refine l_pass (wx rfl) ?_
    refine l_pass (wx rfl) ?_
    refine l_op wn (o_val (x_pick_t (et (v := (Value.bool true)) rfl) ec) ?_)
    refine l_op wn (o_val (x_move (et (v := (Value.bool true)) rfl)) ?_)
    refine l_op (wy rfl) (o_val (x_field (k := 0) (j := 2) Try.underlying75 rfl Try.sizeOf3 rfl (et (v := (Value.pointer (some ⟨w_175.heap.size, 0, none⟩))) rfl)) ?_)
    refine l_op (wy rfl) (o_val (x_load (v := (Value.int .i64 i_205)) Try.isAgg3 (et (v := (Value.pointer (some ⟨w_175.heap.size, 2, none⟩))) rfl) ((bx_223.cell 2).trans rfl)) ?_)
    by_cases h_227 : i_205 = 0
    · refine l_op (wy rfl) (o_val (x_eql (r := true) (et (v := (Value.int .i64 i_205)) rfl) ec (dec_t h_227)) ?_)
      refine l_op (wy rfl) (o_val (x_move (et (v := (Value.bool true)) rfl)) ?_)
      refine l_pass (wx rfl) ?_
      refine l_pass (wx rfl) ?_
      refine l_pass (wx rfl) ?_
      refine l_pass (wx rfl) ?_
      refine l_op (wy rfl) (o_val (x_pick_t (et (v := (Value.bool true)) rfl) ec) ?_)
      refine l_op wn (o_val (x_pick_t (et (v := (Value.bool true)) rfl) (et (v := (Value.bool true)) rfl)) ?_)
      refine l_op wn (o_val (x_move (et (v := (Value.bool true)) rfl)) ?_)
      refine l_op (wy rfl) (o_val (x_move (et (v := (Value.slice A'' n'' c'')) hs_180)) ?_)
      refine l_op (wy rfl) (o_val (x_field (k := 0) (j := 1) Try.underlying75 rfl Try.sizeOf29 rfl (et (v := (Value.pointer (some ⟨w_175.heap.size, 0, none⟩))) rfl)) ?_)
      refine l_op (wy rfl) (o_val (x_load (v := (Value.slice A_200 n_201 c_202)) Try.isAgg29 (et (v := (Value.pointer (some ⟨w_175.heap.size, 1, none⟩))) rfl) ((bx_223.cell 1).trans rfl)) ?_)
      refine l_op (wy rfl) (o_call (x_call Try.call47 ef (a2 (et (v := (Value.slice A'' n'' c'')) rfl) (et (v := (Value.slice A_200 n_201 c_202)) rfl))) (begins_c w_220 ns A'' n'' c'' _ ok'' (hr''.below hB_224) xs_199 A_200 n_201 c_202 _ ok_211 (hr_212.below hB_224)) ?_)
      rintro _ w_228 ⟨r_229, rfl, hr_230, k_231⟩
      refine ⟨_, rfl, ?_⟩
      have hB_233 := below_next hB_224 k_231 (by omega)
      have z_234 := k_231.size
      have bx_235 := bx_223.below k_231
      cases r_229
      · have h_232 : ¬ (BeginsP ns xs_199) := not_of_f hr_230
        refine l_op wn (o_val (x_pick_t (et (v := (Value.bool true)) rfl) (et (v := (Value.bool false)) rfl)) ?_)
        refine l_nil ?_
        refine w_if_f (et (v := (Value.bool false)) rfl) ?_
        refine w_skip ?_
        refine w_region ?_
        refine l_op wn (o_val (x_move (et (v := (Value.int .i64 (i : Int))) hs_182)) ?_)
        refine l_op wn (o_val (x_add (et (v := (Value.int .i64 (i : Int))) rfl) ec (by omega)) ?_)
        refine l_op wn (o_val (x_assign (et (v := (Value.int .i64 ((i : Int) + 1))) rfl)) ?_)
        refine l_nil ?_
        exact ⟨n - (i + 1), by omega, ⟨i + 1, hs_178, hs_179, hs_180, hs_181, vint (a := ((i : Int) + 1)) (by omega), hB_233, (by omega), (upto_succ hnh (fun y hy => by rw [hx_193] at hy; cases hy; rw [hits_iff]; rintro ⟨h1, h2, h3⟩; first | (rcases h1 with h1 | h1 <;> exact absurd h1 (by assumption)) | omega | exact absurd h3 (by assumption) | (have h4 := begins_iff.1 h3; first | omega | (have h5 := h4.2; rw [← ln_213.1] at h5; exact absurd h5 (by assumption)) | exact absurd h4.2 (by assumption)))), rfl⟩⟩
      have h_232 : BeginsP ns xs_199 := hr_230.1 rfl
      refine l_op wn (o_val (x_pick_t (et (v := (Value.bool true)) rfl) (et (v := (Value.bool true)) rfl)) ?_)
      refine l_nil ?_
      refine w_if_t (et (v := (Value.bool true)) rfl) ?_
      refine w_seq ?_
      refine w_region ?_
      refine l_op wn (o_val (x_field (k := 0) (j := 3) Try.underlying75 rfl Try.sizeOf4 rfl (et (v := (Value.pointer (some ⟨w_175.heap.size, 0, none⟩))) rfl)) ?_)
      refine l_op wn (o_val (x_load (v := (Value.bool q_206)) Try.isAgg4 (et (v := (Value.pointer (some ⟨w_175.heap.size, 3, none⟩))) rfl) ((bx_235.cell 3).trans rfl)) ?_)
      refine l_op wn (o_val (x_assign (et (v := (Value.bool q_206)) rfl)) ?_)
      refine l_nil ?_
      refine w_ret ?_
      exact ⟨_, r_tmp (v := (Value.bool q_206)) Try.results15 rfl, _, rfl, may_hit hx_193 hnh (hits_iff.2 ⟨by first | exact .inl (by assumption) | exact .inr (by assumption), by omega, by first | assumption | exact begins_iff.2 ⟨by omega, by first | assumption | (rw [← ln_213.1]; assumption)⟩⟩), hB_233⟩
    refine l_op (wy rfl) (o_val (x_eql (r := false) (et (v := (Value.int .i64 i_205)) rfl) ec (dec_f h_227)) ?_)
    refine l_op (wy rfl) (o_val (x_move (et (v := (Value.bool false)) rfl)) ?_)
    refine l_op (wy rfl) (o_val (x_field (k := 0) (j := 2) Try.underlying75 rfl Try.sizeOf3 rfl (et (v := (Value.pointer (some ⟨w_175.heap.size, 0, none⟩))) rfl)) ?_)
    refine l_op (wy rfl) (o_val (x_load (v := (Value.int .i64 i_205)) Try.isAgg3 (et (v := (Value.pointer (some ⟨w_175.heap.size, 2, none⟩))) rfl) ((bx_223.cell 2).trans rfl)) ?_)
    refine l_op (wy rfl) (o_val (x_move (et (v := (Value.int .i64 act)) hs_181)) ?_)
    by_cases h_236 : i_205 = act
    rotate_left
    · refine l_op (wy rfl) (o_val (x_eql (r := false) (et (v := (Value.int .i64 i_205)) rfl) (et (v := (Value.int .i64 act)) rfl) (dec_f h_236)) ?_)
      refine l_op (wy rfl) (o_val (x_pick_f (et (v := (Value.bool false)) rfl) (et (v := (Value.bool false)) rfl)) ?_)
      refine l_op wn (o_val (x_pick_t (et (v := (Value.bool true)) rfl) (et (v := (Value.bool false)) rfl)) ?_)
      refine l_op wn (o_val (x_move (et (v := (Value.bool false)) rfl)) ?_)
      refine l_pass (wx rfl) ?_
      refine l_pass (wx rfl) ?_
      refine l_pass (wx rfl) ?_
      refine l_pass (wx rfl) ?_
      refine l_op wn (o_val (x_pick_f (et (v := (Value.bool false)) rfl) ec) ?_)
      refine l_nil ?_
      refine w_if_f (et (v := (Value.bool false)) rfl) ?_
      refine w_skip ?_
      refine w_region ?_
      refine l_op wn (o_val (x_move (et (v := (Value.int .i64 (i : Int))) hs_182)) ?_)
      refine l_op wn (o_val (x_add (et (v := (Value.int .i64 (i : Int))) rfl) ec (by omega)) ?_)
      refine l_op wn (o_val (x_assign (et (v := (Value.int .i64 ((i : Int) + 1))) rfl)) ?_)
      refine l_nil ?_
      exact ⟨n - (i + 1), by omega, ⟨i + 1, hs_178, hs_179, hs_180, hs_181, vint (a := ((i : Int) + 1)) (by omega), hB_224, (by omega), (upto_succ hnh (fun y hy => by rw [hx_193] at hy; cases hy; rw [hits_iff]; rintro ⟨h1, h2, h3⟩; first | (rcases h1 with h1 | h1 <;> exact absurd h1 (by assumption)) | omega | exact absurd h3 (by assumption) | (have h4 := begins_iff.1 h3; first | omega | (have h5 := h4.2; rw [← ln_213.1] at h5; exact absurd h5 (by assumption)) | exact absurd h4.2 (by assumption)))), rfl⟩⟩
    refine l_op (wy rfl) (o_val (x_eql (r := true) (et (v := (Value.int .i64 i_205)) rfl) (et (v := (Value.int .i64 act)) rfl) (dec_t h_236)) ?_)
    refine l_op (wy rfl) (o_val (x_pick_f (et (v := (Value.bool false)) rfl) (et (v := (Value.bool true)) rfl)) ?_)
    refine l_op wn (o_val (x_pick_t (et (v := (Value.bool true)) rfl) (et (v := (Value.bool true)) rfl)) ?_)
    refine l_op wn (o_val (x_move (et (v := (Value.bool true)) rfl)) ?_)
    refine l_op (wy rfl) (o_val (x_move (et (v := (Value.slice A'' n'' c'')) hs_180)) ?_)
    refine l_op (wy rfl) (o_val (x_field (k := 0) (j := 1) Try.underlying75 rfl Try.sizeOf29 rfl (et (v := (Value.pointer (some ⟨w_175.heap.size, 0, none⟩))) rfl)) ?_)
    refine l_op (wy rfl) (o_val (x_load (v := (Value.slice A_200 n_201 c_202)) Try.isAgg29 (et (v := (Value.pointer (some ⟨w_175.heap.size, 1, none⟩))) rfl) ((bx_223.cell 1).trans rfl)) ?_)
    refine l_op (wy rfl) (o_call (x_call Try.call47 ef (a2 (et (v := (Value.slice A'' n'' c'')) rfl) (et (v := (Value.slice A_200 n_201 c_202)) rfl))) (begins_c w_220 ns A'' n'' c'' _ ok'' (hr''.below hB_224) xs_199 A_200 n_201 c_202 _ ok_211 (hr_212.below hB_224)) ?_)
    rintro _ w_237 ⟨r_238, rfl, hr_239, k_240⟩
    refine ⟨_, rfl, ?_⟩
    have hB_242 := below_next hB_224 k_240 (by omega)
    have z_243 := k_240.size
    have bx_244 := bx_223.below k_240
    cases r_238
    · have h_241 : ¬ (BeginsP ns xs_199) := not_of_f hr_239
      refine l_op wn (o_val (x_pick_t (et (v := (Value.bool true)) rfl) (et (v := (Value.bool false)) rfl)) ?_)
      refine l_nil ?_
      refine w_if_f (et (v := (Value.bool false)) rfl) ?_
      refine w_skip ?_
      refine w_region ?_
      refine l_op wn (o_val (x_move (et (v := (Value.int .i64 (i : Int))) hs_182)) ?_)
      refine l_op wn (o_val (x_add (et (v := (Value.int .i64 (i : Int))) rfl) ec (by omega)) ?_)
      refine l_op wn (o_val (x_assign (et (v := (Value.int .i64 ((i : Int) + 1))) rfl)) ?_)
      refine l_nil ?_
      exact ⟨n - (i + 1), by omega, ⟨i + 1, hs_178, hs_179, hs_180, hs_181, vint (a := ((i : Int) + 1)) (by omega), hB_242, (by omega), (upto_succ hnh (fun y hy => by rw [hx_193] at hy; cases hy; rw [hits_iff]; rintro ⟨h1, h2, h3⟩; first | (rcases h1 with h1 | h1 <;> exact absurd h1 (by assumption)) | omega | exact absurd h3 (by assumption) | (have h4 := begins_iff.1 h3; first | omega | (have h5 := h4.2; rw [← ln_213.1] at h5; exact absurd h5 (by assumption)) | exact absurd h4.2 (by assumption)))), rfl⟩⟩
    have h_241 : BeginsP ns xs_199 := hr_239.1 rfl
    refine l_op wn (o_val (x_pick_t (et (v := (Value.bool true)) rfl) (et (v := (Value.bool true)) rfl)) ?_)
    refine l_nil ?_
    refine w_if_t (et (v := (Value.bool true)) rfl) ?_
    refine w_seq ?_
    refine w_region ?_
    refine l_op wn (o_val (x_field (k := 0) (j := 3) Try.underlying75 rfl Try.sizeOf4 rfl (et (v := (Value.pointer (some ⟨w_175.heap.size, 0, none⟩))) rfl)) ?_)
    refine l_op wn (o_val (x_load (v := (Value.bool q_206)) Try.isAgg4 (et (v := (Value.pointer (some ⟨w_175.heap.size, 3, none⟩))) rfl) ((bx_244.cell 3).trans rfl)) ?_)
    refine l_op wn (o_val (x_assign (et (v := (Value.bool q_206)) rfl)) ?_)
    refine l_nil ?_
    refine w_ret ?_
    exact ⟨_, r_tmp (v := (Value.bool q_206)) Try.results15 rfl, _, rfl, may_hit hx_193 hnh (hits_iff.2 ⟨by first | exact .inl (by assumption) | exact .inr (by assumption), by omega, by first | assumption | exact begins_iff.2 ⟨by omega, by first | assumption | (rw [← ln_213.1]; assumption)⟩⟩), hB_242⟩
  refine l_op wn (o_val (x_seql (r := false) (et (v := (Value.string s_198)) rfl) ec (dec_f h_226)) ?_)
  refine l_op wn (o_val (x_move (et (v := (Value.bool false)) rfl)) ?_)
  refine l_op (wy rfl) (o_val (x_move (et (v := (Value.slice A' n' c')) hs_179)) ?_)
  refine l_op (wy rfl) (o_val (x_field (k := 0) (j := 0) Try.underlying75 rfl Try.sizeOf9 rfl (et (v := (Value.pointer (some ⟨w_175.heap.size, 0, none⟩))) rfl)) ?_)
  refine l_op (wy rfl) (o_val (x_load (v := (Value.string s_198)) Try.isAgg9 (et (v := (Value.pointer (some ⟨w_175.heap.size, 0, none⟩))) rfl) ((bx_223.cell 0).trans rfl)) ?_)
  refine l_op (wy rfl) (o_call (x_call Try.call46 ef (a2 (et (v := (Value.slice A' n' c')) rfl) (et (v := (Value.string s_198)) rfl))) (l23In_c w_220 gs A' n' c' _ ok' (hr'.below hB_224) s_198 bd_210) ?_)
  rintro _ w_245 ⟨r_246, rfl, hr_247, k_248⟩
  refine ⟨_, rfl, ?_⟩
  have hB_250 := below_next hB_224 k_248 (by omega)
  have z_251 := k_248.size
  have bx_252 := bx_223.below k_248
  cases r_246
  · have h_249 : ¬ (V.str s_198 ∈ gs) := not_of_f hr_247
    refine l_op wn (o_val (x_pick_f (et (v := (Value.bool false)) rfl) (et (v := (Value.bool false)) rfl)) ?_)
    refine l_op wn (o_val (x_move (et (v := (Value.bool false)) rfl)) ?_)
    refine l_pass (wx rfl) ?_
    refine l_pass (wx rfl) ?_
    refine l_pass (wx rfl) ?_
    refine l_pass (wx rfl) ?_
    refine l_pass (wu rfl) ?_
    refine l_pass (wu rfl) ?_
    refine l_pass (wu rfl) ?_
    refine l_pass (wu rfl) ?_
    refine l_pass (wx rfl) ?_
    refine l_op wn (o_val (x_pick_f (et (v := (Value.bool false)) rfl) ec) ?_)
    refine l_op wn (o_val (x_move (et (v := (Value.bool false)) rfl)) ?_)
    refine l_pass (wx rfl) ?_
    refine l_pass (wx rfl) ?_
    refine l_pass (wx rfl) ?_
    refine l_pass (wx rfl) ?_
    refine l_op wn (o_val (x_pick_f (et (v := (Value.bool false)) rfl) ec) ?_)
    refine l_nil ?_
    refine w_if_f (et (v := (Value.bool false)) rfl) ?_
    refine w_skip ?_
    refine w_region ?_
    refine l_op wn (o_val (x_move (et (v := (Value.int .i64 (i : Int))) hs_182)) ?_)
    refine l_op wn (o_val (x_add (et (v := (Value.int .i64 (i : Int))) rfl) ec (by omega)) ?_)
    refine l_op wn (o_val (x_assign (et (v := (Value.int .i64 ((i : Int) + 1))) rfl)) ?_)
    refine l_nil ?_
    exact ⟨n - (i + 1), by omega, ⟨i + 1, hs_178, hs_179, hs_180, hs_181, vint (a := ((i : Int) + 1)) (by omega), hB_250, (by omega), (upto_succ hnh (fun y hy => by rw [hx_193] at hy; cases hy; rw [hits_iff]; rintro ⟨h1, h2, h3⟩; first | (rcases h1 with h1 | h1 <;> exact absurd h1 (by assumption)) | omega | exact absurd h3 (by assumption) | (have h4 := begins_iff.1 h3; first | omega | (have h5 := h4.2; rw [← ln_213.1] at h5; exact absurd h5 (by assumption)) | exact absurd h4.2 (by assumption)))), rfl⟩⟩
  have h_249 : V.str s_198 ∈ gs := hr_247.1 rfl
  refine l_op wn (o_val (x_pick_f (et (v := (Value.bool false)) rfl) (et (v := (Value.bool true)) rfl)) ?_)
  refine l_op wn (o_val (x_move (et (v := (Value.bool true)) rfl)) ?_)
  refine l_op (wy rfl) (o_val (x_field (k := 0) (j := 2) Try.underlying75 rfl Try.sizeOf3 rfl (et (v := (Value.pointer (some ⟨w_175.heap.size, 0, none⟩))) rfl)) ?_)
  refine l_op (wy rfl) (o_val (x_load (v := (Value.int .i64 i_205)) Try.isAgg3 (et (v := (Value.pointer (some ⟨w_175.heap.size, 2, none⟩))) rfl) ((bx_252.cell 2).trans rfl)) ?_)
  by_cases h_253 : i_205 = 0
  · refine l_op (wy rfl) (o_val (x_eql (r := true) (et (v := (Value.int .i64 i_205)) rfl) ec (dec_t h_253)) ?_)
    refine l_op (wy rfl) (o_val (x_move (et (v := (Value.bool true)) rfl)) ?_)
    refine l_pass (wx rfl) ?_
    refine l_pass (wx rfl) ?_
    refine l_pass (wx rfl) ?_
    refine l_pass (wx rfl) ?_
    refine l_op (wy rfl) (o_val (x_pick_t (et (v := (Value.bool true)) rfl) ec) ?_)
    refine l_op wn (o_val (x_pick_t (et (v := (Value.bool true)) rfl) (et (v := (Value.bool true)) rfl)) ?_)
    refine l_op wn (o_val (x_move (et (v := (Value.bool true)) rfl)) ?_)
    refine l_op (wy rfl) (o_val (x_move (et (v := (Value.slice A'' n'' c'')) hs_180)) ?_)
    refine l_op (wy rfl) (o_val (x_field (k := 0) (j := 1) Try.underlying75 rfl Try.sizeOf29 rfl (et (v := (Value.pointer (some ⟨w_175.heap.size, 0, none⟩))) rfl)) ?_)
    refine l_op (wy rfl) (o_val (x_load (v := (Value.slice A_200 n_201 c_202)) Try.isAgg29 (et (v := (Value.pointer (some ⟨w_175.heap.size, 1, none⟩))) rfl) ((bx_252.cell 1).trans rfl)) ?_)
    refine l_op (wy rfl) (o_call (x_call Try.call47 ef (a2 (et (v := (Value.slice A'' n'' c'')) rfl) (et (v := (Value.slice A_200 n_201 c_202)) rfl))) (begins_c w_245 ns A'' n'' c'' _ ok'' (hr''.below hB_250) xs_199 A_200 n_201 c_202 _ ok_211 (hr_212.below hB_250)) ?_)
    rintro _ w_254 ⟨r_255, rfl, hr_256, k_257⟩
    refine ⟨_, rfl, ?_⟩
    have hB_259 := below_next hB_250 k_257 (by omega)
    have z_260 := k_257.size
    have bx_261 := bx_252.below k_257
    cases r_255
    · have h_258 : ¬ (BeginsP ns xs_199) := not_of_f hr_256
      refine l_op wn (o_val (x_pick_t (et (v := (Value.bool true)) rfl) (et (v := (Value.bool false)) rfl)) ?_)
      refine l_nil ?_
      refine w_if_f (et (v := (Value.bool false)) rfl) ?_
      refine w_skip ?_
      refine w_region ?_
      refine l_op wn (o_val (x_move (et (v := (Value.int .i64 (i : Int))) hs_182)) ?_)
      refine l_op wn (o_val (x_add (et (v := (Value.int .i64 (i : Int))) rfl) ec (by omega)) ?_)
      refine l_op wn (o_val (x_assign (et (v := (Value.int .i64 ((i : Int) + 1))) rfl)) ?_)
      refine l_nil ?_
      exact ⟨n - (i + 1), by omega, ⟨i + 1, hs_178, hs_179, hs_180, hs_181, vint (a := ((i : Int) + 1)) (by omega), hB_259, (by omega), (upto_succ hnh (fun y hy => by rw [hx_193] at hy; cases hy; rw [hits_iff]; rintro ⟨h1, h2, h3⟩; first | (rcases h1 with h1 | h1 <;> exact absurd h1 (by assumption)) | omega | exact absurd h3 (by assumption) | (have h4 := begins_iff.1 h3; first | omega | (have h5 := h4.2; rw [← ln_213.1] at h5; exact absurd h5 (by assumption)) | exact absurd h4.2 (by assumption)))), rfl⟩⟩
    have h_258 : BeginsP ns xs_199 := hr_256.1 rfl
    refine l_op wn (o_val (x_pick_t (et (v := (Value.bool true)) rfl) (et (v := (Value.bool true)) rfl)) ?_)
    refine l_nil ?_
    refine w_if_t (et (v := (Value.bool true)) rfl) ?_
    refine w_seq ?_
    refine w_region ?_
    refine l_op wn (o_val (x_field (k := 0) (j := 3) Try.underlying75 rfl Try.sizeOf4 rfl (et (v := (Value.pointer (some ⟨w_175.heap.size, 0, none⟩))) rfl)) ?_)
    refine l_op wn (o_val (x_load (v := (Value.bool q_206)) Try.isAgg4 (et (v := (Value.pointer (some ⟨w_175.heap.size, 3, none⟩))) rfl) ((bx_261.cell 3).trans rfl)) ?_)
    refine l_op wn (o_val (x_assign (et (v := (Value.bool q_206)) rfl)) ?_)
    refine l_nil ?_
    refine w_ret ?_
    exact ⟨_, r_tmp (v := (Value.bool q_206)) Try.results15 rfl, _, rfl, may_hit hx_193 hnh (hits_iff.2 ⟨by first | exact .inl (by assumption) | exact .inr (by assumption), by omega, by first | assumption | exact begins_iff.2 ⟨by omega, by first | assumption | (rw [← ln_213.1]; assumption)⟩⟩), hB_259⟩
  refine l_op (wy rfl) (o_val (x_eql (r := false) (et (v := (Value.int .i64 i_205)) rfl) ec (dec_f h_253)) ?_)
  refine l_op (wy rfl) (o_val (x_move (et (v := (Value.bool false)) rfl)) ?_)
  refine l_op (wy rfl) (o_val (x_field (k := 0) (j := 2) Try.underlying75 rfl Try.sizeOf3 rfl (et (v := (Value.pointer (some ⟨w_175.heap.size, 0, none⟩))) rfl)) ?_)
  refine l_op (wy rfl) (o_val (x_load (v := (Value.int .i64 i_205)) Try.isAgg3 (et (v := (Value.pointer (some ⟨w_175.heap.size, 2, none⟩))) rfl) ((bx_252.cell 2).trans rfl)) ?_)
  refine l_op (wy rfl) (o_val (x_move (et (v := (Value.int .i64 act)) hs_181)) ?_)
  by_cases h_262 : i_205 = act
  rotate_left
  · refine l_op (wy rfl) (o_val (x_eql (r := false) (et (v := (Value.int .i64 i_205)) rfl) (et (v := (Value.int .i64 act)) rfl) (dec_f h_262)) ?_)
    refine l_op (wy rfl) (o_val (x_pick_f (et (v := (Value.bool false)) rfl) (et (v := (Value.bool false)) rfl)) ?_)
    refine l_op wn (o_val (x_pick_t (et (v := (Value.bool true)) rfl) (et (v := (Value.bool false)) rfl)) ?_)
    refine l_op wn (o_val (x_move (et (v := (Value.bool false)) rfl)) ?_)
    refine l_pass (wx rfl) ?_
    refine l_pass (wx rfl) ?_
    refine l_pass (wx rfl) ?_
    refine l_pass (wx rfl) ?_
    refine l_op wn (o_val (x_pick_f (et (v := (Value.bool false)) rfl) ec) ?_)
    refine l_nil ?_
    refine w_if_f (et (v := (Value.bool false)) rfl) ?_
    refine w_skip ?_
    refine w_region ?_
    refine l_op wn (o_val (x_move (et (v := (Value.int .i64 (i : Int))) hs_182)) ?_)
    refine l_op wn (o_val (x_add (et (v := (Value.int .i64 (i : Int))) rfl) ec (by omega)) ?_)
    refine l_op wn (o_val (x_assign (et (v := (Value.int .i64 ((i : Int) + 1))) rfl)) ?_)
    refine l_nil ?_
    exact ⟨n - (i + 1), by omega, ⟨i + 1, hs_178, hs_179, hs_180, hs_181, vint (a := ((i : Int) + 1)) (by omega), hB_250, (by omega), (upto_succ hnh (fun y hy => by rw [hx_193] at hy; cases hy; rw [hits_iff]; rintro ⟨h1, h2, h3⟩; first | (rcases h1 with h1 | h1 <;> exact absurd h1 (by assumption)) | omega | exact absurd h3 (by assumption) | (have h4 := begins_iff.1 h3; first | omega | (have h5 := h4.2; rw [← ln_213.1] at h5; exact absurd h5 (by assumption)) | exact absurd h4.2 (by assumption)))), rfl⟩⟩
  refine l_op (wy rfl) (o_val (x_eql (r := true) (et (v := (Value.int .i64 i_205)) rfl) (et (v := (Value.int .i64 act)) rfl) (dec_t h_262)) ?_)
  refine l_op (wy rfl) (o_val (x_pick_f (et (v := (Value.bool false)) rfl) (et (v := (Value.bool true)) rfl)) ?_)
  refine l_op wn (o_val (x_pick_t (et (v := (Value.bool true)) rfl) (et (v := (Value.bool true)) rfl)) ?_)
  refine l_op wn (o_val (x_move (et (v := (Value.bool true)) rfl)) ?_)
  refine l_op (wy rfl) (o_val (x_move (et (v := (Value.slice A'' n'' c'')) hs_180)) ?_)
  refine l_op (wy rfl) (o_val (x_field (k := 0) (j := 1) Try.underlying75 rfl Try.sizeOf29 rfl (et (v := (Value.pointer (some ⟨w_175.heap.size, 0, none⟩))) rfl)) ?_)
  refine l_op (wy rfl) (o_val (x_load (v := (Value.slice A_200 n_201 c_202)) Try.isAgg29 (et (v := (Value.pointer (some ⟨w_175.heap.size, 1, none⟩))) rfl) ((bx_252.cell 1).trans rfl)) ?_)
  refine l_op (wy rfl) (o_call (x_call Try.call47 ef (a2 (et (v := (Value.slice A'' n'' c'')) rfl) (et (v := (Value.slice A_200 n_201 c_202)) rfl))) (begins_c w_245 ns A'' n'' c'' _ ok'' (hr''.below hB_250) xs_199 A_200 n_201 c_202 _ ok_211 (hr_212.below hB_250)) ?_)
  rintro _ w_263 ⟨r_264, rfl, hr_265, k_266⟩
  refine ⟨_, rfl, ?_⟩
  have hB_268 := below_next hB_250 k_266 (by omega)
  have z_269 := k_266.size
  have bx_270 := bx_252.below k_266
  cases r_264
  · have h_267 : ¬ (BeginsP ns xs_199) := not_of_f hr_265
    refine l_op wn (o_val (x_pick_t (et (v := (Value.bool true)) rfl) (et (v := (Value.bool false)) rfl)) ?_)
    refine l_nil ?_
    refine w_if_f (et (v := (Value.bool false)) rfl) ?_
    refine w_skip ?_
    refine w_region ?_
    refine l_op wn (o_val (x_move (et (v := (Value.int .i64 (i : Int))) hs_182)) ?_)
    refine l_op wn (o_val (x_add (et (v := (Value.int .i64 (i : Int))) rfl) ec (by omega)) ?_)
    refine l_op wn (o_val (x_assign (et (v := (Value.int .i64 ((i : Int) + 1))) rfl)) ?_)
    refine l_nil ?_
    exact ⟨n - (i + 1), by omega, ⟨i + 1, hs_178, hs_179, hs_180, hs_181, vint (a := ((i : Int) + 1)) (by omega), hB_268, (by omega), (upto_succ hnh (fun y hy => by rw [hx_193] at hy; cases hy; rw [hits_iff]; rintro ⟨h1, h2, h3⟩; first | (rcases h1 with h1 | h1 <;> exact absurd h1 (by assumption)) | omega | exact absurd h3 (by assumption) | (have h4 := begins_iff.1 h3; first | omega | (have h5 := h4.2; rw [← ln_213.1] at h5; exact absurd h5 (by assumption)) | exact absurd h4.2 (by assumption)))), rfl⟩⟩
  have h_267 : BeginsP ns xs_199 := hr_265.1 rfl
  refine l_op wn (o_val (x_pick_t (et (v := (Value.bool true)) rfl) (et (v := (Value.bool true)) rfl)) ?_)
  refine l_nil ?_
  refine w_if_t (et (v := (Value.bool true)) rfl) ?_
  refine w_seq ?_
  refine w_region ?_
  refine l_op wn (o_val (x_field (k := 0) (j := 3) Try.underlying75 rfl Try.sizeOf4 rfl (et (v := (Value.pointer (some ⟨w_175.heap.size, 0, none⟩))) rfl)) ?_)
  refine l_op wn (o_val (x_load (v := (Value.bool q_206)) Try.isAgg4 (et (v := (Value.pointer (some ⟨w_175.heap.size, 3, none⟩))) rfl) ((bx_270.cell 3).trans rfl)) ?_)
  refine l_op wn (o_val (x_assign (et (v := (Value.bool q_206)) rfl)) ?_)
  refine l_nil ?_
  refine w_ret ?_
  exact ⟨_, r_tmp (v := (Value.bool q_206)) Try.results15 rfl, _, rfl, may_hit hx_193 hnh (hits_iff.2 ⟨by first | exact .inl (by assumption) | exact .inr (by assumption), by omega, by first | assumption | exact begins_iff.2 ⟨by omega, by first | assumption | (rw [← ln_213.1]; assumption)⟩⟩), hB_268⟩

set_option maxHeartbeats 800000 in
theorem mayAct_c (w : World) (xs : List V) (A : Option Addr) (n c : Nat) (F : List Nat) (ok : Oks xs tRule) (hr : Rep w (.list xs) [.slice A n c] F) (gs : List V) (A' : Option Addr) (n' c' : Nat) (F' : List Nat) (ok' : Oks gs tStr) (hr' : Rep w (.list gs) [.slice A' n' c'] F') (ns : List V) (A'' : Option Addr) (n'' c'' : Nat) (F'' : List Nat) (ok'' : Oks ns tStr) (hr'' : Rep w (.list ns) [.slice A'' n'' c''] F'') (act : Int) (ha : -9223372036854775808 ≤ act ∧ act ≤ 9223372036854775807) : Calls Try.prog 17 #[.slice A n c, .slice A' n' c', .slice A'' n'' c'', .int .i64 act] w (RetB w (MayP xs gs ns act)) := by
  have hB0 := Below.refl w.heap.size w
  obtain ⟨ln, lc, lm⟩ := hr.len
  obtain ⟨ln', lc', lm'⟩ := hr'.len
  obtain ⟨ln'', lc'', lm''⟩ := hr''.len
  refine enter (N := 60) Try.func17 rfl Try.ntmps17 rfl ?_
  refine w_seq ?_
  refine w_region ?_
  refine l_op wn (o_val (x_assign ec) ?_)
  refine l_nil ?_
  refine w_seq ?_
  refine w_seq ?_
  refine w_region ?_
  refine l_op wn (o_val (x_move (et (v := (Value.slice A n c)) rfl)) ?_)
  refine l_op wn (o_val (x_len Try.underlying25 (et (v := (Value.slice A n c)) rfl)) ?_)
  refine l_op wn (o_val (x_move ec) ?_)
  refine l_nil ?_
  refine w_block ?_
  refine w_loop (fun μ f w' => ∃ (i : Nat), f 0 = (Value.slice A n c) ∧ f 1 = (Value.slice A' n' c') ∧ f 2 = (Value.slice A'' n'' c'') ∧ f 3 = (Value.int .i64 act) ∧ f 11 = (Value.slice A n c) ∧ f 12 = (Value.int .i64 (n : Int)) ∧ f 13 = (Value.int .i64 (i : Int)) ∧ Below w.heap.size w w' ∧ (i ≤ n) ∧ (∀ j, j < i → ∀ y, xs[j]? = some y → ¬ HitsP y gs ns act) ∧ μ = n - i) (n - 0) ?_ ?_
  · exact ⟨0, rfl, rfl, rfl, rfl, rfl, rfl, vint (a := 0) (by omega), hB0, (by omega), (fun j hj => by omega), rfl⟩
  rintro m_274 f_272 w_273 ⟨i, hs_276, hs_277, hs_278, hs_279, hs_280, hs_281, hs_282, hB_275, hi, hnh, rfl⟩
  have z_283 := hB_275.size
  refine w_seq ?_
  refine w_region ?_
  by_cases h_284 : (i : Int) < (n : Int)
  rotate_left
  · refine l_op wn (o_val (x_lss (r := false) (et (v := (Value.int .i64 (i : Int))) hs_282) (et (v := (Value.int .i64 (n : Int))) hs_281) (dec_f h_284)) ?_)
    refine l_nil ?_
    refine w_seq ?_
    refine w_if_f (et (v := (Value.bool false)) rfl) ?_
    refine w_exit ?_
    refine Eq.mpr (if_pos rfl) ?_
    refine w_seq ?_
    refine w_region ?_
    refine l_op wn (o_val (x_move (et (v := (Value.int .i64 act)) hs_279)) ?_)
    by_cases h_401 : act = 1
    rotate_left
    · refine l_op wn (o_val (x_eql (r := false) (et (v := (Value.int .i64 act)) rfl) ec (dec_f h_401)) ?_)
      refine l_op wn (o_val (x_assign (et (v := (Value.bool false)) rfl)) ?_)
      refine l_nil ?_
      refine w_ret ?_
      have hno := may_none (gs := gs) (ns := ns) (act := act) (xs := xs) (fun j y hy => hnh j (by have := (List.getElem?_eq_some_iff.1 hy).1; omega) y hy)
      exact ⟨_, r_tmp (v := (Value.bool false)) Try.results17 rfl, _, rfl, iff_f (fun h => absurd (hno.1 h) (by omega)), hB_275⟩
    refine l_op wn (o_val (x_eql (r := true) (et (v := (Value.int .i64 act)) rfl) ec (dec_t h_401)) ?_)
    refine l_op wn (o_val (x_assign (et (v := (Value.bool true)) rfl)) ?_)
    refine l_nil ?_
    refine w_ret ?_
    have hno := may_none (gs := gs) (ns := ns) (act := act) (xs := xs) (fun j y hy => hnh j (by have := (List.getElem?_eq_some_iff.1 hy).1; omega) y hy)
    exact ⟨_, r_tmp (v := (Value.bool true)) Try.results17 rfl, _, rfl, iff_t (hno.2 (by omega)), hB_275⟩
  refine l_op wn (o_val (x_lss (r := true) (et (v := (Value.int .i64 (i : Int))) hs_282) (et (v := (Value.int .i64 (n : Int))) hs_281) (dec_t h_284)) ?_)
  refine l_nil ?_
  refine w_seq ?_
  refine w_if_t (et (v := (Value.bool true)) rfl) ?_
  refine w_skip ?_
  refine w_seq ?_
  refine w_block ?_
  refine w_seq ?_
  refine w_region ?_
  obtain ⟨b_285, o_286, x_287, cs_288, G_289, hA_290, hbF_291, hlt_292, hx_293, hrx_294, hG_295, hl_296, hcl_297⟩ := hr.elem (k := 4) (fun y hy => wd_Rule (ok.mem y hy)) (i := i) (by omega)
  obtain ⟨s_298, xs_299, A_300, n_301, c_302, F_303, i_305, q_306, rfl, rfl, rfl, bd_310, ok_311, hr_312, ln_313, bd_314⟩ := open_Rule (ok.get hx_293) hrx_294
  refine l_op wn (o_val (x_index' (i := i) Try.underlying25 Try.sizeOf75 (et (v := (Value.slice A n c)) hs_280) hA_290 (et (v := (Value.int .i64 (i : Int))) hs_282) (by omega) (by omega)) ?_)
  refine l_op wn (o_val (x_loadN (cs := [(Value.string s_298), (Value.slice A_300 n_301 c_302), (Value.int .i64 i_305), (Value.bool q_306)]) Try.isAgg75 Try.sizeOf75 (et (v := (Value.pointer (some ⟨b_285, o_286 + i * 4, none⟩))) rfl) rfl ((hl_296.keep (hB_275.block _ hlt_292)))) ?_)
  refine l_op wn (o_new (x_alloc (cs := [(Value.string (⟨#[]⟩)), (Value.slice none 0 0), (Value.int .i64 0), (Value.bool false)]) Try.zeroValue75) ?_)
  intro w_315 z_316 k_317 bx_318
  have hB_319 := below_next hB_275 k_317 (by omega)
  refine l_op wn (o_storeN (vs := [(Value.string s_298), (Value.slice A_300 n_301 c_302), (Value.int .i64 i_305), (Value.bool q_306)]) Try.sizeOf75 (et (v := (Value.pointer (some ⟨w_273.heap.size, 0, none⟩))) rfl) (et (v := (Value.agg #[(Value.string s_298), (Value.slice A_300 n_301 c_302), (Value.int .i64 i_305), (Value.bool q_306)])) rfl) rfl (by simp [one]) bx_318 (by simp) ?_)
  intro w_320 of_321 bx_322
  have bx_323 : Blk w_320 w_273.heap.size 75 [(Value.string s_298), (Value.slice A_300 n_301 c_302), (Value.int .i64 i_305), (Value.bool q_306)] := bx_322
  have hB_324 := below_off hB_319 of_321 (by omega)
  have z_325 := of_321.size
  refine l_nil ?_
  refine w_seq ?_
  have hS_327 := Sm.start [w_273.heap.size] w_320
  refine w_draw (Sm [w_273.heap.size] w_320) [(0, true), (1, true), (2, true), (3, true), (4, true), (5, true), (6, true), (7, false), (8, true), (9, true), (10, true), (11, true), (12, true), (13, true), (14, true), (15, true), (16, true), (17, true), (18, true), (19, true), (20, true), (21, true), (22, true), (23, true), (24, true), (25, true), (26, true), (27, true), (28, true), (29, true), (30, true), (31, true), (32, true), (33, true), (34, true), (35, true), (36, false), (37, true)] (by kernel_rfl) (by kernel_rfl) rfl (by kernel_rfl) ?_
  have hB_328 := hB_324.drew
  have bx_329 := bx_323.drew
  have z_330 : w_320.drew.heap.size = w_320.heap.size := rfl
  refine d_q rfl rfl wn (fun w' hS' => (x_field (k := 0) (j := 0) Try.underlying75 rfl Try.sizeOf9 rfl (et (v := (Value.pointer (some ⟨w_273.heap.size, 0, none⟩))) rfl))) hS_327 ?_
  refine d_q rfl rfl wn (fun w' hS' => (x_load (v := (Value.string s_298)) Try.isAgg9 (et (v := (Value.pointer (some ⟨w_273.heap.size, 0, none⟩))) rfl) (((bx_323.keep (hS' _ (by simp))).cell 0).trans rfl))) hS_327 ?_
  by_cases h_331 : s_298 = (⟨#[]⟩)
  · refine d_q rfl rfl wn (fun w' hS' => x_seql (r := true) (et (v := (Value.string s_298)) rfl) ec (dec_t h_331)) hS_327 ?_
    refine d_q rfl rfl wn (fun w' hS' => (x_move (et (v := (Value.bool true)) rfl))) hS_327 ?_
    refine d_pass rfl (wx rfl) hS_327 ?_
    refine d_pass rfl (wx rfl) hS_327 ?_
    refine d_pass rfl (wx rfl) hS_327 ?_
    refine d_passn rfl (wx rfl) hS_327 ?_
    refine d_q rfl rfl wn (fun w' hS' => (x_pick_t (et (v := (Value.bool true)) rfl) ec)) hS_327 ?_
    refine d_q rfl rfl wn (fun w' hS' => (x_move (et (v := (Value.bool true)) rfl))) hS_327 ?_
    refine d_q rfl rfl (wy rfl) (fun w' hS' => (x_field (k := 0) (j := 2) Try.underlying75 rfl Try.sizeOf3 rfl (et (v := (Value.pointer (some ⟨w_273.heap.size, 0, none⟩))) rfl))) hS_327 ?_
    refine d_q rfl rfl (wy rfl) (fun w' hS' => (x_load (v := (Value.int .i64 i_305)) Try.isAgg3 (et (v := (Value.pointer (some ⟨w_273.heap.size, 2, none⟩))) rfl) (((bx_323.keep (hS' _ (by simp))).cell 2).trans rfl))) hS_327 ?_
    by_cases h_332 : i_305 = 0
    · refine d_q rfl rfl (wy rfl) (fun w' hS' => x_eql (r := true) (et (v := (Value.int .i64 i_305)) rfl) ec (dec_t h_332)) hS_327 ?_
      refine d_q rfl rfl (wy rfl) (fun w' hS' => (x_move (et (v := (Value.bool true)) rfl))) hS_327 ?_
      refine d_pass rfl (wx rfl) hS_327 ?_
      refine d_pass rfl (wx rfl) hS_327 ?_
      refine d_pass rfl (wx rfl) hS_327 ?_
      refine d_pass rfl (wx rfl) hS_327 ?_
      refine d_q rfl rfl (wy rfl) (fun w' hS' => (x_pick_t (et (v := (Value.bool true)) rfl) ec)) hS_327 ?_
      refine d_q rfl rfl wn (fun w' hS' => (x_pick_t (et (v := (Value.bool true)) rfl) (et (v := (Value.bool true)) rfl))) hS_327 ?_
      refine d_q rfl rfl wn (fun w' hS' => (x_move (et (v := (Value.bool true)) rfl))) hS_327 ?_
      refine d_q rfl rfl (wy rfl) (fun w' hS' => (x_field (k := 0) (j := 1) Try.underlying75 rfl Try.sizeOf29 rfl (et (v := (Value.pointer (some ⟨w_273.heap.size, 0, none⟩))) rfl))) hS_327 ?_
      refine d_q rfl rfl (wy rfl) (fun w' hS' => (x_load (v := (Value.slice A_300 n_301 c_302)) Try.isAgg29 (et (v := (Value.pointer (some ⟨w_273.heap.size, 1, none⟩))) rfl) (((bx_323.keep (hS' _ (by simp))).cell 1).trans rfl))) hS_327 ?_
      refine d_q rfl rfl (wy rfl) (fun w' hS' => (x_len Try.underlying29 (et (v := (Value.slice A_300 n_301 c_302)) rfl))) hS_327 ?_
      refine d_q rfl rfl (wy rfl) (fun w' hS' => (x_move (et (v := (Value.slice A'' n'' c'')) hs_278))) hS_327 ?_
      refine d_q rfl rfl (wy rfl) (fun w' hS' => (x_len Try.underlying29 (et (v := (Value.slice A'' n'' c'')) rfl))) hS_327 ?_
      by_cases h_333 : (n_301 : Int) ≤ (n'' : Int)
      rotate_left
      · refine d_q rfl rfl (wy rfl) (fun w' hS' => x_leq (r := false) (et (v := (Value.int .i64 (n_301 : Int))) rfl) (et (v := (Value.int .i64 (n'' : Int))) rfl) (dec_f h_333)) hS_327 ?_
        refine d_q rfl rfl wn (fun w' hS' => (x_pick_t (et (v := (Value.bool true)) rfl) (et (v := (Value.bool false)) rfl))) hS_327 ?_
        refine d_q rfl rfl wn (fun w' hS' => (x_move (et (v := (Value.bool false)) rfl))) hS_327 ?_
        refine d_pass rfl (wx rfl) hS_327 ?_
        refine d_pass rfl (wx rfl) hS_327 ?_
        refine d_pass rfl (wx rfl) hS_327 ?_
        refine d_pass rfl (wx rfl) hS_327 ?_
        refine d_pass rfl (wx rfl) hS_327 ?_
        refine d_pass rfl (wx rfl) hS_327 ?_
        refine d_pass rfl (wx rfl) hS_327 ?_
        refine d_passn rfl (wx rfl) hS_327 ?_
        refine d_q rfl rfl wn (fun w' hS' => (x_pick_f (et (v := (Value.bool false)) rfl) ec)) hS_327 ?_
        refine d_nil ?_
        refine w_if_f (et (v := (Value.bool false)) rfl) ?_
        refine w_skip ?_
        refine w_region ?_
        refine l_op wn (o_val (x_add (et (v := (Value.int .i64 (i : Int))) hs_282) ec (by omega)) ?_)
        refine l_op wn (o_val (x_move (et (v := (Value.int .i64 ((i : Int) + 1))) rfl)) ?_)
        refine l_nil ?_
        exact ⟨n - (i + 1), by omega, ⟨i + 1, hs_276, hs_277, hs_278, hs_279, hs_280, hs_281, vint (a := ((i : Int) + 1)) (by omega), hB_328, (by omega), (upto_succ hnh (fun y hy => by rw [hx_293] at hy; cases hy; rw [hits_iff]; rintro ⟨h1, h2, h3⟩; first | (rcases h1 with h1 | h1 <;> exact absurd h1 (by assumption)) | omega | exact absurd h3 (by assumption) | (have h4 := begins_iff.1 h3; first | omega | (have h5 := h4.2; rw [← ln_313.1] at h5; exact absurd h5 (by assumption)) | exact absurd h4.2 (by assumption)))), rfl⟩⟩
      refine d_q rfl rfl (wy rfl) (fun w' hS' => x_leq (r := true) (et (v := (Value.int .i64 (n_301 : Int))) rfl) (et (v := (Value.int .i64 (n'' : Int))) rfl) (dec_t h_333)) hS_327 ?_
      refine d_q rfl rfl wn (fun w' hS' => (x_pick_t (et (v := (Value.bool true)) rfl) (et (v := (Value.bool true)) rfl))) hS_327 ?_
      refine d_q rfl rfl wn (fun w' hS' => (x_move (et (v := (Value.bool true)) rfl))) hS_327 ?_
      refine d_q rfl rfl (wy rfl) (fun w' hS' => (x_field (k := 0) (j := 1) Try.underlying75 rfl Try.sizeOf29 rfl (et (v := (Value.pointer (some ⟨w_273.heap.size, 0, none⟩))) rfl))) hS_327 ?_
      refine d_q rfl rfl (wy rfl) (fun w' hS' => (x_load (v := (Value.slice A_300 n_301 c_302)) Try.isAgg29 (et (v := (Value.pointer (some ⟨w_273.heap.size, 1, none⟩))) rfl) (((bx_323.keep (hS' _ (by simp))).cell 1).trans rfl))) hS_327 ?_
      refine d_q rfl rfl (wy rfl) (fun w' hS' => (x_move (et (v := (Value.slice A'' n'' c'')) hs_278))) hS_327 ?_
      refine d_q rfl rfl (wy rfl) (fun w' hS' => (x_field (k := 0) (j := 1) Try.underlying75 rfl Try.sizeOf29 rfl (et (v := (Value.pointer (some ⟨w_273.heap.size, 0, none⟩))) rfl))) hS_327 ?_
      refine d_q rfl rfl (wy rfl) (fun w' hS' => (x_load (v := (Value.slice A_300 n_301 c_302)) Try.isAgg29 (et (v := (Value.pointer (some ⟨w_273.heap.size, 1, none⟩))) rfl) (((bx_323.keep (hS' _ (by simp))).cell 1).trans rfl))) hS_327 ?_
      refine d_q rfl rfl (wy rfl) (fun w' hS' => (x_len Try.underlying29 (et (v := (Value.slice A_300 n_301 c_302)) rfl))) hS_327 ?_
      obtain ⟨G_334, hr_335, hs_336⟩ := hr''.take n_301 (by omega)
      refine d_q rfl rfl (wy rfl) (fun w' hS' => (x_slice_hi (h := n_301) Try.underlying29 Try.sizeOf9 (et (v := (Value.slice A'' n'' c'')) rfl) (et (v := (Value.int .i64 (n_301 : Int))) rfl) (by omega) (by omega))) hS_327 ?_
      refine d_op rfl (wy rfl) (o_call (x_call Try.call49 ef (a2 (et (v := (Value.slice A_300 n_301 c_302)) rfl) (et (v := (Value.slice A'' n_301 c'')) rfl))) (equal_c w_320.drew xs_299 A_300 n_301 c_302 _ ok_311 (hr_312.below hB_328) (ns.take n_301) A'' n_301 c'' _ (ok''.take n_301) (hr_335.below hB_328)) ?_)
      rintro _ w_338 ⟨r_339, rfl, hr_340, k_341⟩
      refine ⟨_, rfl, ?_⟩
      have hB_343 := below_next hB_328 k_341 (by omega)
      have z_344 := k_341.size
      have bx_345 := bx_329.below k_341
      have hS_346 := hS_327.next k_341 (by simp; omega)
      refine ⟨hS_346, ?_⟩
      cases r_339
      · have h_342 : ¬ (xs_299 = (ns.take n_301)) := not_of_f hr_340
        refine d_q rfl rfl wn (fun w' hS' => (x_pick_t (et (v := (Value.bool true)) rfl) (et (v := (Value.bool false)) rfl))) hS_346 ?_
        refine d_nil ?_
        refine w_if_f (et (v := (Value.bool false)) rfl) ?_
        refine w_skip ?_
        refine w_region ?_
        refine l_op wn (o_val (x_add (et (v := (Value.int .i64 (i : Int))) hs_282) ec (by omega)) ?_)
        refine l_op wn (o_val (x_move (et (v := (Value.int .i64 ((i : Int) + 1))) rfl)) ?_)
        refine l_nil ?_
        exact ⟨n - (i + 1), by omega, ⟨i + 1, hs_276, hs_277, hs_278, hs_279, hs_280, hs_281, vint (a := ((i : Int) + 1)) (by omega), hB_343, (by omega), (upto_succ hnh (fun y hy => by rw [hx_293] at hy; cases hy; rw [hits_iff]; rintro ⟨h1, h2, h3⟩; first | (rcases h1 with h1 | h1 <;> exact absurd h1 (by assumption)) | omega | exact absurd h3 (by assumption) | (have h4 := begins_iff.1 h3; first | omega | (have h5 := h4.2; rw [← ln_313.1] at h5; exact absurd h5 (by assumption)) | exact absurd h4.2 (by assumption)))), rfl⟩⟩
      have h_342 : xs_299 = (ns.take n_301) := hr_340.1 rfl
      refine d_q rfl rfl wn (fun w' hS' => (x_pick_t (et (v := (Value.bool true)) rfl) (et (v := (Value.bool true)) rfl))) hS_346 ?_
      refine d_nil ?_
      refine w_if_t (et (v := (Value.bool true)) rfl) ?_
      refine w_seq ?_
      refine w_region ?_
      refine l_op wn (o_val (x_field (k := 0) (j := 3) Try.underlying75 rfl Try.sizeOf4 rfl (et (v := (Value.pointer (some ⟨w_273.heap.size, 0, none⟩))) rfl)) ?_)
      refine l_op wn (o_val (x_load (v := (Value.bool q_306)) Try.isAgg4 (et (v := (Value.pointer (some ⟨w_273.heap.size, 3, none⟩))) rfl) ((bx_345.cell 3).trans rfl)) ?_)
      refine l_op wn (o_val (x_assign (et (v := (Value.bool q_306)) rfl)) ?_)
      refine l_nil ?_
      refine w_ret ?_
      exact ⟨_, r_tmp (v := (Value.bool q_306)) Try.results17 rfl, _, rfl, may_hit hx_293 hnh (hits_iff.2 ⟨by first | exact .inl (by assumption) | exact .inr (by assumption), by omega, by first | assumption | exact begins_iff.2 ⟨by omega, by first | assumption | (rw [← ln_313.1]; assumption)⟩⟩), hB_343⟩
    refine d_q rfl rfl (wy rfl) (fun w' hS' => x_eql (r := false) (et (v := (Value.int .i64 i_305)) rfl) ec (dec_f h_332)) hS_327 ?_
    refine d_q rfl rfl (wy rfl) (fun w' hS' => (x_move (et (v := (Value.bool false)) rfl))) hS_327 ?_
    refine d_q rfl rfl (wy rfl) (fun w' hS' => (x_field (k := 0) (j := 2) Try.underlying75 rfl Try.sizeOf3 rfl (et (v := (Value.pointer (some ⟨w_273.heap.size, 0, none⟩))) rfl))) hS_327 ?_
    refine d_q rfl rfl (wy rfl) (fun w' hS' => (x_load (v := (Value.int .i64 i_305)) Try.isAgg3 (et (v := (Value.pointer (some ⟨w_273.heap.size, 2, none⟩))) rfl) (((bx_323.keep (hS' _ (by simp))).cell 2).trans rfl))) hS_327 ?_
    refine d_q rfl rfl (wy rfl) (fun w' hS' => (x_move (et (v := (Value.int .i64 act)) hs_279))) hS_327 ?_
    by_cases h_347 : i_305 = act
    rotate_left
    · refine d_q rfl rfl (wy rfl) (fun w' hS' => x_eql (r := false) (et (v := (Value.int .i64 i_305)) rfl) (et (v := (Value.int .i64 act)) rfl) (dec_f h_347)) hS_327 ?_
      refine d_q rfl rfl (wy rfl) (fun w' hS' => (x_pick_f (et (v := (Value.bool false)) rfl) (et (v := (Value.bool false)) rfl))) hS_327 ?_
      refine d_q rfl rfl wn (fun w' hS' => (x_pick_t (et (v := (Value.bool true)) rfl) (et (v := (Value.bool false)) rfl))) hS_327 ?_
      refine d_q rfl rfl wn (fun w' hS' => (x_move (et (v := (Value.bool false)) rfl))) hS_327 ?_
      refine d_pass rfl (wx rfl) hS_327 ?_
      refine d_pass rfl (wx rfl) hS_327 ?_
      refine d_pass rfl (wx rfl) hS_327 ?_
      refine d_pass rfl (wx rfl) hS_327 ?_
      refine d_pass rfl (wx rfl) hS_327 ?_
      refine d_pass rfl (wx rfl) hS_327 ?_
      refine d_q rfl rfl wn (fun w' hS' => (x_pick_f (et (v := (Value.bool false)) rfl) ec)) hS_327 ?_
      refine d_q rfl rfl wn (fun w' hS' => (x_move (et (v := (Value.bool false)) rfl))) hS_327 ?_
      refine d_pass rfl (wx rfl) hS_327 ?_
      refine d_pass rfl (wx rfl) hS_327 ?_
      refine d_pass rfl (wx rfl) hS_327 ?_
      refine d_pass rfl (wx rfl) hS_327 ?_
      refine d_pass rfl (wx rfl) hS_327 ?_
      refine d_pass rfl (wx rfl) hS_327 ?_
      refine d_pass rfl (wx rfl) hS_327 ?_
      refine d_passn rfl (wx rfl) hS_327 ?_
      refine d_q rfl rfl wn (fun w' hS' => (x_pick_f (et (v := (Value.bool false)) rfl) ec)) hS_327 ?_
      refine d_nil ?_
      refine w_if_f (et (v := (Value.bool false)) rfl) ?_
      refine w_skip ?_
      refine w_region ?_
      refine l_op wn (o_val (x_add (et (v := (Value.int .i64 (i : Int))) hs_282) ec (by omega)) ?_)
      refine l_op wn (o_val (x_move (et (v := (Value.int .i64 ((i : Int) + 1))) rfl)) ?_)
      refine l_nil ?_
      exact ⟨n - (i + 1), by omega, ⟨i + 1, hs_276, hs_277, hs_278, hs_279, hs_280, hs_281, vint (a := ((i : Int) + 1)) (by omega), hB_328, (by omega), (upto_succ hnh (fun y hy => by rw [hx_293] at hy; cases hy; rw [hits_iff]; rintro ⟨h1, h2, h3⟩; first | (rcases h1 with h1 | h1 <;> exact absurd h1 (by assumption)) | omega | exact absurd h3 (by assumption) | (have h4 := begins_iff.1 h3; first | omega | (have h5 := h4.2; rw [← ln_313.1] at h5; exact absurd h5 (by assumption)) | exact absurd h4.2 (by assumption)))), rfl⟩⟩
    refine d_q rfl rfl (wy rfl) (fun w' hS' => x_eql (r := true) (et (v := (Value.int .i64 i_305)) rfl) (et (v := (Value.int .i64 act)) rfl) (dec_t h_347)) hS_327 ?_
    refine d_q rfl rfl (wy rfl) (fun w' hS' => (x_pick_f (et (v := (Value.bool false)) rfl) (et (v := (Value.bool true)) rfl))) hS_327 ?_
    refine d_q rfl rfl wn (fun w' hS' => (x_pick_t (et (v := (Value.bool true)) rfl) (et (v := (Value.bool true)) rfl))) hS_327 ?_
    refine d_q rfl rfl wn (fun w' hS' => (x_move (et (v := (Value.bool true)) rfl))) hS_327 ?_
    refine d_q rfl rfl (wy rfl) (fun w' hS' => (x_field (k := 0) (j := 1) Try.underlying75 rfl Try.sizeOf29 rfl (et (v := (Value.pointer (some ⟨w_273.heap.size, 0, none⟩))) rfl))) hS_327 ?_
    refine d_q rfl rfl (wy rfl) (fun w' hS' => (x_load (v := (Value.slice A_300 n_301 c_302)) Try.isAgg29 (et (v := (Value.pointer (some ⟨w_273.heap.size, 1, none⟩))) rfl) (((bx_323.keep (hS' _ (by simp))).cell 1).trans rfl))) hS_327 ?_
    refine d_q rfl rfl (wy rfl) (fun w' hS' => (x_len Try.underlying29 (et (v := (Value.slice A_300 n_301 c_302)) rfl))) hS_327 ?_
    refine d_q rfl rfl (wy rfl) (fun w' hS' => (x_move (et (v := (Value.slice A'' n'' c'')) hs_278))) hS_327 ?_
    refine d_q rfl rfl (wy rfl) (fun w' hS' => (x_len Try.underlying29 (et (v := (Value.slice A'' n'' c'')) rfl))) hS_327 ?_
    by_cases h_348 : (n_301 : Int) ≤ (n'' : Int)
    rotate_left
    · refine d_q rfl rfl (wy rfl) (fun w' hS' => x_leq (r := false) (et (v := (Value.int .i64 (n_301 : Int))) rfl) (et (v := (Value.int .i64 (n'' : Int))) rfl) (dec_f h_348)) hS_327 ?_
      refine d_q rfl rfl wn (fun w' hS' => (x_pick_t (et (v := (Value.bool true)) rfl) (et (v := (Value.bool false)) rfl))) hS_327 ?_
      refine d_q rfl rfl wn (fun w' hS' => (x_move (et (v := (Value.bool false)) rfl))) hS_327 ?_
      refine d_pass rfl (wx rfl) hS_327 ?_
      refine d_pass rfl (wx rfl) hS_327 ?_
      refine d_pass rfl (wx rfl) hS_327 ?_
      refine d_pass rfl (wx rfl) hS_327 ?_
      refine d_pass rfl (wx rfl) hS_327 ?_
      refine d_pass rfl (wx rfl) hS_327 ?_
      refine d_pass rfl (wx rfl) hS_327 ?_
      refine d_passn rfl (wx rfl) hS_327 ?_
      refine d_q rfl rfl wn (fun w' hS' => (x_pick_f (et (v := (Value.bool false)) rfl) ec)) hS_327 ?_
      refine d_nil ?_
      refine w_if_f (et (v := (Value.bool false)) rfl) ?_
      refine w_skip ?_
      refine w_region ?_
      refine l_op wn (o_val (x_add (et (v := (Value.int .i64 (i : Int))) hs_282) ec (by omega)) ?_)
      refine l_op wn (o_val (x_move (et (v := (Value.int .i64 ((i : Int) + 1))) rfl)) ?_)
      refine l_nil ?_
      exact ⟨n - (i + 1), by omega, ⟨i + 1, hs_276, hs_277, hs_278, hs_279, hs_280, hs_281, vint (a := ((i : Int) + 1)) (by omega), hB_328, (by omega), (upto_succ hnh (fun y hy => by rw [hx_293] at hy; cases hy; rw [hits_iff]; rintro ⟨h1, h2, h3⟩; first | (rcases h1 with h1 | h1 <;> exact absurd h1 (by assumption)) | omega | exact absurd h3 (by assumption) | (have h4 := begins_iff.1 h3; first | omega | (have h5 := h4.2; rw [← ln_313.1] at h5; exact absurd h5 (by assumption)) | exact absurd h4.2 (by assumption)))), rfl⟩⟩
    refine d_q rfl rfl (wy rfl) (fun w' hS' => x_leq (r := true) (et (v := (Value.int .i64 (n_301 : Int))) rfl) (et (v := (Value.int .i64 (n'' : Int))) rfl) (dec_t h_348)) hS_327 ?_
    refine d_q rfl rfl wn (fun w' hS' => (x_pick_t (et (v := (Value.bool true)) rfl) (et (v := (Value.bool true)) rfl))) hS_327 ?_
    refine d_q rfl rfl wn (fun w' hS' => (x_move (et (v := (Value.bool true)) rfl))) hS_327 ?_
    refine d_q rfl rfl (wy rfl) (fun w' hS' => (x_field (k := 0) (j := 1) Try.underlying75 rfl Try.sizeOf29 rfl (et (v := (Value.pointer (some ⟨w_273.heap.size, 0, none⟩))) rfl))) hS_327 ?_
    refine d_q rfl rfl (wy rfl) (fun w' hS' => (x_load (v := (Value.slice A_300 n_301 c_302)) Try.isAgg29 (et (v := (Value.pointer (some ⟨w_273.heap.size, 1, none⟩))) rfl) (((bx_323.keep (hS' _ (by simp))).cell 1).trans rfl))) hS_327 ?_
    refine d_q rfl rfl (wy rfl) (fun w' hS' => (x_move (et (v := (Value.slice A'' n'' c'')) hs_278))) hS_327 ?_
    refine d_q rfl rfl (wy rfl) (fun w' hS' => (x_field (k := 0) (j := 1) Try.underlying75 rfl Try.sizeOf29 rfl (et (v := (Value.pointer (some ⟨w_273.heap.size, 0, none⟩))) rfl))) hS_327 ?_
    refine d_q rfl rfl (wy rfl) (fun w' hS' => (x_load (v := (Value.slice A_300 n_301 c_302)) Try.isAgg29 (et (v := (Value.pointer (some ⟨w_273.heap.size, 1, none⟩))) rfl) (((bx_323.keep (hS' _ (by simp))).cell 1).trans rfl))) hS_327 ?_
    refine d_q rfl rfl (wy rfl) (fun w' hS' => (x_len Try.underlying29 (et (v := (Value.slice A_300 n_301 c_302)) rfl))) hS_327 ?_
    obtain ⟨G_349, hr_350, hs_351⟩ := hr''.take n_301 (by omega)
    refine d_q rfl rfl (wy rfl) (fun w' hS' => (x_slice_hi (h := n_301) Try.underlying29 Try.sizeOf9 (et (v := (Value.slice A'' n'' c'')) rfl) (et (v := (Value.int .i64 (n_301 : Int))) rfl) (by omega) (by omega))) hS_327 ?_
    refine d_op rfl (wy rfl) (o_call (x_call Try.call49 ef (a2 (et (v := (Value.slice A_300 n_301 c_302)) rfl) (et (v := (Value.slice A'' n_301 c'')) rfl))) (equal_c w_320.drew xs_299 A_300 n_301 c_302 _ ok_311 (hr_312.below hB_328) (ns.take n_301) A'' n_301 c'' _ (ok''.take n_301) (hr_350.below hB_328)) ?_)
    rintro _ w_353 ⟨r_354, rfl, hr_355, k_356⟩
    refine ⟨_, rfl, ?_⟩
    have hB_358 := below_next hB_328 k_356 (by omega)
    have z_359 := k_356.size
    have bx_360 := bx_329.below k_356
    have hS_361 := hS_327.next k_356 (by simp; omega)
    refine ⟨hS_361, ?_⟩
    cases r_354
    · have h_357 : ¬ (xs_299 = (ns.take n_301)) := not_of_f hr_355
      refine d_q rfl rfl wn (fun w' hS' => (x_pick_t (et (v := (Value.bool true)) rfl) (et (v := (Value.bool false)) rfl))) hS_361 ?_
      refine d_nil ?_
      refine w_if_f (et (v := (Value.bool false)) rfl) ?_
      refine w_skip ?_
      refine w_region ?_
      refine l_op wn (o_val (x_add (et (v := (Value.int .i64 (i : Int))) hs_282) ec (by omega)) ?_)
      refine l_op wn (o_val (x_move (et (v := (Value.int .i64 ((i : Int) + 1))) rfl)) ?_)
      refine l_nil ?_
      exact ⟨n - (i + 1), by omega, ⟨i + 1, hs_276, hs_277, hs_278, hs_279, hs_280, hs_281, vint (a := ((i : Int) + 1)) (by omega), hB_358, (by omega), (upto_succ hnh (fun y hy => by rw [hx_293] at hy; cases hy; rw [hits_iff]; rintro ⟨h1, h2, h3⟩; first | (rcases h1 with h1 | h1 <;> exact absurd h1 (by assumption)) | omega | exact absurd h3 (by assumption) | (have h4 := begins_iff.1 h3; first | omega | (have h5 := h4.2; rw [← ln_313.1] at h5; exact absurd h5 (by assumption)) | exact absurd h4.2 (by assumption)))), rfl⟩⟩
    have h_357 : xs_299 = (ns.take n_301) := hr_355.1 rfl
    refine d_q rfl rfl wn (fun w' hS' => (x_pick_t (et (v := (Value.bool true)) rfl) (et (v := (Value.bool true)) rfl))) hS_361 ?_
    refine d_nil ?_
    refine w_if_t (et (v := (Value.bool true)) rfl) ?_
    refine w_seq ?_
    refine w_region ?_
    refine l_op wn (o_val (x_field (k := 0) (j := 3) Try.underlying75 rfl Try.sizeOf4 rfl (et (v := (Value.pointer (some ⟨w_273.heap.size, 0, none⟩))) rfl)) ?_)
    refine l_op wn (o_val (x_load (v := (Value.bool q_306)) Try.isAgg4 (et (v := (Value.pointer (some ⟨w_273.heap.size, 3, none⟩))) rfl) ((bx_360.cell 3).trans rfl)) ?_)
    refine l_op wn (o_val (x_assign (et (v := (Value.bool q_306)) rfl)) ?_)
    refine l_nil ?_
    refine w_ret ?_
    exact ⟨_, r_tmp (v := (Value.bool q_306)) Try.results17 rfl, _, rfl, may_hit hx_293 hnh (hits_iff.2 ⟨by first | exact .inl (by assumption) | exact .inr (by assumption), by omega, by first | assumption | exact begins_iff.2 ⟨by omega, by first | assumption | (rw [← ln_313.1]; assumption)⟩⟩), hB_358⟩
  refine d_q rfl rfl wn (fun w' hS' => x_seql (r := false) (et (v := (Value.string s_298)) rfl) ec (dec_f h_331)) hS_327 ?_
  refine d_q rfl rfl wn (fun w' hS' => (x_move (et (v := (Value.bool false)) rfl))) hS_327 ?_
  refine d_q rfl rfl (wy rfl) (fun w' hS' => (x_move (et (v := (Value.slice A' n' c')) hs_277))) hS_327 ?_
  refine d_q rfl rfl (wy rfl) (fun w' hS' => (x_field (k := 0) (j := 0) Try.underlying75 rfl Try.sizeOf9 rfl (et (v := (Value.pointer (some ⟨w_273.heap.size, 0, none⟩))) rfl))) hS_327 ?_
  refine d_q rfl rfl (wy rfl) (fun w' hS' => (x_load (v := (Value.string s_298)) Try.isAgg9 (et (v := (Value.pointer (some ⟨w_273.heap.size, 0, none⟩))) rfl) (((bx_323.keep (hS' _ (by simp))).cell 0).trans rfl))) hS_327 ?_
  refine d_op rfl (wy rfl) (o_call (x_call Try.call48 ef (a2 (et (v := (Value.slice A' n' c')) rfl) (et (v := (Value.string s_298)) rfl))) (contains_c w_320.drew gs A' n' c' _ ok' (hr'.below hB_328) s_298 bd_310) ?_)
  rintro _ w_362 ⟨r_363, rfl, hr_364, k_365⟩
  refine ⟨_, rfl, ?_⟩
  have hB_367 := below_next hB_328 k_365 (by omega)
  have z_368 := k_365.size
  have bx_369 := bx_329.below k_365
  have hS_370 := hS_327.next k_365 (by simp; omega)
  refine ⟨hS_370, ?_⟩
  cases r_363
  · have h_366 : ¬ (V.str s_298 ∈ gs) := not_of_f hr_364
    refine d_q rfl rfl wn (fun w' hS' => (x_pick_f (et (v := (Value.bool false)) rfl) (et (v := (Value.bool false)) rfl))) hS_370 ?_
    refine d_q rfl rfl wn (fun w' hS' => (x_move (et (v := (Value.bool false)) rfl))) hS_370 ?_
    refine d_pass rfl (wx rfl) hS_370 ?_
    refine d_pass rfl (wx rfl) hS_370 ?_
    refine d_pass rfl (wx rfl) hS_370 ?_
    refine d_pass rfl (wx rfl) hS_370 ?_
    refine d_pass rfl (wu rfl) hS_370 ?_
    refine d_pass rfl (wu rfl) hS_370 ?_
    refine d_pass rfl (wu rfl) hS_370 ?_
    refine d_pass rfl (wu rfl) hS_370 ?_
    refine d_pass rfl (wx rfl) hS_370 ?_
    refine d_q rfl rfl wn (fun w' hS' => (x_pick_f (et (v := (Value.bool false)) rfl) ec)) hS_370 ?_
    refine d_q rfl rfl wn (fun w' hS' => (x_move (et (v := (Value.bool false)) rfl))) hS_370 ?_
    refine d_pass rfl (wx rfl) hS_370 ?_
    refine d_pass rfl (wx rfl) hS_370 ?_
    refine d_pass rfl (wx rfl) hS_370 ?_
    refine d_pass rfl (wx rfl) hS_370 ?_
    refine d_pass rfl (wx rfl) hS_370 ?_
    refine d_pass rfl (wx rfl) hS_370 ?_
    refine d_q rfl rfl wn (fun w' hS' => (x_pick_f (et (v := (Value.bool false)) rfl) ec)) hS_370 ?_
    refine d_q rfl rfl wn (fun w' hS' => (x_move (et (v := (Value.bool false)) rfl))) hS_370 ?_
    refine d_pass rfl (wx rfl) hS_370 ?_
    refine d_pass rfl (wx rfl) hS_370 ?_
    refine d_pass rfl (wx rfl) hS_370 ?_
    refine d_pass rfl (wx rfl) hS_370 ?_
    refine d_pass rfl (wx rfl) hS_370 ?_
    refine d_pass rfl (wx rfl) hS_370 ?_
    refine d_pass rfl (wx rfl) hS_370 ?_
    refine d_passn rfl (wx rfl) hS_370 ?_
    refine d_q rfl rfl wn (fun w' hS' => (x_pick_f (et (v := (Value.bool false)) rfl) ec)) hS_370 ?_
    refine d_nil ?_
    refine w_if_f (et (v := (Value.bool false)) rfl) ?_
    refine w_skip ?_
    refine w_region ?_
    refine l_op wn (o_val (x_add (et (v := (Value.int .i64 (i : Int))) hs_282) ec (by omega)) ?_)
    refine l_op wn (o_val (x_move (et (v := (Value.int .i64 ((i : Int) + 1))) rfl)) ?_)
    refine l_nil ?_
    exact ⟨n - (i + 1), by omega, ⟨i + 1, hs_276, hs_277, hs_278, hs_279, hs_280, hs_281, vint (a := ((i : Int) + 1)) (by omega), hB_367, (by omega), (upto_succ hnh (fun y hy => by rw [hx_293] at hy; cases hy; rw [hits_iff]; rintro ⟨h1, h2, h3⟩; first | (rcases h1 with h1 | h1 <;> exact absurd h1 (by assumption)) | omega | exact absurd h3 (by assumption) | (have h4 := begins_iff.1 h3; first | omega | (have h5 := h4.2; rw [← ln_313.1] at h5; exact absurd h5 (by assumption)) | exact absurd h4.2 (by assumption)))), rfl⟩⟩
  have h_366 : V.str s_298 ∈ gs := hr_364.1 rfl
  refine d_q rfl rfl wn (fun w' hS' => (x_pick_f (et (v := (Value.bool false)) rfl) (et (v := (Value.bool true)) rfl))) hS_370 ?_
  refine d_q rfl rfl wn (fun w' hS' => (x_move (et (v := (Value.bool true)) rfl))) hS_370 ?_
  refine d_q rfl rfl (wy rfl) (fun w' hS' => (x_field (k := 0) (j := 2) Try.underlying75 rfl Try.sizeOf3 rfl (et (v := (Value.pointer (some ⟨w_273.heap.size, 0, none⟩))) rfl))) hS_370 ?_
  refine d_q rfl rfl (wy rfl) (fun w' hS' => (x_load (v := (Value.int .i64 i_305)) Try.isAgg3 (et (v := (Value.pointer (some ⟨w_273.heap.size, 2, none⟩))) rfl) (((bx_323.keep (hS' _ (by simp))).cell 2).trans rfl))) hS_370 ?_
  by_cases h_371 : i_305 = 0
  · refine d_q rfl rfl (wy rfl) (fun w' hS' => x_eql (r := true) (et (v := (Value.int .i64 i_305)) rfl) ec (dec_t h_371)) hS_370 ?_
    refine d_q rfl rfl (wy rfl) (fun w' hS' => (x_move (et (v := (Value.bool true)) rfl))) hS_370 ?_
    refine d_pass rfl (wx rfl) hS_370 ?_
    refine d_pass rfl (wx rfl) hS_370 ?_
    refine d_pass rfl (wx rfl) hS_370 ?_
    refine d_pass rfl (wx rfl) hS_370 ?_
    refine d_q rfl rfl (wy rfl) (fun w' hS' => (x_pick_t (et (v := (Value.bool true)) rfl) ec)) hS_370 ?_
    refine d_q rfl rfl wn (fun w' hS' => (x_pick_t (et (v := (Value.bool true)) rfl) (et (v := (Value.bool true)) rfl))) hS_370 ?_
    refine d_q rfl rfl wn (fun w' hS' => (x_move (et (v := (Value.bool true)) rfl))) hS_370 ?_
    refine d_q rfl rfl (wy rfl) (fun w' hS' => (x_field (k := 0) (j := 1) Try.underlying75 rfl Try.sizeOf29 rfl (et (v := (Value.pointer (some ⟨w_273.heap.size, 0, none⟩))) rfl))) hS_370 ?_
    refine d_q rfl rfl (wy rfl) (fun w' hS' => (x_load (v := (Value.slice A_300 n_301 c_302)) Try.isAgg29 (et (v := (Value.pointer (some ⟨w_273.heap.size, 1, none⟩))) rfl) (((bx_323.keep (hS' _ (by simp))).cell 1).trans rfl))) hS_370 ?_
    refine d_q rfl rfl (wy rfl) (fun w' hS' => (x_len Try.underlying29 (et (v := (Value.slice A_300 n_301 c_302)) rfl))) hS_370 ?_
    refine d_q rfl rfl (wy rfl) (fun w' hS' => (x_move (et (v := (Value.slice A'' n'' c'')) hs_278))) hS_370 ?_
    refine d_q rfl rfl (wy rfl) (fun w' hS' => (x_len Try.underlying29 (et (v := (Value.slice A'' n'' c'')) rfl))) hS_370 ?_
    by_cases h_372 : (n_301 : Int) ≤ (n'' : Int)
    rotate_left
    · refine d_q rfl rfl (wy rfl) (fun w' hS' => x_leq (r := false) (et (v := (Value.int .i64 (n_301 : Int))) rfl) (et (v := (Value.int .i64 (n'' : Int))) rfl) (dec_f h_372)) hS_370 ?_
      refine d_q rfl rfl wn (fun w' hS' => (x_pick_t (et (v := (Value.bool true)) rfl) (et (v := (Value.bool false)) rfl))) hS_370 ?_
      refine d_q rfl rfl wn (fun w' hS' => (x_move (et (v := (Value.bool false)) rfl))) hS_370 ?_
      refine d_pass rfl (wx rfl) hS_370 ?_
      refine d_pass rfl (wx rfl) hS_370 ?_
      refine d_pass rfl (wx rfl) hS_370 ?_
      refine d_pass rfl (wx rfl) hS_370 ?_
      refine d_pass rfl (wx rfl) hS_370 ?_
      refine d_pass rfl (wx rfl) hS_370 ?_
      refine d_pass rfl (wx rfl) hS_370 ?_
      refine d_passn rfl (wx rfl) hS_370 ?_
      refine d_q rfl rfl wn (fun w' hS' => (x_pick_f (et (v := (Value.bool false)) rfl) ec)) hS_370 ?_
      refine d_nil ?_
      refine w_if_f (et (v := (Value.bool false)) rfl) ?_
      refine w_skip ?_
      refine w_region ?_
      refine l_op wn (o_val (x_add (et (v := (Value.int .i64 (i : Int))) hs_282) ec (by omega)) ?_)
      refine l_op wn (o_val (x_move (et (v := (Value.int .i64 ((i : Int) + 1))) rfl)) ?_)
      refine l_nil ?_
      exact ⟨n - (i + 1), by omega, ⟨i + 1, hs_276, hs_277, hs_278, hs_279, hs_280, hs_281, vint (a := ((i : Int) + 1)) (by omega), hB_367, (by omega), (upto_succ hnh (fun y hy => by rw [hx_293] at hy; cases hy; rw [hits_iff]; rintro ⟨h1, h2, h3⟩; first | (rcases h1 with h1 | h1 <;> exact absurd h1 (by assumption)) | omega | exact absurd h3 (by assumption) | (have h4 := begins_iff.1 h3; first | omega | (have h5 := h4.2; rw [← ln_313.1] at h5; exact absurd h5 (by assumption)) | exact absurd h4.2 (by assumption)))), rfl⟩⟩
    refine d_q rfl rfl (wy rfl) (fun w' hS' => x_leq (r := true) (et (v := (Value.int .i64 (n_301 : Int))) rfl) (et (v := (Value.int .i64 (n'' : Int))) rfl) (dec_t h_372)) hS_370 ?_
    refine d_q rfl rfl wn (fun w' hS' => (x_pick_t (et (v := (Value.bool true)) rfl) (et (v := (Value.bool true)) rfl))) hS_370 ?_
    refine d_q rfl rfl wn (fun w' hS' => (x_move (et (v := (Value.bool true)) rfl))) hS_370 ?_
    refine d_q rfl rfl (wy rfl) (fun w' hS' => (x_field (k := 0) (j := 1) Try.underlying75 rfl Try.sizeOf29 rfl (et (v := (Value.pointer (some ⟨w_273.heap.size, 0, none⟩))) rfl))) hS_370 ?_
    refine d_q rfl rfl (wy rfl) (fun w' hS' => (x_load (v := (Value.slice A_300 n_301 c_302)) Try.isAgg29 (et (v := (Value.pointer (some ⟨w_273.heap.size, 1, none⟩))) rfl) (((bx_323.keep (hS' _ (by simp))).cell 1).trans rfl))) hS_370 ?_
    refine d_q rfl rfl (wy rfl) (fun w' hS' => (x_move (et (v := (Value.slice A'' n'' c'')) hs_278))) hS_370 ?_
    refine d_q rfl rfl (wy rfl) (fun w' hS' => (x_field (k := 0) (j := 1) Try.underlying75 rfl Try.sizeOf29 rfl (et (v := (Value.pointer (some ⟨w_273.heap.size, 0, none⟩))) rfl))) hS_370 ?_
    refine d_q rfl rfl (wy rfl) (fun w' hS' => (x_load (v := (Value.slice A_300 n_301 c_302)) Try.isAgg29 (et (v := (Value.pointer (some ⟨w_273.heap.size, 1, none⟩))) rfl) (((bx_323.keep (hS' _ (by simp))).cell 1).trans rfl))) hS_370 ?_
    refine d_q rfl rfl (wy rfl) (fun w' hS' => (x_len Try.underlying29 (et (v := (Value.slice A_300 n_301 c_302)) rfl))) hS_370 ?_
    obtain ⟨G_373, hr_374, hs_375⟩ := hr''.take n_301 (by omega)
    refine d_q rfl rfl (wy rfl) (fun w' hS' => (x_slice_hi (h := n_301) Try.underlying29 Try.sizeOf9 (et (v := (Value.slice A'' n'' c'')) rfl) (et (v := (Value.int .i64 (n_301 : Int))) rfl) (by omega) (by omega))) hS_370 ?_
    refine d_op rfl (wy rfl) (o_call (x_call Try.call49 ef (a2 (et (v := (Value.slice A_300 n_301 c_302)) rfl) (et (v := (Value.slice A'' n_301 c'')) rfl))) (equal_c w_362 xs_299 A_300 n_301 c_302 _ ok_311 (hr_312.below hB_367) (ns.take n_301) A'' n_301 c'' _ (ok''.take n_301) (hr_374.below hB_367)) ?_)
    rintro _ w_377 ⟨r_378, rfl, hr_379, k_380⟩
    refine ⟨_, rfl, ?_⟩
    have hB_382 := below_next hB_367 k_380 (by omega)
    have z_383 := k_380.size
    have bx_384 := bx_369.below k_380
    have hS_385 := hS_370.next k_380 (by simp; omega)
    refine ⟨hS_385, ?_⟩
    cases r_378
    · have h_381 : ¬ (xs_299 = (ns.take n_301)) := not_of_f hr_379
      refine d_q rfl rfl wn (fun w' hS' => (x_pick_t (et (v := (Value.bool true)) rfl) (et (v := (Value.bool false)) rfl))) hS_385 ?_
      refine d_nil ?_
      refine w_if_f (et (v := (Value.bool false)) rfl) ?_
      refine w_skip ?_
      refine w_region ?_
      refine l_op wn (o_val (x_add (et (v := (Value.int .i64 (i : Int))) hs_282) ec (by omega)) ?_)
      refine l_op wn (o_val (x_move (et (v := (Value.int .i64 ((i : Int) + 1))) rfl)) ?_)
      refine l_nil ?_
      exact ⟨n - (i + 1), by omega, ⟨i + 1, hs_276, hs_277, hs_278, hs_279, hs_280, hs_281, vint (a := ((i : Int) + 1)) (by omega), hB_382, (by omega), (upto_succ hnh (fun y hy => by rw [hx_293] at hy; cases hy; rw [hits_iff]; rintro ⟨h1, h2, h3⟩; first | (rcases h1 with h1 | h1 <;> exact absurd h1 (by assumption)) | omega | exact absurd h3 (by assumption) | (have h4 := begins_iff.1 h3; first | omega | (have h5 := h4.2; rw [← ln_313.1] at h5; exact absurd h5 (by assumption)) | exact absurd h4.2 (by assumption)))), rfl⟩⟩
    have h_381 : xs_299 = (ns.take n_301) := hr_379.1 rfl
    refine d_q rfl rfl wn (fun w' hS' => (x_pick_t (et (v := (Value.bool true)) rfl) (et (v := (Value.bool true)) rfl))) hS_385 ?_
    refine d_nil ?_
    refine w_if_t (et (v := (Value.bool true)) rfl) ?_
    refine w_seq ?_
    refine w_region ?_
    refine l_op wn (o_val (x_field (k := 0) (j := 3) Try.underlying75 rfl Try.sizeOf4 rfl (et (v := (Value.pointer (some ⟨w_273.heap.size, 0, none⟩))) rfl)) ?_)
    refine l_op wn (o_val (x_load (v := (Value.bool q_306)) Try.isAgg4 (et (v := (Value.pointer (some ⟨w_273.heap.size, 3, none⟩))) rfl) ((bx_384.cell 3).trans rfl)) ?_)
    refine l_op wn (o_val (x_assign (et (v := (Value.bool q_306)) rfl)) ?_)
    refine l_nil ?_
    refine w_ret ?_
    exact ⟨_, r_tmp (v := (Value.bool q_306)) Try.results17 rfl, _, rfl, may_hit hx_293 hnh (hits_iff.2 ⟨by first | exact .inl (by assumption) | exact .inr (by assumption), by omega, by first | assumption | exact begins_iff.2 ⟨by omega, by first | assumption | (rw [← ln_313.1]; assumption)⟩⟩), hB_382⟩
  refine d_q rfl rfl (wy rfl) (fun w' hS' => x_eql (r := false) (et (v := (Value.int .i64 i_305)) rfl) ec (dec_f h_371)) hS_370 ?_
  refine d_q rfl rfl (wy rfl) (fun w' hS' => (x_move (et (v := (Value.bool false)) rfl))) hS_370 ?_
  refine d_q rfl rfl (wy rfl) (fun w' hS' => (x_field (k := 0) (j := 2) Try.underlying75 rfl Try.sizeOf3 rfl (et (v := (Value.pointer (some ⟨w_273.heap.size, 0, none⟩))) rfl))) hS_370 ?_
  refine d_q rfl rfl (wy rfl) (fun w' hS' => (x_load (v := (Value.int .i64 i_305)) Try.isAgg3 (et (v := (Value.pointer (some ⟨w_273.heap.size, 2, none⟩))) rfl) (((bx_323.keep (hS' _ (by simp))).cell 2).trans rfl))) hS_370 ?_
  refine d_q rfl rfl (wy rfl) (fun w' hS' => (x_move (et (v := (Value.int .i64 act)) hs_279))) hS_370 ?_
  by_cases h_386 : i_305 = act
  rotate_left
  · refine d_q rfl rfl (wy rfl) (fun w' hS' => x_eql (r := false) (et (v := (Value.int .i64 i_305)) rfl) (et (v := (Value.int .i64 act)) rfl) (dec_f h_386)) hS_370 ?_
    refine d_q rfl rfl (wy rfl) (fun w' hS' => (x_pick_f (et (v := (Value.bool false)) rfl) (et (v := (Value.bool false)) rfl))) hS_370 ?_
    refine d_q rfl rfl wn (fun w' hS' => (x_pick_t (et (v := (Value.bool true)) rfl) (et (v := (Value.bool false)) rfl))) hS_370 ?_
    refine d_q rfl rfl wn (fun w' hS' => (x_move (et (v := (Value.bool false)) rfl))) hS_370 ?_
    refine d_pass rfl (wx rfl) hS_370 ?_
    refine d_pass rfl (wx rfl) hS_370 ?_
    refine d_pass rfl (wx rfl) hS_370 ?_
    refine d_pass rfl (wx rfl) hS_370 ?_
    refine d_pass rfl (wx rfl) hS_370 ?_
    refine d_pass rfl (wx rfl) hS_370 ?_
    refine d_q rfl rfl wn (fun w' hS' => (x_pick_f (et (v := (Value.bool false)) rfl) ec)) hS_370 ?_
    refine d_q rfl rfl wn (fun w' hS' => (x_move (et (v := (Value.bool false)) rfl))) hS_370 ?_
    refine d_pass rfl (wx rfl) hS_370 ?_
    refine d_pass rfl (wx rfl) hS_370 ?_
    refine d_pass rfl (wx rfl) hS_370 ?_
    refine d_pass rfl (wx rfl) hS_370 ?_
    refine d_pass rfl (wx rfl) hS_370 ?_
    refine d_pass rfl (wx rfl) hS_370 ?_
    refine d_pass rfl (wx rfl) hS_370 ?_
    refine d_passn rfl (wx rfl) hS_370 ?_
    refine d_q rfl rfl wn (fun w' hS' => (x_pick_f (et (v := (Value.bool false)) rfl) ec)) hS_370 ?_
    refine d_nil ?_
    refine w_if_f (et (v := (Value.bool false)) rfl) ?_
    refine w_skip ?_
    refine w_region ?_
    refine l_op wn (o_val (x_add (et (v := (Value.int .i64 (i : Int))) hs_282) ec (by omega)) ?_)
    refine l_op wn (o_val (x_move (et (v := (Value.int .i64 ((i : Int) + 1))) rfl)) ?_)
    refine l_nil ?_
    exact ⟨n - (i + 1), by omega, ⟨i + 1, hs_276, hs_277, hs_278, hs_279, hs_280, hs_281, vint (a := ((i : Int) + 1)) (by omega), hB_367, (by omega), (upto_succ hnh (fun y hy => by rw [hx_293] at hy; cases hy; rw [hits_iff]; rintro ⟨h1, h2, h3⟩; first | (rcases h1 with h1 | h1 <;> exact absurd h1 (by assumption)) | omega | exact absurd h3 (by assumption) | (have h4 := begins_iff.1 h3; first | omega | (have h5 := h4.2; rw [← ln_313.1] at h5; exact absurd h5 (by assumption)) | exact absurd h4.2 (by assumption)))), rfl⟩⟩
  refine d_q rfl rfl (wy rfl) (fun w' hS' => x_eql (r := true) (et (v := (Value.int .i64 i_305)) rfl) (et (v := (Value.int .i64 act)) rfl) (dec_t h_386)) hS_370 ?_
  refine d_q rfl rfl (wy rfl) (fun w' hS' => (x_pick_f (et (v := (Value.bool false)) rfl) (et (v := (Value.bool true)) rfl))) hS_370 ?_
  refine d_q rfl rfl wn (fun w' hS' => (x_pick_t (et (v := (Value.bool true)) rfl) (et (v := (Value.bool true)) rfl))) hS_370 ?_
  refine d_q rfl rfl wn (fun w' hS' => (x_move (et (v := (Value.bool true)) rfl))) hS_370 ?_
  refine d_q rfl rfl (wy rfl) (fun w' hS' => (x_field (k := 0) (j := 1) Try.underlying75 rfl Try.sizeOf29 rfl (et (v := (Value.pointer (some ⟨w_273.heap.size, 0, none⟩))) rfl))) hS_370 ?_
  refine d_q rfl rfl (wy rfl) (fun w' hS' => (x_load (v := (Value.slice A_300 n_301 c_302)) Try.isAgg29 (et (v := (Value.pointer (some ⟨w_273.heap.size, 1, none⟩))) rfl) (((bx_323.keep (hS' _ (by simp))).cell 1).trans rfl))) hS_370 ?_
  refine d_q rfl rfl (wy rfl) (fun w' hS' => (x_len Try.underlying29 (et (v := (Value.slice A_300 n_301 c_302)) rfl))) hS_370 ?_
  refine d_q rfl rfl (wy rfl) (fun w' hS' => (x_move (et (v := (Value.slice A'' n'' c'')) hs_278))) hS_370 ?_
  refine d_q rfl rfl (wy rfl) (fun w' hS' => (x_len Try.underlying29 (et (v := (Value.slice A'' n'' c'')) rfl))) hS_370 ?_
  by_cases h_387 : (n_301 : Int) ≤ (n'' : Int)
  rotate_left
  · refine d_q rfl rfl (wy rfl) (fun w' hS' => x_leq (r := false) (et (v := (Value.int .i64 (n_301 : Int))) rfl) (et (v := (Value.int .i64 (n'' : Int))) rfl) (dec_f h_387)) hS_370 ?_
    refine d_q rfl rfl wn (fun w' hS' => (x_pick_t (et (v := (Value.bool true)) rfl) (et (v := (Value.bool false)) rfl))) hS_370 ?_
    refine d_q rfl rfl wn (fun w' hS' => (x_move (et (v := (Value.bool false)) rfl))) hS_370 ?_
    refine d_pass rfl (wx rfl) hS_370 ?_
    refine d_pass rfl (wx rfl) hS_370 ?_
    refine d_pass rfl (wx rfl) hS_370 ?_
    refine d_pass rfl (wx rfl) hS_370 ?_
    refine d_pass rfl (wx rfl) hS_370 ?_
    refine d_pass rfl (wx rfl) hS_370 ?_
    refine d_pass rfl (wx rfl) hS_370 ?_
    refine d_passn rfl (wx rfl) hS_370 ?_
    refine d_q rfl rfl wn (fun w' hS' => (x_pick_f (et (v := (Value.bool false)) rfl) ec)) hS_370 ?_
    refine d_nil ?_
    refine w_if_f (et (v := (Value.bool false)) rfl) ?_
    refine w_skip ?_
    refine w_region ?_
    refine l_op wn (o_val (x_add (et (v := (Value.int .i64 (i : Int))) hs_282) ec (by omega)) ?_)
    refine l_op wn (o_val (x_move (et (v := (Value.int .i64 ((i : Int) + 1))) rfl)) ?_)
    refine l_nil ?_
    exact ⟨n - (i + 1), by omega, ⟨i + 1, hs_276, hs_277, hs_278, hs_279, hs_280, hs_281, vint (a := ((i : Int) + 1)) (by omega), hB_367, (by omega), (upto_succ hnh (fun y hy => by rw [hx_293] at hy; cases hy; rw [hits_iff]; rintro ⟨h1, h2, h3⟩; first | (rcases h1 with h1 | h1 <;> exact absurd h1 (by assumption)) | omega | exact absurd h3 (by assumption) | (have h4 := begins_iff.1 h3; first | omega | (have h5 := h4.2; rw [← ln_313.1] at h5; exact absurd h5 (by assumption)) | exact absurd h4.2 (by assumption)))), rfl⟩⟩
  refine d_q rfl rfl (wy rfl) (fun w' hS' => x_leq (r := true) (et (v := (Value.int .i64 (n_301 : Int))) rfl) (et (v := (Value.int .i64 (n'' : Int))) rfl) (dec_t h_387)) hS_370 ?_
  refine d_q rfl rfl wn (fun w' hS' => (x_pick_t (et (v := (Value.bool true)) rfl) (et (v := (Value.bool true)) rfl))) hS_370 ?_
  refine d_q rfl rfl wn (fun w' hS' => (x_move (et (v := (Value.bool true)) rfl))) hS_370 ?_
  refine d_q rfl rfl (wy rfl) (fun w' hS' => (x_field (k := 0) (j := 1) Try.underlying75 rfl Try.sizeOf29 rfl (et (v := (Value.pointer (some ⟨w_273.heap.size, 0, none⟩))) rfl))) hS_370 ?_
  refine d_q rfl rfl (wy rfl) (fun w' hS' => (x_load (v := (Value.slice A_300 n_301 c_302)) Try.isAgg29 (et (v := (Value.pointer (some ⟨w_273.heap.size, 1, none⟩))) rfl) (((bx_323.keep (hS' _ (by simp))).cell 1).trans rfl))) hS_370 ?_
  refine d_q rfl rfl (wy rfl) (fun w' hS' => (x_move (et (v := (Value.slice A'' n'' c'')) hs_278))) hS_370 ?_
  refine d_q rfl rfl (wy rfl) (fun w' hS' => (x_field (k := 0) (j := 1) Try.underlying75 rfl Try.sizeOf29 rfl (et (v := (Value.pointer (some ⟨w_273.heap.size, 0, none⟩))) rfl))) hS_370 ?_
  refine d_q rfl rfl (wy rfl) (fun w' hS' => (x_load (v := (Value.slice A_300 n_301 c_302)) Try.isAgg29 (et (v := (Value.pointer (some ⟨w_273.heap.size, 1, none⟩))) rfl) (((bx_323.keep (hS' _ (by simp))).cell 1).trans rfl))) hS_370 ?_
  refine d_q rfl rfl (wy rfl) (fun w' hS' => (x_len Try.underlying29 (et (v := (Value.slice A_300 n_301 c_302)) rfl))) hS_370 ?_
  obtain ⟨G_388, hr_389, hs_390⟩ := hr''.take n_301 (by omega)
  refine d_q rfl rfl (wy rfl) (fun w' hS' => (x_slice_hi (h := n_301) Try.underlying29 Try.sizeOf9 (et (v := (Value.slice A'' n'' c'')) rfl) (et (v := (Value.int .i64 (n_301 : Int))) rfl) (by omega) (by omega))) hS_370 ?_
  refine d_op rfl (wy rfl) (o_call (x_call Try.call49 ef (a2 (et (v := (Value.slice A_300 n_301 c_302)) rfl) (et (v := (Value.slice A'' n_301 c'')) rfl))) (equal_c w_362 xs_299 A_300 n_301 c_302 _ ok_311 (hr_312.below hB_367) (ns.take n_301) A'' n_301 c'' _ (ok''.take n_301) (hr_389.below hB_367)) ?_)
  rintro _ w_392 ⟨r_393, rfl, hr_394, k_395⟩
  refine ⟨_, rfl, ?_⟩
  have hB_397 := below_next hB_367 k_395 (by omega)
  have z_398 := k_395.size
  have bx_399 := bx_369.below k_395
  have hS_400 := hS_370.next k_395 (by simp; omega)
  refine ⟨hS_400, ?_⟩
  cases r_393
  · have h_396 : ¬ (xs_299 = (ns.take n_301)) := not_of_f hr_394
    refine d_q rfl rfl wn (fun w' hS' => (x_pick_t (et (v := (Value.bool true)) rfl) (et (v := (Value.bool false)) rfl))) hS_400 ?_
    refine d_nil ?_
    refine w_if_f (et (v := (Value.bool false)) rfl) ?_
    refine w_skip ?_
    refine w_region ?_
    refine l_op wn (o_val (x_add (et (v := (Value.int .i64 (i : Int))) hs_282) ec (by omega)) ?_)
    refine l_op wn (o_val (x_move (et (v := (Value.int .i64 ((i : Int) + 1))) rfl)) ?_)
    refine l_nil ?_
    exact ⟨n - (i + 1), by omega, ⟨i + 1, hs_276, hs_277, hs_278, hs_279, hs_280, hs_281, vint (a := ((i : Int) + 1)) (by omega), hB_397, (by omega), (upto_succ hnh (fun y hy => by rw [hx_293] at hy; cases hy; rw [hits_iff]; rintro ⟨h1, h2, h3⟩; first | (rcases h1 with h1 | h1 <;> exact absurd h1 (by assumption)) | omega | exact absurd h3 (by assumption) | (have h4 := begins_iff.1 h3; first | omega | (have h5 := h4.2; rw [← ln_313.1] at h5; exact absurd h5 (by assumption)) | exact absurd h4.2 (by assumption)))), rfl⟩⟩
  have h_396 : xs_299 = (ns.take n_301) := hr_394.1 rfl
  refine d_q rfl rfl wn (fun w' hS' => (x_pick_t (et (v := (Value.bool true)) rfl) (et (v := (Value.bool true)) rfl))) hS_400 ?_
  refine d_nil ?_
  refine w_if_t (et (v := (Value.bool true)) rfl) ?_
  refine w_seq ?_
  refine w_region ?_
  refine l_op wn (o_val (x_field (k := 0) (j := 3) Try.underlying75 rfl Try.sizeOf4 rfl (et (v := (Value.pointer (some ⟨w_273.heap.size, 0, none⟩))) rfl)) ?_)
  refine l_op wn (o_val (x_load (v := (Value.bool q_306)) Try.isAgg4 (et (v := (Value.pointer (some ⟨w_273.heap.size, 3, none⟩))) rfl) ((bx_399.cell 3).trans rfl)) ?_)
  refine l_op wn (o_val (x_assign (et (v := (Value.bool q_306)) rfl)) ?_)
  refine l_nil ?_
  refine w_ret ?_
  exact ⟨_, r_tmp (v := (Value.bool q_306)) Try.results17 rfl, _, rfl, may_hit hx_293 hnh (hits_iff.2 ⟨by first | exact .inl (by assumption) | exact .inr (by assumption), by omega, by first | assumption | exact begins_iff.2 ⟨by omega, by first | assumption | (rw [← ln_313.1]; assumption)⟩⟩), hB_397⟩


end Go.Proofs.Ytilohpakglpdcaa
