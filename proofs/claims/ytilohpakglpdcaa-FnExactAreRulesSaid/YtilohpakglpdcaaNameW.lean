/-
  Names, in the program and in the reference. Printed by a program of our own.
-/
import Derived.Test.YtilohpakglpdcaaPlain
import Derived.Test.YtilohpakglpdcaaProg
namespace Go.Proofs.Ytilohpakglpdcaa
open Go.RowKit
set_option linter.unusedVariables false
set_option maxRecDepth 100000

set_option maxHeartbeats 400000 in
theorem l1In_c (w : World) (a lo hi : Int) : Calls Try.prog 41 #[.int .i64 a, .int .i64 lo, .int .i64 hi] w (RetB w (lo ≤ a ∧ a ≤ hi)) := by
  have hB0 := Below.refl w.heap.size w
  refine enter (N := 15) Try.func41 rfl Try.ntmps41 rfl ?_
  refine w_seq ?_
  refine w_region ?_
  refine l_op wn (o_val (x_assign ec) ?_)
  refine l_nil ?_
  refine w_seq ?_
  refine w_region ?_
  refine l_op wn (o_val (x_move (et (v := (Value.int .i64 a)) rfl)) ?_)
  refine l_op wn (o_val (x_move (et (v := (Value.int .i64 lo)) rfl)) ?_)
  by_cases h_1 : lo ≤ a
  rotate_left
  · refine l_op wn (o_val (x_geq (r := false) (et (v := (Value.int .i64 a)) rfl) (et (v := (Value.int .i64 lo)) rfl) (dec_f h_1)) ?_)
    refine l_op wn (o_val (x_move (et (v := (Value.bool false)) rfl)) ?_)
    refine l_pass (wx rfl) ?_
    refine l_pass (wx rfl) ?_
    refine l_pass (wx rfl) ?_
    refine l_op wn (o_val (x_pick_f (et (v := (Value.bool false)) rfl) ec) ?_)
    refine l_op wn (o_val (x_assign (et (v := (Value.bool false)) rfl)) ?_)
    refine l_nil ?_
    refine w_ret ?_
    exact ⟨_, r_tmp (v := (Value.bool false)) Try.results41 rfl, _, rfl, iff_f (by omega), hB0⟩
  refine l_op wn (o_val (x_geq (r := true) (et (v := (Value.int .i64 a)) rfl) (et (v := (Value.int .i64 lo)) rfl) (dec_t h_1)) ?_)
  refine l_op wn (o_val (x_move (et (v := (Value.bool true)) rfl)) ?_)
  refine l_op (wy rfl) (o_val (x_move (et (v := (Value.int .i64 a)) rfl)) ?_)
  refine l_op (wy rfl) (o_val (x_move (et (v := (Value.int .i64 hi)) rfl)) ?_)
  by_cases h_2 : a ≤ hi
  rotate_left
  · refine l_op (wy rfl) (o_val (x_leq (r := false) (et (v := (Value.int .i64 a)) rfl) (et (v := (Value.int .i64 hi)) rfl) (dec_f h_2)) ?_)
    refine l_op wn (o_val (x_pick_t (et (v := (Value.bool true)) rfl) (et (v := (Value.bool false)) rfl)) ?_)
    refine l_op wn (o_val (x_assign (et (v := (Value.bool false)) rfl)) ?_)
    refine l_nil ?_
    refine w_ret ?_
    exact ⟨_, r_tmp (v := (Value.bool false)) Try.results41 rfl, _, rfl, iff_f (by omega), hB0⟩
  refine l_op (wy rfl) (o_val (x_leq (r := true) (et (v := (Value.int .i64 a)) rfl) (et (v := (Value.int .i64 hi)) rfl) (dec_t h_2)) ?_)
  refine l_op wn (o_val (x_pick_t (et (v := (Value.bool true)) rfl) (et (v := (Value.bool true)) rfl)) ?_)
  refine l_op wn (o_val (x_assign (et (v := (Value.bool true)) rfl)) ?_)
  refine l_nil ?_
  refine w_ret ?_
  exact ⟨_, r_tmp (v := (Value.bool true)) Try.results41 rfl, _, rfl, iff_t (by omega), hB0⟩

set_option maxHeartbeats 400000 in
theorem isLower_c (w : World) (a : Int) : Calls Try.prog 75 #[.int .u8 a] w (RetB w (97 ≤ a ∧ a ≤ 122)) := by
  have hB0 := Below.refl w.heap.size w
  refine enter (N := 9) Try.func75 rfl Try.ntmps75 rfl ?_
  refine w_seq ?_
  refine w_region ?_
  refine l_op wn (o_val (x_assign ec) ?_)
  refine l_nil ?_
  refine w_seq ?_
  refine w_region ?_
  refine l_op wn (o_val (x_move (et (v := (Value.int .u8 a)) rfl)) ?_)
  by_cases h_3 : 97 ≤ a
  rotate_left
  · refine l_op wn (o_val (x_geq (r := false) (et (v := (Value.int .u8 a)) rfl) ec (dec_f h_3)) ?_)
    refine l_op wn (o_val (x_move (et (v := (Value.bool false)) rfl)) ?_)
    refine l_pass (wx rfl) ?_
    refine l_pass (wx rfl) ?_
    refine l_op wn (o_val (x_pick_f (et (v := (Value.bool false)) rfl) ec) ?_)
    refine l_op wn (o_val (x_assign (et (v := (Value.bool false)) rfl)) ?_)
    refine l_nil ?_
    refine w_ret ?_
    exact ⟨_, r_tmp (v := (Value.bool false)) Try.results75 rfl, _, rfl, iff_f (by omega), hB0⟩
  refine l_op wn (o_val (x_geq (r := true) (et (v := (Value.int .u8 a)) rfl) ec (dec_t h_3)) ?_)
  refine l_op wn (o_val (x_move (et (v := (Value.bool true)) rfl)) ?_)
  refine l_op (wy rfl) (o_val (x_move (et (v := (Value.int .u8 a)) rfl)) ?_)
  by_cases h_4 : a ≤ 122
  rotate_left
  · refine l_op (wy rfl) (o_val (x_leq (r := false) (et (v := (Value.int .u8 a)) rfl) ec (dec_f h_4)) ?_)
    refine l_op wn (o_val (x_pick_t (et (v := (Value.bool true)) rfl) (et (v := (Value.bool false)) rfl)) ?_)
    refine l_op wn (o_val (x_assign (et (v := (Value.bool false)) rfl)) ?_)
    refine l_nil ?_
    refine w_ret ?_
    exact ⟨_, r_tmp (v := (Value.bool false)) Try.results75 rfl, _, rfl, iff_f (by omega), hB0⟩
  refine l_op (wy rfl) (o_val (x_leq (r := true) (et (v := (Value.int .u8 a)) rfl) ec (dec_t h_4)) ?_)
  refine l_op wn (o_val (x_pick_t (et (v := (Value.bool true)) rfl) (et (v := (Value.bool true)) rfl)) ?_)
  refine l_op wn (o_val (x_assign (et (v := (Value.bool true)) rfl)) ?_)
  refine l_nil ?_
  refine w_ret ?_
  exact ⟨_, r_tmp (v := (Value.bool true)) Try.results75 rfl, _, rfl, iff_t (by omega), hB0⟩

set_option maxHeartbeats 400000 in
theorem isDigit_c (w : World) (a : Int) : Calls Try.prog 91 #[.int .u8 a] w (RetB w (48 ≤ a ∧ a ≤ 57)) := by
  have hB0 := Below.refl w.heap.size w
  refine enter (N := 9) Try.func91 rfl Try.ntmps91 rfl ?_
  refine w_seq ?_
  refine w_region ?_
  refine l_op wn (o_val (x_assign ec) ?_)
  refine l_nil ?_
  refine w_seq ?_
  refine w_region ?_
  refine l_op wn (o_val (x_move (et (v := (Value.int .u8 a)) rfl)) ?_)
  by_cases h_5 : 48 ≤ a
  rotate_left
  · refine l_op wn (o_val (x_geq (r := false) (et (v := (Value.int .u8 a)) rfl) ec (dec_f h_5)) ?_)
    refine l_op wn (o_val (x_move (et (v := (Value.bool false)) rfl)) ?_)
    refine l_pass (wx rfl) ?_
    refine l_pass (wx rfl) ?_
    refine l_op wn (o_val (x_pick_f (et (v := (Value.bool false)) rfl) ec) ?_)
    refine l_op wn (o_val (x_assign (et (v := (Value.bool false)) rfl)) ?_)
    refine l_nil ?_
    refine w_ret ?_
    exact ⟨_, r_tmp (v := (Value.bool false)) Try.results91 rfl, _, rfl, iff_f (by omega), hB0⟩
  refine l_op wn (o_val (x_geq (r := true) (et (v := (Value.int .u8 a)) rfl) ec (dec_t h_5)) ?_)
  refine l_op wn (o_val (x_move (et (v := (Value.bool true)) rfl)) ?_)
  refine l_op (wy rfl) (o_val (x_move (et (v := (Value.int .u8 a)) rfl)) ?_)
  by_cases h_6 : a ≤ 57
  rotate_left
  · refine l_op (wy rfl) (o_val (x_leq (r := false) (et (v := (Value.int .u8 a)) rfl) ec (dec_f h_6)) ?_)
    refine l_op wn (o_val (x_pick_t (et (v := (Value.bool true)) rfl) (et (v := (Value.bool false)) rfl)) ?_)
    refine l_op wn (o_val (x_assign (et (v := (Value.bool false)) rfl)) ?_)
    refine l_nil ?_
    refine w_ret ?_
    exact ⟨_, r_tmp (v := (Value.bool false)) Try.results91 rfl, _, rfl, iff_f (by omega), hB0⟩
  refine l_op (wy rfl) (o_val (x_leq (r := true) (et (v := (Value.int .u8 a)) rfl) ec (dec_t h_6)) ?_)
  refine l_op wn (o_val (x_pick_t (et (v := (Value.bool true)) rfl) (et (v := (Value.bool true)) rfl)) ?_)
  refine l_op wn (o_val (x_assign (et (v := (Value.bool true)) rfl)) ?_)
  refine l_nil ?_
  refine w_ret ?_
  exact ⟨_, r_tmp (v := (Value.bool true)) Try.results91 rfl, _, rfl, iff_t (by omega), hB0⟩

set_option maxHeartbeats 400000 in
theorem isNameByte_c (w : World) (a : Int) : Calls Try.prog 76 #[.int .u8 a] w (RetB w (NbP a)) := by
  have hB0 := Below.refl w.heap.size w
  refine enter (N := 13) Try.func76 rfl Try.ntmps76 rfl ?_
  refine w_seq ?_
  refine w_region ?_
  refine l_op wn (o_val (x_assign ec) ?_)
  refine l_nil ?_
  refine w_seq ?_
  refine w_region ?_
  refine l_op wn (o_val (x_move (et (v := (Value.int .u8 a)) rfl)) ?_)
  refine l_op wn (o_call (x_call Try.call75 ef (a1 (et (v := (Value.int .u8 a)) rfl))) (isLower_c w a) ?_)
  rintro _ w_7 ⟨r_8, rfl, hr_9, k_10⟩
  refine ⟨_, rfl, ?_⟩
  have hB_12 := below_next hB0 k_10 (by omega)
  have z_13 := k_10.size
  cases r_8
  rotate_left
  · have h_11 : 97 ≤ a ∧ a ≤ 122 := hr_9.1 rfl
    refine l_op wn (o_val (x_move (et (v := (Value.bool true)) rfl)) ?_)
    refine l_pass (wx rfl) ?_
    refine l_pass (wx rfl) ?_
    refine l_op wn (o_val (x_pick_t (et (v := (Value.bool true)) rfl) ec) ?_)
    refine l_op wn (o_val (x_move (et (v := (Value.bool true)) rfl)) ?_)
    refine l_pass (wx rfl) ?_
    refine l_pass (wx rfl) ?_
    refine l_op wn (o_val (x_pick_t (et (v := (Value.bool true)) rfl) ec) ?_)
    refine l_op wn (o_val (x_assign (et (v := (Value.bool true)) rfl)) ?_)
    refine l_nil ?_
    refine w_ret ?_
    exact ⟨_, r_tmp (v := (Value.bool true)) Try.results76 rfl, _, rfl, iff_t (by unfold NbP; omega), hB_12⟩
  have h_11 : ¬ (97 ≤ a ∧ a ≤ 122) := not_of_f hr_9
  refine l_op wn (o_val (x_move (et (v := (Value.bool false)) rfl)) ?_)
  refine l_op (wy rfl) (o_val (x_move (et (v := (Value.int .u8 a)) rfl)) ?_)
  refine l_op (wy rfl) (o_call (x_call Try.call91 ef (a1 (et (v := (Value.int .u8 a)) rfl))) (isDigit_c w_7 a) ?_)
  rintro _ w_14 ⟨r_15, rfl, hr_16, k_17⟩
  refine ⟨_, rfl, ?_⟩
  have hB_19 := below_next hB_12 k_17 (by omega)
  have z_20 := k_17.size
  cases r_15
  rotate_left
  · have h_18 : 48 ≤ a ∧ a ≤ 57 := hr_16.1 rfl
    refine l_op wn (o_val (x_pick_f (et (v := (Value.bool false)) rfl) (et (v := (Value.bool true)) rfl)) ?_)
    refine l_op wn (o_val (x_move (et (v := (Value.bool true)) rfl)) ?_)
    refine l_pass (wx rfl) ?_
    refine l_pass (wx rfl) ?_
    refine l_op wn (o_val (x_pick_t (et (v := (Value.bool true)) rfl) ec) ?_)
    refine l_op wn (o_val (x_assign (et (v := (Value.bool true)) rfl)) ?_)
    refine l_nil ?_
    refine w_ret ?_
    exact ⟨_, r_tmp (v := (Value.bool true)) Try.results76 rfl, _, rfl, iff_t (by unfold NbP; omega), hB_19⟩
  have h_18 : ¬ (48 ≤ a ∧ a ≤ 57) := not_of_f hr_16
  refine l_op wn (o_val (x_pick_f (et (v := (Value.bool false)) rfl) (et (v := (Value.bool false)) rfl)) ?_)
  refine l_op wn (o_val (x_move (et (v := (Value.bool false)) rfl)) ?_)
  refine l_op (wy rfl) (o_val (x_move (et (v := (Value.int .u8 a)) rfl)) ?_)
  by_cases h_21 : a = 45
  rotate_left
  · refine l_op (wy rfl) (o_val (x_eql (r := false) (et (v := (Value.int .u8 a)) rfl) ec (dec_f h_21)) ?_)
    refine l_op wn (o_val (x_pick_f (et (v := (Value.bool false)) rfl) (et (v := (Value.bool false)) rfl)) ?_)
    refine l_op wn (o_val (x_assign (et (v := (Value.bool false)) rfl)) ?_)
    refine l_nil ?_
    refine w_ret ?_
    exact ⟨_, r_tmp (v := (Value.bool false)) Try.results76 rfl, _, rfl, iff_f (by unfold NbP; omega), hB_19⟩
  refine l_op (wy rfl) (o_val (x_eql (r := true) (et (v := (Value.int .u8 a)) rfl) ec (dec_t h_21)) ?_)
  refine l_op wn (o_val (x_pick_f (et (v := (Value.bool false)) rfl) (et (v := (Value.bool true)) rfl)) ?_)
  refine l_op wn (o_val (x_assign (et (v := (Value.bool true)) rfl)) ?_)
  refine l_nil ?_
  refine w_ret ?_
  exact ⟨_, r_tmp (v := (Value.bool true)) Try.results76 rfl, _, rfl, iff_t (by unfold NbP; omega), hB_19⟩

set_option maxHeartbeats 400000 in
theorem isName_c (w : World) (s : ByteArray) (hs : s.size ≤ 9223372036854775807) : Calls Try.prog 43 #[.string s] w (RetB w (NameP s)) := by
  have hB0 := Below.refl w.heap.size w
  refine enter (N := 35) Try.func43 rfl Try.ntmps43 rfl ?_
  refine w_seq ?_
  refine w_region ?_
  refine l_op wn (o_val (x_assign ec) ?_)
  refine l_nil ?_
  refine w_seq ?_
  refine w_seq ?_
  refine w_region ?_
  refine l_op wn (o_val (x_move (et (v := (Value.string s)) rfl)) ?_)
  refine l_op wn (o_val (x_slen Try.underlying9 (et (v := (Value.string s)) rfl)) ?_)
  by_cases h_22 : (s.size : Int) < 1
  · refine l_op wn (o_val (x_lss (r := true) (et (v := (Value.int .i64 (s.size : Int))) rfl) ec (dec_t h_22)) ?_)
    refine l_op wn (o_val (x_move (et (v := (Value.bool true)) rfl)) ?_)
    refine l_pass (wx rfl) ?_
    refine l_pass (wx rfl) ?_
    refine l_pass (wx rfl) ?_
    refine l_op wn (o_val (x_pick_t (et (v := (Value.bool true)) rfl) ec) ?_)
    refine l_op wn (o_val (x_move (et (v := (Value.bool true)) rfl)) ?_)
    refine l_pass (wx rfl) ?_
    refine l_pass (wx rfl) ?_
    refine l_pass (wx rfl) ?_
    refine l_pass (wx rfl) ?_
    refine l_op wn (o_val (x_pick_t (et (v := (Value.bool true)) rfl) ec) ?_)
    refine l_nil ?_
    refine w_if_t (et (v := (Value.bool true)) rfl) ?_
    refine w_seq ?_
    refine w_region ?_
    refine l_op wn (o_val (x_assign ec) ?_)
    refine l_nil ?_
    refine w_ret ?_
    exact ⟨_, r_tmp (v := (Value.bool false)) Try.results43 rfl, _, rfl, iff_f (by intro h; have h1 := h.ge; have h2 := h.le; have h3 := h.low; have h5 := h.last; first | omega | exact absurd (h.all i (by omega)) (by assumption) | exact absurd h3 (by assumption)), hB0⟩
  refine l_op wn (o_val (x_lss (r := false) (et (v := (Value.int .i64 (s.size : Int))) rfl) ec (dec_f h_22)) ?_)
  refine l_op wn (o_val (x_move (et (v := (Value.bool false)) rfl)) ?_)
  refine l_op (wy rfl) (o_val (x_move (et (v := (Value.string s)) rfl)) ?_)
  refine l_op (wy rfl) (o_val (x_slen Try.underlying9 (et (v := (Value.string s)) rfl)) ?_)
  by_cases h_23 : 16 < (s.size : Int)
  · refine l_op (wy rfl) (o_val (x_gtr (r := true) (et (v := (Value.int .i64 (s.size : Int))) rfl) ec (dec_t h_23)) ?_)
    refine l_op wn (o_val (x_pick_f (et (v := (Value.bool false)) rfl) (et (v := (Value.bool true)) rfl)) ?_)
    refine l_op wn (o_val (x_move (et (v := (Value.bool true)) rfl)) ?_)
    refine l_pass (wx rfl) ?_
    refine l_pass (wx rfl) ?_
    refine l_pass (wx rfl) ?_
    refine l_pass (wx rfl) ?_
    refine l_op wn (o_val (x_pick_t (et (v := (Value.bool true)) rfl) ec) ?_)
    refine l_nil ?_
    refine w_if_t (et (v := (Value.bool true)) rfl) ?_
    refine w_seq ?_
    refine w_region ?_
    refine l_op wn (o_val (x_assign ec) ?_)
    refine l_nil ?_
    refine w_ret ?_
    exact ⟨_, r_tmp (v := (Value.bool false)) Try.results43 rfl, _, rfl, iff_f (by intro h; have h1 := h.ge; have h2 := h.le; have h3 := h.low; have h5 := h.last; first | omega | exact absurd (h.all i (by omega)) (by assumption) | exact absurd h3 (by assumption)), hB0⟩
  refine l_op (wy rfl) (o_val (x_gtr (r := false) (et (v := (Value.int .i64 (s.size : Int))) rfl) ec (dec_f h_23)) ?_)
  refine l_op wn (o_val (x_pick_f (et (v := (Value.bool false)) rfl) (et (v := (Value.bool false)) rfl)) ?_)
  refine l_op wn (o_val (x_move (et (v := (Value.bool false)) rfl)) ?_)
  refine l_op (wy rfl) (o_val (x_move (et (v := (Value.string s)) rfl)) ?_)
  have bb_24 := bAt_bd s 0
  refine l_op (wy rfl) (o_val (x_sindex (i := 0) Try.underlying9 (et (v := (Value.string s)) rfl) ec (by omega) (by omega)) ?_)
  refine l_op (wy rfl) (o_call (x_call Try.call75 ef (a1 (et (v := (Value.int .u8 (bAt s 0))) rfl))) (isLower_c w (bAt s 0)) ?_)
  rintro _ w_25 ⟨r_26, rfl, hr_27, k_28⟩
  refine ⟨_, rfl, ?_⟩
  have hB_30 := below_next hB0 k_28 (by omega)
  have z_31 := k_28.size
  cases r_26
  · have h_29 : ¬ (97 ≤ (bAt s 0) ∧ (bAt s 0) ≤ 122) := not_of_f hr_27
    refine l_op (wy rfl) (o_val (x_not (et (v := (Value.bool false)) rfl)) ?_)
    refine l_op wn (o_val (x_pick_f (et (v := (Value.bool false)) rfl) (et (v := (Value.bool true)) rfl)) ?_)
    refine l_nil ?_
    refine w_if_t (et (v := (Value.bool true)) rfl) ?_
    refine w_seq ?_
    refine w_region ?_
    refine l_op wn (o_val (x_assign ec) ?_)
    refine l_nil ?_
    refine w_ret ?_
    exact ⟨_, r_tmp (v := (Value.bool false)) Try.results43 rfl, _, rfl, iff_f (by intro h; have h1 := h.ge; have h2 := h.le; have h3 := h.low; have h5 := h.last; first | omega | exact absurd (h.all i (by omega)) (by assumption) | exact absurd h3 (by assumption)), hB_30⟩
  have h_29 : 97 ≤ (bAt s 0) ∧ (bAt s 0) ≤ 122 := hr_27.1 rfl
  refine l_op (wy rfl) (o_val (x_not (et (v := (Value.bool true)) rfl)) ?_)
  refine l_op wn (o_val (x_pick_f (et (v := (Value.bool false)) rfl) (et (v := (Value.bool false)) rfl)) ?_)
  refine l_nil ?_
  refine w_if_f (et (v := (Value.bool false)) rfl) ?_
  refine w_skip ?_
  refine w_seq ?_
  refine w_seq ?_
  refine w_region ?_
  refine l_op wn (o_val (x_assign ec) ?_)
  refine l_nil ?_
  refine w_block ?_
  refine w_loop (fun μ f w' => ∃ (i : Nat), f 0 = (Value.string s) ∧ f 3 = (Value.int .i64 (i : Int)) ∧ Below w.heap.size w w' ∧ (i ≤ s.size) ∧ (1 ≤ i) ∧ (s.size ≤ 16) ∧ (97 ≤ bAt s 0 ∧ bAt s 0 ≤ 122) ∧ (∀ j, j < i → NbP (bAt s j)) ∧ μ = s.size - i) (s.size - 1) ?_ ?_
  · exact ⟨1, rfl, vint (a := 1) (by omega), hB_30, (by omega), (Nat.le_refl _), (by omega), (by assumption), (fun j hj => by obtain rfl : j = 0 := (by omega); exact .inl (by assumption)), rfl⟩
  rintro m_34 f_32 w_33 ⟨i, hs_36, hs_37, hB_35, hi, hi1, hsz, hlow, hall, rfl⟩
  have z_38 := hB_35.size
  refine w_seq ?_
  refine w_seq ?_
  refine w_region ?_
  refine l_op wn (o_val (x_move (et (v := (Value.int .i64 (i : Int))) hs_37)) ?_)
  refine l_op wn (o_val (x_move (et (v := (Value.string s)) hs_36)) ?_)
  refine l_op wn (o_val (x_slen Try.underlying9 (et (v := (Value.string s)) rfl)) ?_)
  by_cases h_39 : (i : Int) < (s.size : Int)
  rotate_left
  · refine l_op wn (o_val (x_lss (r := false) (et (v := (Value.int .i64 (i : Int))) rfl) (et (v := (Value.int .i64 (s.size : Int))) rfl) (dec_f h_39)) ?_)
    refine l_nil ?_
    refine w_if_f (et (v := (Value.bool false)) rfl) ?_
    refine w_exit ?_
    refine Eq.mpr (if_pos rfl) ?_
    refine w_seq ?_
    refine w_region ?_
    refine l_op wn (o_val (x_move (et (v := (Value.string s)) hs_36)) ?_)
    refine l_op wn (o_val (x_move (et (v := (Value.string s)) hs_36)) ?_)
    refine l_op wn (o_val (x_slen Try.underlying9 (et (v := (Value.string s)) rfl)) ?_)
    refine l_op wn (o_val (x_sub (et (v := (Value.int .i64 (s.size : Int))) rfl) ec (by omega)) ?_)
    have bb_48 := bAt_bd s (s.size - 1)
    refine l_op wn (o_val (x_sindex (i := (s.size - 1)) Try.underlying9 (et (v := (Value.string s)) rfl) (et (v := (Value.int .i64 ((s.size : Int) - 1))) rfl) (by omega) (by omega)) ?_)
    by_cases h_49 : (bAt s (s.size - 1)) = 45
    rotate_left
    · refine l_op wn (o_val (x_neq (r := true) (et (v := (Value.int .u8 (bAt s (s.size - 1)))) rfl) ec (dec_f h_49)) ?_)
      refine l_op wn (o_val (x_assign (et (v := (Value.bool true)) rfl)) ?_)
      refine l_nil ?_
      refine w_ret ?_
      exact ⟨_, r_tmp (v := (Value.bool true)) Try.results43 rfl, _, rfl, iff_t (by first | exact ⟨by omega, by omega, hlow, fun j hj => hall j (by omega), by omega⟩ | exact ⟨by omega, by omega, by omega, fun j hj => hall j (by omega), by omega⟩), hB_35⟩
    refine l_op wn (o_val (x_neq (r := false) (et (v := (Value.int .u8 (bAt s (s.size - 1)))) rfl) ec (dec_t h_49)) ?_)
    refine l_op wn (o_val (x_assign (et (v := (Value.bool false)) rfl)) ?_)
    refine l_nil ?_
    refine w_ret ?_
    exact ⟨_, r_tmp (v := (Value.bool false)) Try.results43 rfl, _, rfl, iff_f (by intro h; have h1 := h.ge; have h2 := h.le; have h3 := h.low; have h5 := h.last; first | omega | exact absurd (h.all i (by omega)) (by assumption) | exact absurd h3 (by assumption)), hB_35⟩
  refine l_op wn (o_val (x_lss (r := true) (et (v := (Value.int .i64 (i : Int))) rfl) (et (v := (Value.int .i64 (s.size : Int))) rfl) (dec_t h_39)) ?_)
  refine l_nil ?_
  refine w_if_t (et (v := (Value.bool true)) rfl) ?_
  refine w_skip ?_
  refine w_seq ?_
  refine w_block ?_
  refine w_seq ?_
  refine w_region ?_
  refine l_op wn (o_val (x_move (et (v := (Value.string s)) hs_36)) ?_)
  refine l_op wn (o_val (x_move (et (v := (Value.int .i64 (i : Int))) hs_37)) ?_)
  have bb_40 := bAt_bd s i
  refine l_op wn (o_val (x_sindex (i := i) Try.underlying9 (et (v := (Value.string s)) rfl) (et (v := (Value.int .i64 (i : Int))) rfl) (by omega) (by omega)) ?_)
  refine l_op wn (o_call (x_call Try.call76 ef (a1 (et (v := (Value.int .u8 (bAt s i))) rfl))) (isNameByte_c w_33 (bAt s i)) ?_)
  rintro _ w_41 ⟨r_42, rfl, hr_43, k_44⟩
  refine ⟨_, rfl, ?_⟩
  have hB_46 := below_next hB_35 k_44 (by omega)
  have z_47 := k_44.size
  cases r_42
  · have h_45 : ¬ (NbP (bAt s i)) := not_of_f hr_43
    refine l_op wn (o_val (x_not (et (v := (Value.bool false)) rfl)) ?_)
    refine l_nil ?_
    refine w_if_t (et (v := (Value.bool true)) rfl) ?_
    refine w_seq ?_
    refine w_region ?_
    refine l_op wn (o_val (x_assign ec) ?_)
    refine l_nil ?_
    refine w_ret ?_
    exact ⟨_, r_tmp (v := (Value.bool false)) Try.results43 rfl, _, rfl, iff_f (by intro h; have h1 := h.ge; have h2 := h.le; have h3 := h.low; have h5 := h.last; first | omega | exact absurd (h.all i (by omega)) (by assumption) | exact absurd h3 (by assumption)), hB_46⟩
  have h_45 : NbP (bAt s i) := hr_43.1 rfl
  refine l_op wn (o_val (x_not (et (v := (Value.bool true)) rfl)) ?_)
  refine l_nil ?_
  refine w_if_f (et (v := (Value.bool false)) rfl) ?_
  refine w_skip ?_
  refine w_region ?_
  refine l_op wn (o_val (x_move (et (v := (Value.int .i64 (i : Int))) hs_37)) ?_)
  refine l_op wn (o_val (x_add (et (v := (Value.int .i64 (i : Int))) rfl) ec (by omega)) ?_)
  refine l_op wn (o_val (x_assign (et (v := (Value.int .i64 ((i : Int) + 1))) rfl)) ?_)
  refine l_nil ?_
  exact ⟨s.size - (i + 1), by omega, ⟨i + 1, hs_36, vint (a := ((i : Int) + 1)) (by omega), hB_46, (by omega), (by omega), (hsz), (hlow), (upto_succ hall (by assumption)), rfl⟩⟩

set_option maxHeartbeats 400000 in
theorem sIsName_c (w : World) (s : ByteArray) (hs : s.size ≤ 9223372036854775807) : Calls Try.prog 40 #[.string s] w (RetB w (NameP s)) := by
  have hB0 := Below.refl w.heap.size w
  refine enter (N := 47) Try.func40 rfl Try.ntmps40 rfl ?_
  refine w_seq ?_
  refine w_region ?_
  refine l_op wn (o_val (x_assign ec) ?_)
  refine l_nil ?_
  refine w_seq ?_
  refine w_seq ?_
  refine w_region ?_
  refine l_op wn (o_val (x_assign ec) ?_)
  refine l_nil ?_
  refine w_block ?_
  refine w_loop (fun μ f w' => ∃ (i : Nat), f 0 = (Value.string s) ∧ f 3 = (Value.int .i64 (i : Int)) ∧ Below w.heap.size w w' ∧ (i ≤ s.size) ∧ (∀ j, j < i → NbP (bAt s j) ∧ (j = 0 → 97 ≤ bAt s j ∧ bAt s j ≤ 122)) ∧ μ = s.size - i) (s.size - 0) ?_ ?_
  · exact ⟨0, rfl, vint (a := 0) (by omega), hB0, (by omega), (fun j hj => by omega), rfl⟩
  rintro m_52 f_50 w_51 ⟨i, hs_54, hs_55, hB_53, hi, hall, rfl⟩
  have z_56 := hB_53.size
  refine w_seq ?_
  refine w_seq ?_
  refine w_region ?_
  refine l_op wn (o_val (x_move (et (v := (Value.int .i64 (i : Int))) hs_55)) ?_)
  refine l_op wn (o_val (x_move (et (v := (Value.string s)) hs_54)) ?_)
  refine l_op wn (o_val (x_slen Try.underlying9 (et (v := (Value.string s)) rfl)) ?_)
  by_cases h_57 : (i : Int) < (s.size : Int)
  rotate_left
  · refine l_op wn (o_val (x_lss (r := false) (et (v := (Value.int .i64 (i : Int))) rfl) (et (v := (Value.int .i64 (s.size : Int))) rfl) (dec_f h_57)) ?_)
    refine l_nil ?_
    refine w_if_f (et (v := (Value.bool false)) rfl) ?_
    refine w_exit ?_
    refine Eq.mpr (if_pos rfl) ?_
    refine w_seq ?_
    refine w_region ?_
    refine l_op wn (o_val (x_move (et (v := (Value.string s)) hs_54)) ?_)
    refine l_op wn (o_val (x_slen Try.underlying9 (et (v := (Value.string s)) rfl)) ?_)
    refine l_op wn (o_call (x_call Try.call41 ef (a3 (et (v := (Value.int .i64 (s.size : Int))) rfl) ec ec)) (l1In_c w_51 (s.size : Int) 1 16) ?_)
    rintro _ w_77 ⟨r_78, rfl, hr_79, k_80⟩
    refine ⟨_, rfl, ?_⟩
    have hB_82 := below_next hB_53 k_80 (by omega)
    have z_83 := k_80.size
    cases r_78
    · have h_81 : ¬ (1 ≤ (s.size : Int) ∧ (s.size : Int) ≤ 16) := not_of_f hr_79
      refine l_op wn (o_val (x_move (et (v := (Value.bool false)) rfl)) ?_)
      refine l_pass (wx rfl) ?_
      refine l_pass (wx rfl) ?_
      refine l_pass (wx rfl) ?_
      refine l_pass (wx rfl) ?_
      refine l_pass (wx rfl) ?_
      refine l_pass (wx rfl) ?_
      refine l_op wn (o_val (x_pick_f (et (v := (Value.bool false)) rfl) ec) ?_)
      refine l_op wn (o_val (x_assign (et (v := (Value.bool false)) rfl)) ?_)
      refine l_nil ?_
      refine w_ret ?_
      exact ⟨_, r_tmp (v := (Value.bool false)) Try.results40 rfl, _, rfl, iff_f (by intro h; have h1 := h.ge; have h2 := h.le; have h3 := h.low; have h5 := h.last; first | omega | (have h4 := h.all i (by omega); unfold NbP at h4; (first | omega | (obtain rfl : i = 0 := (by omega); omega)))), hB_82⟩
    have h_81 : 1 ≤ (s.size : Int) ∧ (s.size : Int) ≤ 16 := hr_79.1 rfl
    refine l_op wn (o_val (x_move (et (v := (Value.bool true)) rfl)) ?_)
    refine l_op (wy rfl) (o_val (x_move (et (v := (Value.string s)) hs_54)) ?_)
    refine l_op (wy rfl) (o_val (x_move (et (v := (Value.string s)) hs_54)) ?_)
    refine l_op (wy rfl) (o_val (x_slen Try.underlying9 (et (v := (Value.string s)) rfl)) ?_)
    refine l_op (wy rfl) (o_val (x_sub (et (v := (Value.int .i64 (s.size : Int))) rfl) ec (by omega)) ?_)
    have bb_84 := bAt_bd s (s.size - 1)
    refine l_op (wy rfl) (o_val (x_sindex (i := (s.size - 1)) Try.underlying9 (et (v := (Value.string s)) rfl) (et (v := (Value.int .i64 ((s.size : Int) - 1))) rfl) (by omega) (by omega)) ?_)
    by_cases h_85 : (bAt s (s.size - 1)) = 45
    rotate_left
    · refine l_op (wy rfl) (o_val (x_neq (r := true) (et (v := (Value.int .u8 (bAt s (s.size - 1)))) rfl) ec (dec_f h_85)) ?_)
      refine l_op wn (o_val (x_pick_t (et (v := (Value.bool true)) rfl) (et (v := (Value.bool true)) rfl)) ?_)
      refine l_op wn (o_val (x_assign (et (v := (Value.bool true)) rfl)) ?_)
      refine l_nil ?_
      refine w_ret ?_
      exact ⟨_, r_tmp (v := (Value.bool true)) Try.results40 rfl, _, rfl, iff_t (by exact ⟨by omega, by omega, (hall 0 (by omega)).2 rfl, fun j hj => (hall j (by omega)).1, by omega⟩), hB_82⟩
    refine l_op (wy rfl) (o_val (x_neq (r := false) (et (v := (Value.int .u8 (bAt s (s.size - 1)))) rfl) ec (dec_t h_85)) ?_)
    refine l_op wn (o_val (x_pick_t (et (v := (Value.bool true)) rfl) (et (v := (Value.bool false)) rfl)) ?_)
    refine l_op wn (o_val (x_assign (et (v := (Value.bool false)) rfl)) ?_)
    refine l_nil ?_
    refine w_ret ?_
    exact ⟨_, r_tmp (v := (Value.bool false)) Try.results40 rfl, _, rfl, iff_f (by intro h; have h1 := h.ge; have h2 := h.le; have h3 := h.low; have h5 := h.last; first | omega | (have h4 := h.all i (by omega); unfold NbP at h4; (first | omega | (obtain rfl : i = 0 := (by omega); omega)))), hB_82⟩
  refine l_op wn (o_val (x_lss (r := true) (et (v := (Value.int .i64 (i : Int))) rfl) (et (v := (Value.int .i64 (s.size : Int))) rfl) (dec_t h_57)) ?_)
  refine l_nil ?_
  refine w_if_t (et (v := (Value.bool true)) rfl) ?_
  refine w_skip ?_
  refine w_seq ?_
  refine w_block ?_
  refine w_seq ?_
  refine w_region ?_
  refine l_op wn (o_val (x_move (et (v := (Value.string s)) hs_54)) ?_)
  refine l_op wn (o_val (x_move (et (v := (Value.int .i64 (i : Int))) hs_55)) ?_)
  have bb_58 := bAt_bd s i
  refine l_op wn (o_val (x_sindex (i := i) Try.underlying9 (et (v := (Value.string s)) rfl) (et (v := (Value.int .i64 (i : Int))) rfl) (by omega) (by omega)) ?_)
  refine l_op wn (o_val (x_conv Try.underlying5 Try.underlying3 (et (v := (Value.int .u8 (bAt s i))) rfl) (by omega)) ?_)
  refine l_op wn (o_call (x_call Try.call41 ef (a3 (et (v := (Value.int .i64 (bAt s i))) rfl) ec ec)) (l1In_c w_51 (bAt s i) 97 122) ?_)
  rintro _ w_59 ⟨r_60, rfl, hr_61, k_62⟩
  refine ⟨_, rfl, ?_⟩
  have hB_64 := below_next hB_53 k_62 (by omega)
  have z_65 := k_62.size
  cases r_60
  rotate_left
  · have h_63 : 97 ≤ (bAt s i) ∧ (bAt s i) ≤ 122 := hr_61.1 rfl
    refine l_op wn (o_val (x_assign (et (v := (Value.bool true)) rfl)) ?_)
    refine l_nil ?_
    refine w_seq ?_
    refine w_region ?_
    refine l_op wn (o_val (x_move (et (v := (Value.bool true)) rfl)) ?_)
    refine l_op wn (o_val (x_not (et (v := (Value.bool true)) rfl)) ?_)
    refine l_op wn (o_val (x_move (et (v := (Value.bool false)) rfl)) ?_)
    refine l_pass (wx rfl) ?_
    refine l_pass (wx rfl) ?_
    refine l_pass (wx rfl) ?_
    refine l_pass (wu rfl) ?_
    refine l_pass (wu rfl) ?_
    refine l_pass (wu rfl) ?_
    refine l_pass (wu rfl) ?_
    refine l_pass (wu rfl) ?_
    refine l_pass (wu rfl) ?_
    refine l_pass (wu rfl) ?_
    refine l_pass (wu rfl) ?_
    refine l_pass (wu rfl) ?_
    refine l_pass (wu rfl) ?_
    refine l_pass (wu rfl) ?_
    refine l_pass (wu rfl) ?_
    refine l_pass (wx rfl) ?_
    refine l_op wn (o_val (x_pick_f (et (v := (Value.bool false)) rfl) ec) ?_)
    refine l_nil ?_
    refine w_if_f (et (v := (Value.bool false)) rfl) ?_
    refine w_skip ?_
    refine w_region ?_
    refine l_op wn (o_val (x_move (et (v := (Value.int .i64 (i : Int))) hs_55)) ?_)
    refine l_op wn (o_val (x_add (et (v := (Value.int .i64 (i : Int))) rfl) ec (by omega)) ?_)
    refine l_op wn (o_val (x_assign (et (v := (Value.int .i64 ((i : Int) + 1))) rfl)) ?_)
    refine l_nil ?_
    exact ⟨s.size - (i + 1), by omega, ⟨i + 1, hs_54, vint (a := ((i : Int) + 1)) (by omega), hB_64, (by omega), (upto_succ hall ⟨by unfold NbP; omega, fun e => by omega⟩), rfl⟩⟩
  have h_63 : ¬ (97 ≤ (bAt s i) ∧ (bAt s i) ≤ 122) := not_of_f hr_61
  refine l_op wn (o_val (x_assign (et (v := (Value.bool false)) rfl)) ?_)
  refine l_nil ?_
  refine w_seq ?_
  refine w_region ?_
  refine l_op wn (o_val (x_move (et (v := (Value.bool false)) rfl)) ?_)
  refine l_op wn (o_val (x_not (et (v := (Value.bool false)) rfl)) ?_)
  refine l_op wn (o_val (x_move (et (v := (Value.bool true)) rfl)) ?_)
  refine l_op (wy rfl) (o_val (x_move (et (v := (Value.int .i64 (i : Int))) hs_55)) ?_)
  by_cases h_66 : (i : Int) = 0
  · refine l_op (wy rfl) (o_val (x_eql (r := true) (et (v := (Value.int .i64 (i : Int))) rfl) ec (dec_t h_66)) ?_)
    refine l_op (wy rfl) (o_val (x_move (et (v := (Value.bool true)) rfl)) ?_)
    refine l_pass (wx rfl) ?_
    refine l_pass (wx rfl) ?_
    refine l_pass (wx rfl) ?_
    refine l_pass (wx rfl) ?_
    refine l_pass (wx rfl) ?_
    refine l_pass (wx rfl) ?_
    refine l_pass (wx rfl) ?_
    refine l_pass (wu rfl) ?_
    refine l_pass (wu rfl) ?_
    refine l_pass (wu rfl) ?_
    refine l_pass (wu rfl) ?_
    refine l_pass (wx rfl) ?_
    refine l_op (wy rfl) (o_val (x_pick_t (et (v := (Value.bool true)) rfl) ec) ?_)
    refine l_op wn (o_val (x_pick_t (et (v := (Value.bool true)) rfl) (et (v := (Value.bool true)) rfl)) ?_)
    refine l_nil ?_
    refine w_if_t (et (v := (Value.bool true)) rfl) ?_
    refine w_seq ?_
    refine w_region ?_
    refine l_op wn (o_val (x_assign ec) ?_)
    refine l_nil ?_
    refine w_ret ?_
    exact ⟨_, r_tmp (v := (Value.bool false)) Try.results40 rfl, _, rfl, iff_f (by intro h; have h1 := h.ge; have h2 := h.le; have h3 := h.low; have h5 := h.last; first | omega | (have h4 := h.all i (by omega); unfold NbP at h4; (first | omega | (obtain rfl : i = 0 := (by omega); omega)))), hB_64⟩
  refine l_op (wy rfl) (o_val (x_eql (r := false) (et (v := (Value.int .i64 (i : Int))) rfl) ec (dec_f h_66)) ?_)
  refine l_op (wy rfl) (o_val (x_move (et (v := (Value.bool false)) rfl)) ?_)
  refine l_op (wy rfl) (o_val (x_move (et (v := (Value.string s)) hs_54)) ?_)
  refine l_op (wy rfl) (o_val (x_move (et (v := (Value.int .i64 (i : Int))) hs_55)) ?_)
  have bb_67 := bAt_bd s i
  refine l_op (wy rfl) (o_val (x_sindex (i := i) Try.underlying9 (et (v := (Value.string s)) rfl) (et (v := (Value.int .i64 (i : Int))) rfl) (by omega) (by omega)) ?_)
  refine l_op (wy rfl) (o_val (x_conv Try.underlying5 Try.underlying3 (et (v := (Value.int .u8 (bAt s i))) rfl) (by omega)) ?_)
  refine l_op (wy rfl) (o_call (x_call Try.call41 ef (a3 (et (v := (Value.int .i64 (bAt s i))) rfl) ec ec)) (l1In_c w_59 (bAt s i) 48 57) ?_)
  rintro _ w_68 ⟨r_69, rfl, hr_70, k_71⟩
  refine ⟨_, rfl, ?_⟩
  have hB_73 := below_next hB_64 k_71 (by omega)
  have z_74 := k_71.size
  cases r_69
  rotate_left
  · have h_72 : 48 ≤ (bAt s i) ∧ (bAt s i) ≤ 57 := hr_70.1 rfl
    refine l_op (wy rfl) (o_val (x_not (et (v := (Value.bool true)) rfl)) ?_)
    refine l_op (wy rfl) (o_val (x_move (et (v := (Value.bool false)) rfl)) ?_)
    refine l_pass (wx rfl) ?_
    refine l_pass (wx rfl) ?_
    refine l_pass (wx rfl) ?_
    refine l_pass (wx rfl) ?_
    refine l_op (wy rfl) (o_val (x_pick_f (et (v := (Value.bool false)) rfl) ec) ?_)
    refine l_op (wy rfl) (o_val (x_pick_f (et (v := (Value.bool false)) rfl) (et (v := (Value.bool false)) rfl)) ?_)
    refine l_op wn (o_val (x_pick_t (et (v := (Value.bool true)) rfl) (et (v := (Value.bool false)) rfl)) ?_)
    refine l_nil ?_
    refine w_if_f (et (v := (Value.bool false)) rfl) ?_
    refine w_skip ?_
    refine w_region ?_
    refine l_op wn (o_val (x_move (et (v := (Value.int .i64 (i : Int))) hs_55)) ?_)
    refine l_op wn (o_val (x_add (et (v := (Value.int .i64 (i : Int))) rfl) ec (by omega)) ?_)
    refine l_op wn (o_val (x_assign (et (v := (Value.int .i64 ((i : Int) + 1))) rfl)) ?_)
    refine l_nil ?_
    exact ⟨s.size - (i + 1), by omega, ⟨i + 1, hs_54, vint (a := ((i : Int) + 1)) (by omega), hB_73, (by omega), (upto_succ hall ⟨by unfold NbP; omega, fun e => by omega⟩), rfl⟩⟩
  have h_72 : ¬ (48 ≤ (bAt s i) ∧ (bAt s i) ≤ 57) := not_of_f hr_70
  refine l_op (wy rfl) (o_val (x_not (et (v := (Value.bool false)) rfl)) ?_)
  refine l_op (wy rfl) (o_val (x_move (et (v := (Value.bool true)) rfl)) ?_)
  refine l_op (wy rfl) (o_val (x_move (et (v := (Value.string s)) hs_54)) ?_)
  refine l_op (wy rfl) (o_val (x_move (et (v := (Value.int .i64 (i : Int))) hs_55)) ?_)
  have bb_75 := bAt_bd s i
  refine l_op (wy rfl) (o_val (x_sindex (i := i) Try.underlying9 (et (v := (Value.string s)) rfl) (et (v := (Value.int .i64 (i : Int))) rfl) (by omega) (by omega)) ?_)
  by_cases h_76 : (bAt s i) = 45
  rotate_left
  · refine l_op (wy rfl) (o_val (x_neq (r := true) (et (v := (Value.int .u8 (bAt s i))) rfl) ec (dec_f h_76)) ?_)
    refine l_op (wy rfl) (o_val (x_pick_t (et (v := (Value.bool true)) rfl) (et (v := (Value.bool true)) rfl)) ?_)
    refine l_op (wy rfl) (o_val (x_pick_f (et (v := (Value.bool false)) rfl) (et (v := (Value.bool true)) rfl)) ?_)
    refine l_op wn (o_val (x_pick_t (et (v := (Value.bool true)) rfl) (et (v := (Value.bool true)) rfl)) ?_)
    refine l_nil ?_
    refine w_if_t (et (v := (Value.bool true)) rfl) ?_
    refine w_seq ?_
    refine w_region ?_
    refine l_op wn (o_val (x_assign ec) ?_)
    refine l_nil ?_
    refine w_ret ?_
    exact ⟨_, r_tmp (v := (Value.bool false)) Try.results40 rfl, _, rfl, iff_f (by intro h; have h1 := h.ge; have h2 := h.le; have h3 := h.low; have h5 := h.last; first | omega | (have h4 := h.all i (by omega); unfold NbP at h4; (first | omega | (obtain rfl : i = 0 := (by omega); omega)))), hB_73⟩
  refine l_op (wy rfl) (o_val (x_neq (r := false) (et (v := (Value.int .u8 (bAt s i))) rfl) ec (dec_t h_76)) ?_)
  refine l_op (wy rfl) (o_val (x_pick_t (et (v := (Value.bool true)) rfl) (et (v := (Value.bool false)) rfl)) ?_)
  refine l_op (wy rfl) (o_val (x_pick_f (et (v := (Value.bool false)) rfl) (et (v := (Value.bool false)) rfl)) ?_)
  refine l_op wn (o_val (x_pick_t (et (v := (Value.bool true)) rfl) (et (v := (Value.bool false)) rfl)) ?_)
  refine l_nil ?_
  refine w_if_f (et (v := (Value.bool false)) rfl) ?_
  refine w_skip ?_
  refine w_region ?_
  refine l_op wn (o_val (x_move (et (v := (Value.int .i64 (i : Int))) hs_55)) ?_)
  refine l_op wn (o_val (x_add (et (v := (Value.int .i64 (i : Int))) rfl) ec (by omega)) ?_)
  refine l_op wn (o_val (x_assign (et (v := (Value.int .i64 ((i : Int) + 1))) rfl)) ?_)
  refine l_nil ?_
  exact ⟨s.size - (i + 1), by omega, ⟨i + 1, hs_54, vint (a := ((i : Int) + 1)) (by omega), hB_73, (by omega), (upto_succ hall ⟨by unfold NbP; omega, fun e => by omega⟩), rfl⟩⟩

set_option maxHeartbeats 400000 in
theorem areNames_c (w : World) (xs : List V) (A : Option Addr) (n c : Nat) (F : List Nat) (ok : Oks xs tStr) (hr : Rep w (.list xs) [.slice A n c] F) : Calls Try.prog 44 #[.slice A n c] w (RetB w (NamesP xs)) := by
  have hB0 := Below.refl w.heap.size w
  obtain ⟨ln, lc, lm⟩ := hr.len
  refine enter (N := 15) Try.func44 rfl Try.ntmps44 rfl ?_
  refine w_seq ?_
  refine w_region ?_
  refine l_op wn (o_val (x_assign ec) ?_)
  refine l_nil ?_
  refine w_seq ?_
  refine w_seq ?_
  refine w_region ?_
  refine l_op wn (o_val (x_move (et (v := (Value.slice A n c)) rfl)) ?_)
  refine l_op wn (o_val (x_len Try.underlying29 (et (v := (Value.slice A n c)) rfl)) ?_)
  refine l_op wn (o_val (x_move ec) ?_)
  refine l_nil ?_
  refine w_block ?_
  refine w_loop (fun μ f w' => ∃ (i : Nat), f 0 = (Value.slice A n c) ∧ f 5 = (Value.slice A n c) ∧ f 6 = (Value.int .i64 (n : Int)) ∧ f 7 = (Value.int .i64 (i : Int)) ∧ Below w.heap.size w w' ∧ (i ≤ n) ∧ (∀ j, j < i → ∀ s, xs[j]? = some (.str s) → NameP s) ∧ μ = n - i) (n - 0) ?_ ?_
  · exact ⟨0, rfl, rfl, rfl, vint (a := 0) (by omega), hB0, (by omega), (fun j hj => by omega), rfl⟩
  rintro m_88 f_86 w_87 ⟨i, hs_90, hs_91, hs_92, hs_93, hB_89, hi, hall, rfl⟩
  have z_94 := hB_89.size
  refine w_seq ?_
  refine w_region ?_
  by_cases h_95 : (i : Int) < (n : Int)
  rotate_left
  · refine l_op wn (o_val (x_lss (r := false) (et (v := (Value.int .i64 (i : Int))) hs_93) (et (v := (Value.int .i64 (n : Int))) hs_92) (dec_f h_95)) ?_)
    refine l_nil ?_
    refine w_seq ?_
    refine w_if_f (et (v := (Value.bool false)) rfl) ?_
    refine w_exit ?_
    refine Eq.mpr (if_pos rfl) ?_
    refine w_seq ?_
    refine w_region ?_
    refine l_op wn (o_val (x_assign ec) ?_)
    refine l_nil ?_
    refine w_ret ?_
    exact ⟨_, r_tmp (v := (Value.bool true)) Try.results44 rfl, _, rfl, iff_t (by intro j s hs; exact hall j (by have := (List.getElem?_eq_some_iff.1 hs).1; omega) s hs), hB_89⟩
  refine l_op wn (o_val (x_lss (r := true) (et (v := (Value.int .i64 (i : Int))) hs_93) (et (v := (Value.int .i64 (n : Int))) hs_92) (dec_t h_95)) ?_)
  refine l_nil ?_
  refine w_seq ?_
  refine w_if_t (et (v := (Value.bool true)) rfl) ?_
  refine w_skip ?_
  refine w_seq ?_
  refine w_block ?_
  refine w_seq ?_
  refine w_region ?_
  obtain ⟨b_96, o_97, x_98, cs_99, G_100, hA_101, hbF_102, hlt_103, hx_104, hrx_105, hG_106, hl_107, hcl_108⟩ := hr.elem (k := 1) (fun y hy => wd_str (ok.mem y hy)) (i := i) (by omega)
  obtain ⟨s_109, rfl, rfl, rfl, bd_113⟩ := open_str (ok.get hx_104) hrx_105
  refine l_op wn (o_val (x_index' (i := i) Try.underlying29 Try.sizeOf9 (et (v := (Value.slice A n c)) hs_91) hA_101 (et (v := (Value.int .i64 (i : Int))) hs_93) (by omega) (by omega)) ?_)
  refine l_op wn (o_val (x_load (v := (Value.string s_109)) Try.isAgg9 (et (v := (Value.pointer (some ⟨b_96, o_97 + i * 1, none⟩))) rfl) ((hl_107.keep (hB_89.block _ hlt_103)) 0 _ rfl)) ?_)
  refine l_op wn (o_val (x_assign (et (v := (Value.string s_109)) rfl)) ?_)
  refine l_nil ?_
  refine w_seq ?_
  refine w_region ?_
  refine l_op wn (o_val (x_move (et (v := (Value.string s_109)) rfl)) ?_)
  refine l_op wn (o_call (x_call Try.call43 ef (a1 (et (v := (Value.string s_109)) rfl))) (isName_c w_87 s_109 bd_113) ?_)
  rintro _ w_114 ⟨r_115, rfl, hr_116, k_117⟩
  refine ⟨_, rfl, ?_⟩
  have hB_119 := below_next hB_89 k_117 (by omega)
  have z_120 := k_117.size
  cases r_115
  rotate_left
  · have h_118 : NameP s_109 := hr_116.1 rfl
    refine l_op wn (o_val (x_not (et (v := (Value.bool true)) rfl)) ?_)
    refine l_nil ?_
    refine w_if_f (et (v := (Value.bool false)) rfl) ?_
    refine w_skip ?_
    refine w_region ?_
    refine l_op wn (o_val (x_add (et (v := (Value.int .i64 (i : Int))) hs_93) ec (by omega)) ?_)
    refine l_op wn (o_val (x_move (et (v := (Value.int .i64 ((i : Int) + 1))) rfl)) ?_)
    refine l_nil ?_
    exact ⟨n - (i + 1), by omega, ⟨i + 1, hs_90, hs_91, hs_92, vint (a := ((i : Int) + 1)) (by omega), hB_119, (by omega), (upto_succ hall (fun s hs => by rw [hx_104] at hs; cases hs; assumption)), rfl⟩⟩
  have h_118 : ¬ (NameP s_109) := not_of_f hr_116
  refine l_op wn (o_val (x_not (et (v := (Value.bool false)) rfl)) ?_)
  refine l_nil ?_
  refine w_if_t (et (v := (Value.bool true)) rfl) ?_
  refine w_seq ?_
  refine w_region ?_
  refine l_op wn (o_val (x_assign ec) ?_)
  refine l_nil ?_
  refine w_ret ?_
  exact ⟨_, r_tmp (v := (Value.bool false)) Try.results44 rfl, _, rfl, iff_f (by intro h; exact absurd (h i _ hx_104) (by assumption)), hB_119⟩


end Go.Proofs.Ytilohpakglpdcaa
