/-
  How many changes; who may work on a store. Printed by a program of our own.
-/
import Derived.Test.YtilohpakglpdcaaPlain
import Derived.Test.YtilohpakglpdcaaProg
namespace Go.Proofs.Ytilohpakglpdcaa
open Go.RowKit
set_option linter.unusedVariables false
set_option maxRecDepth 100000

set_option maxHeartbeats 800000 in
theorem sChangesBy_c (w : World) (x : V) (cs : List Value) (F : List Nat) (ok : Ok x tJournal) (hr : Rep w x cs F) (by_ : Int) (hb : -9223372036854775808 ≤ by_ ∧ by_ ≤ 9223372036854775807) : Calls Try.prog 20 #[.agg cs.toArray, .int .i64 by_] w (RetI w (· = jBy x by_)) := by
  obtain ⟨xs_1, A_2, n_3, c_4, F_5, xs_7, A_8, n_9, c_10, F_11, rfl, rfl, rfl, ok_16, hr_17, ln_18, ok_19, hr_20, ln_21⟩ := open_Journal ok hr
  have hB0 := Below.refl w.heap.size w
  refine enter (N := 25) Try.func20 rfl Try.ntmps20 rfl ?_
  refine w_seq ?_
  refine w_region ?_
  refine l_op wn (o_new (x_box (cs := [(Value.slice A_2 n_3 c_4), (Value.slice A_8 n_9 c_10)]) (et (v := (Value.agg #[(Value.slice A_2 n_3 c_4), (Value.slice A_8 n_9 c_10)])) rfl)) ?_)
  intro w_22 z_23 k_24 bx_25
  have hB_26 := below_next hB0 k_24 (by omega)
  refine l_op wn (o_val (x_assign ec) ?_)
  refine l_nil ?_
  refine w_seq ?_
  refine w_region ?_
  refine l_op wn (o_val (x_assign ec) ?_)
  refine l_nil ?_
  refine w_seq ?_
  refine w_seq ?_
  refine w_region ?_
  refine l_op wn (o_val (x_assign ec) ?_)
  refine l_nil ?_
  refine w_block ?_
  refine w_loop (fun μ f w' => ∃ (i : Nat), ∃ (k : Nat), f 0 = (Value.agg #[(Value.slice A_2 n_3 c_4), (Value.slice A_8 n_9 c_10)]) ∧ f 1 = (Value.int .i64 by_) ∧ f 2 = (Value.pointer (some ⟨w.heap.size, 0, none⟩)) ∧ f 6 = (Value.int .i64 (i : Int)) ∧ f 5 = (Value.int .i64 (k : Int)) ∧ Below w.heap.size w w' ∧ Blk w' w.heap.size 44 [(Value.slice A_2 n_3 c_4), (Value.slice A_8 n_9 c_10)] ∧ (i ≤ n_9) ∧ (k = cntBy (xs_7.take i) by_) ∧ μ = n_9 - i) (n_9 - 0) ?_ ?_
  · exact ⟨0, 0, rfl, rfl, rfl, vint (a := 0) (by omega), vint (a := 0) (by omega), hB_26, bx_25, (by omega), (by simp [cntBy]), rfl⟩
  rintro m_29 f_27 w_28 ⟨i, k, hs_31, hs_32, hs_33, hs_34, hs_35, hB_30, bx_36, hi, hk, rfl⟩
  have z_37 := hB_30.size
  have lt_38 := bx_36.lt
  have ckl := cnt_take xs_7 i by_
  refine w_seq ?_
  refine w_seq ?_
  refine w_region ?_
  refine l_op wn (o_val (x_move (et (v := (Value.int .i64 (i : Int))) hs_34)) ?_)
  refine l_op wn (o_val (x_field (k := 0) (j := 1) Try.underlying44 rfl Try.sizeOf42 rfl (et (v := (Value.pointer (some ⟨w.heap.size, 0, none⟩))) hs_33)) ?_)
  refine l_op wn (o_val (x_load (v := (Value.slice A_8 n_9 c_10)) Try.isAgg42 (et (v := (Value.pointer (some ⟨w.heap.size, 1, none⟩))) rfl) ((bx_36.cell 1).trans rfl)) ?_)
  refine l_op wn (o_val (x_len Try.underlying42 (et (v := (Value.slice A_8 n_9 c_10)) rfl)) ?_)
  by_cases h_39 : (i : Int) < (n_9 : Int)
  rotate_left
  · refine l_op wn (o_val (x_lss (r := false) (et (v := (Value.int .i64 (i : Int))) rfl) (et (v := (Value.int .i64 (n_9 : Int))) rfl) (dec_f h_39)) ?_)
    refine l_nil ?_
    refine w_if_f (et (v := (Value.bool false)) rfl) ?_
    refine w_exit ?_
    refine Eq.mpr (if_pos rfl) ?_
    refine w_seq ?_
    refine w_region ?_
    refine l_op wn (o_val (x_move (et (v := (Value.int .i64 (k : Int))) hs_35)) ?_)
    refine l_op wn (o_val (x_assign (et (v := (Value.int .i64 (k : Int))) rfl)) ?_)
    refine l_nil ?_
    refine w_ret ?_
    exact ⟨_, r_tmp (v := (Value.int .i64 (k : Int))) Try.results20 rfl, _, rfl, by show (k : Int) = cntBy xs_7 by_; rw [hk, List.take_of_length_le (by omega)], hB_30⟩
  refine l_op wn (o_val (x_lss (r := true) (et (v := (Value.int .i64 (i : Int))) rfl) (et (v := (Value.int .i64 (n_9 : Int))) rfl) (dec_t h_39)) ?_)
  refine l_nil ?_
  refine w_if_t (et (v := (Value.bool true)) rfl) ?_
  refine w_skip ?_
  refine w_seq ?_
  refine w_block ?_
  refine w_seq ?_
  refine w_region ?_
  refine l_op wn (o_val (x_field (k := 0) (j := 1) Try.underlying44 rfl Try.sizeOf42 rfl (et (v := (Value.pointer (some ⟨w.heap.size, 0, none⟩))) hs_33)) ?_)
  refine l_op wn (o_val (x_load (v := (Value.slice A_8 n_9 c_10)) Try.isAgg42 (et (v := (Value.pointer (some ⟨w.heap.size, 1, none⟩))) rfl) ((bx_36.cell 1).trans rfl)) ?_)
  refine l_op wn (o_val (x_move (et (v := (Value.int .i64 (i : Int))) hs_34)) ?_)
  obtain ⟨b_40, o_41, x_42, cs_43, G_44, hA_45, hbF_46, hlt_47, hx_48, hrx_49, hG_50, hl_51, hcl_52⟩ := hr_20.elem (k := 3) (fun y hy => wd_Change (ok_19.mem y hy)) (i := i) (by omega)
  obtain ⟨i_53, i_54, xs_55, A_56, n_57, c_58, F_59, rfl, rfl, rfl, bd_64, bd_65, ok_66, hr_67, ln_68⟩ := open_Change (ok_19.get hx_48) hrx_49
  refine l_op wn (o_val (x_index' (i := i) Try.underlying42 Try.sizeOf85 (et (v := (Value.slice A_8 n_9 c_10)) rfl) hA_45 (et (v := (Value.int .i64 (i : Int))) rfl) (by omega) (by omega)) ?_)
  refine l_op wn (o_val (x_field (k := 0) (j := 1) Try.underlying85 rfl Try.sizeOf3 rfl (et (v := (Value.pointer (some ⟨b_40, o_41 + i * 3, none⟩))) rfl)) ?_)
  refine l_op wn (o_val (x_load (v := (Value.int .i64 i_54)) Try.isAgg3 (et (v := (Value.pointer (some ⟨b_40, o_41 + i * 3 + 1, none⟩))) rfl) ((hl_51.keep (hB_30.block _ hlt_47)) 1 _ rfl)) ?_)
  refine l_op wn (o_val (x_move (et (v := (Value.int .i64 by_)) hs_32)) ?_)
  by_cases h_69 : i_54 = by_
  rotate_left
  · refine l_op wn (o_val (x_eql (r := false) (et (v := (Value.int .i64 i_54)) rfl) (et (v := (Value.int .i64 by_)) rfl) (dec_f h_69)) ?_)
    refine l_nil ?_
    refine w_if_f (et (v := (Value.bool false)) rfl) ?_
    refine w_skip ?_
    refine w_region ?_
    refine l_op wn (o_val (x_move (et (v := (Value.int .i64 (i : Int))) hs_34)) ?_)
    refine l_op wn (o_val (x_add (et (v := (Value.int .i64 (i : Int))) rfl) ec (by omega)) ?_)
    refine l_op wn (o_val (x_assign (et (v := (Value.int .i64 ((i : Int) + 1))) rfl)) ?_)
    refine l_nil ?_
    have cs1 := cnt_hit (b := by_) hx_48
    have cl1 := cnt_le xs_7 by_
    have hh : hitN (.agg [.int i_53, .int i_54, .list xs_55]) by_ = 0 := if_neg (show ¬ i_54 = by_ by assumption)
    exact ⟨n_9 - (i + 1), by omega, ⟨i + 1, k, hs_31, hs_32, hs_33, vint (a := ((i : Int) + 1)) (by omega), hs_35, hB_30, bx_36, (by omega), (by omega), rfl⟩⟩
  refine l_op wn (o_val (x_eql (r := true) (et (v := (Value.int .i64 i_54)) rfl) (et (v := (Value.int .i64 by_)) rfl) (dec_t h_69)) ?_)
  refine l_nil ?_
  refine w_if_t (et (v := (Value.bool true)) rfl) ?_
  refine w_region ?_
  refine l_op wn (o_val (x_move (et (v := (Value.int .i64 (k : Int))) hs_35)) ?_)
  refine l_op wn (o_val (x_add (et (v := (Value.int .i64 (k : Int))) rfl) ec (by omega)) ?_)
  refine l_op wn (o_val (x_assign (et (v := (Value.int .i64 ((k : Int) + 1))) rfl)) ?_)
  refine l_nil ?_
  refine w_region ?_
  refine l_op wn (o_val (x_move (et (v := (Value.int .i64 (i : Int))) hs_34)) ?_)
  refine l_op wn (o_val (x_add (et (v := (Value.int .i64 (i : Int))) rfl) ec (by omega)) ?_)
  refine l_op wn (o_val (x_assign (et (v := (Value.int .i64 ((i : Int) + 1))) rfl)) ?_)
  refine l_nil ?_
  have cs1 := cnt_hit (b := by_) hx_48
  have cl1 := cnt_le xs_7 by_
  have hh : hitN (.agg [.int i_53, .int i_54, .list xs_55]) by_ = 1 := if_pos (show i_54 = by_ by assumption)
  exact ⟨n_9 - (i + 1), by omega, ⟨i + 1, k + 1, hs_31, hs_32, hs_33, vint (a := ((i : Int) + 1)) (by omega), vint (a := ((k : Int) + 1)) (by omega), hB_30, bx_36, (by omega), (by omega), rfl⟩⟩

set_option maxHeartbeats 800000 in
theorem changesBy_c (w : World) (x : V) (cs : List Value) (F : List Nat) (ok : Ok x tJournal) (hr : Rep w x cs F) (by_ : Int) (hb : -9223372036854775808 ≤ by_ ∧ by_ ≤ 9223372036854775807) : Calls Try.prog 22 #[.agg cs.toArray, .int .i64 by_] w (RetI w (· = jBy x by_)) := by
  obtain ⟨xs_70, A_71, n_72, c_73, F_74, xs_76, A_77, n_78, c_79, F_80, rfl, rfl, rfl, ok_85, hr_86, ln_87, ok_88, hr_89, ln_90⟩ := open_Journal ok hr
  have hB0 := Below.refl w.heap.size w
  refine enter (N := 23) Try.func22 rfl Try.ntmps22 rfl ?_
  refine w_seq ?_
  refine w_region ?_
  refine l_op wn (o_new (x_box (cs := [(Value.slice A_71 n_72 c_73), (Value.slice A_77 n_78 c_79)]) (et (v := (Value.agg #[(Value.slice A_71 n_72 c_73), (Value.slice A_77 n_78 c_79)])) rfl)) ?_)
  intro w_91 z_92 k_93 bx_94
  have hB_95 := below_next hB0 k_93 (by omega)
  refine l_op wn (o_val (x_assign ec) ?_)
  refine l_nil ?_
  refine w_seq ?_
  refine w_region ?_
  refine l_op wn (o_val (x_assign ec) ?_)
  refine l_nil ?_
  refine w_seq ?_
  refine w_seq ?_
  refine w_region ?_
  refine l_op wn (o_val (x_field (k := 0) (j := 1) Try.underlying44 rfl Try.sizeOf42 rfl (et (v := (Value.pointer (some ⟨w.heap.size, 0, none⟩))) rfl)) ?_)
  refine l_op wn (o_val (x_load (v := (Value.slice A_77 n_78 c_79)) Try.isAgg42 (et (v := (Value.pointer (some ⟨w.heap.size, 1, none⟩))) rfl) ((bx_94.cell 1).trans rfl)) ?_)
  refine l_op wn (o_val (x_len Try.underlying42 (et (v := (Value.slice A_77 n_78 c_79)) rfl)) ?_)
  refine l_op wn (o_val (x_move ec) ?_)
  refine l_nil ?_
  refine w_block ?_
  refine w_loop (fun μ f w' => ∃ (i : Nat), ∃ (k : Nat), f 0 = (Value.agg #[(Value.slice A_71 n_72 c_73), (Value.slice A_77 n_78 c_79)]) ∧ f 1 = (Value.int .i64 by_) ∧ f 2 = (Value.pointer (some ⟨w.heap.size, 0, none⟩)) ∧ f 9 = (Value.slice A_77 n_78 c_79) ∧ f 10 = (Value.int .i64 (n_78 : Int)) ∧ f 11 = (Value.int .i64 (i : Int)) ∧ f 5 = (Value.int .i64 (k : Int)) ∧ Below w.heap.size w w' ∧ Blk w' w.heap.size 44 [(Value.slice A_71 n_72 c_73), (Value.slice A_77 n_78 c_79)] ∧ (i ≤ n_78) ∧ (k = cntBy (xs_76.take i) by_) ∧ μ = n_78 - i) (n_78 - 0) ?_ ?_
  · exact ⟨0, 0, rfl, rfl, rfl, rfl, rfl, vint (a := 0) (by omega), vint (a := 0) (by omega), hB_95, bx_94, (by omega), (by simp [cntBy]), rfl⟩
  rintro m_98 f_96 w_97 ⟨i, k, hs_100, hs_101, hs_102, hs_103, hs_104, hs_105, hs_106, hB_99, bx_107, hi, hk, rfl⟩
  have z_108 := hB_99.size
  have lt_109 := bx_107.lt
  have ckl := cnt_take xs_76 i by_
  refine w_seq ?_
  refine w_region ?_
  by_cases h_110 : (i : Int) < (n_78 : Int)
  rotate_left
  · refine l_op wn (o_val (x_lss (r := false) (et (v := (Value.int .i64 (i : Int))) hs_105) (et (v := (Value.int .i64 (n_78 : Int))) hs_104) (dec_f h_110)) ?_)
    refine l_nil ?_
    refine w_seq ?_
    refine w_if_f (et (v := (Value.bool false)) rfl) ?_
    refine w_exit ?_
    refine Eq.mpr (if_pos rfl) ?_
    refine w_seq ?_
    refine w_region ?_
    refine l_op wn (o_val (x_move (et (v := (Value.int .i64 (k : Int))) hs_106)) ?_)
    refine l_op wn (o_val (x_assign (et (v := (Value.int .i64 (k : Int))) rfl)) ?_)
    refine l_nil ?_
    refine w_ret ?_
    exact ⟨_, r_tmp (v := (Value.int .i64 (k : Int))) Try.results22 rfl, _, rfl, by show (k : Int) = cntBy xs_76 by_; rw [hk, List.take_of_length_le (by omega)], hB_99⟩
  refine l_op wn (o_val (x_lss (r := true) (et (v := (Value.int .i64 (i : Int))) hs_105) (et (v := (Value.int .i64 (n_78 : Int))) hs_104) (dec_t h_110)) ?_)
  refine l_nil ?_
  refine w_seq ?_
  refine w_if_t (et (v := (Value.bool true)) rfl) ?_
  refine w_skip ?_
  refine w_seq ?_
  refine w_block ?_
  refine w_seq ?_
  refine w_region ?_
  obtain ⟨b_111, o_112, x_113, cs_114, G_115, hA_116, hbF_117, hlt_118, hx_119, hrx_120, hG_121, hl_122, hcl_123⟩ := hr_89.elem (k := 3) (fun y hy => wd_Change (ok_88.mem y hy)) (i := i) (by omega)
  obtain ⟨i_124, i_125, xs_126, A_127, n_128, c_129, F_130, rfl, rfl, rfl, bd_135, bd_136, ok_137, hr_138, ln_139⟩ := open_Change (ok_88.get hx_119) hrx_120
  refine l_op wn (o_val (x_index' (i := i) Try.underlying42 Try.sizeOf85 (et (v := (Value.slice A_77 n_78 c_79)) hs_103) hA_116 (et (v := (Value.int .i64 (i : Int))) hs_105) (by omega) (by omega)) ?_)
  refine l_op wn (o_val (x_loadN (cs := [(Value.int .i64 i_124), (Value.int .i64 i_125), (Value.slice A_127 n_128 c_129)]) Try.isAgg85 Try.sizeOf85 (et (v := (Value.pointer (some ⟨b_111, o_112 + i * 3, none⟩))) rfl) rfl ((hl_122.keep (hB_99.block _ hlt_118)))) ?_)
  refine l_op wn (o_new (x_alloc (cs := [(Value.int .i64 0), (Value.int .i64 0), (Value.slice none 0 0)]) Try.zeroValue85) ?_)
  intro w_140 z_141 k_142 bx_143
  have hB_144 := below_next hB_99 k_142 (by omega)
  have bx_145 := bx_107.below k_142
  refine l_op wn (o_storeN (vs := [(Value.int .i64 i_124), (Value.int .i64 i_125), (Value.slice A_127 n_128 c_129)]) Try.sizeOf85 (et (v := (Value.pointer (some ⟨w_97.heap.size, 0, none⟩))) rfl) (et (v := (Value.agg #[(Value.int .i64 i_124), (Value.int .i64 i_125), (Value.slice A_127 n_128 c_129)])) rfl) rfl (by simp [one]) bx_143 (by simp) ?_)
  intro w_146 of_147 bx_148
  have bx_149 : Blk w_146 w_97.heap.size 85 [(Value.int .i64 i_124), (Value.int .i64 i_125), (Value.slice A_127 n_128 c_129)] := bx_148
  have hB_150 := below_off hB_144 of_147 (by omega)
  have z_151 := of_147.size
  have bx_152 := bx_145.off of_147 (by omega)
  refine l_nil ?_
  refine w_seq ?_
  refine w_region ?_
  refine l_op wn (o_val (x_field (k := 0) (j := 1) Try.underlying85 rfl Try.sizeOf3 rfl (et (v := (Value.pointer (some ⟨w_97.heap.size, 0, none⟩))) rfl)) ?_)
  refine l_op wn (o_val (x_load (v := (Value.int .i64 i_125)) Try.isAgg3 (et (v := (Value.pointer (some ⟨w_97.heap.size, 1, none⟩))) rfl) ((bx_149.cell 1).trans rfl)) ?_)
  refine l_op wn (o_val (x_move (et (v := (Value.int .i64 by_)) hs_101)) ?_)
  by_cases h_153 : i_125 = by_
  rotate_left
  · refine l_op wn (o_val (x_eql (r := false) (et (v := (Value.int .i64 i_125)) rfl) (et (v := (Value.int .i64 by_)) rfl) (dec_f h_153)) ?_)
    refine l_nil ?_
    refine w_if_f (et (v := (Value.bool false)) rfl) ?_
    refine w_skip ?_
    refine w_region ?_
    refine l_op wn (o_val (x_add (et (v := (Value.int .i64 (i : Int))) hs_105) ec (by omega)) ?_)
    refine l_op wn (o_val (x_move (et (v := (Value.int .i64 ((i : Int) + 1))) rfl)) ?_)
    refine l_nil ?_
    have cs1 := cnt_hit (b := by_) hx_119
    have cl1 := cnt_le xs_76 by_
    have hh : hitN (.agg [.int i_124, .int i_125, .list xs_126]) by_ = 0 := if_neg (show ¬ i_125 = by_ by assumption)
    exact ⟨n_78 - (i + 1), by omega, ⟨i + 1, k, hs_100, hs_101, hs_102, hs_103, hs_104, vint (a := ((i : Int) + 1)) (by omega), hs_106, hB_150, bx_152, (by omega), (by omega), rfl⟩⟩
  refine l_op wn (o_val (x_eql (r := true) (et (v := (Value.int .i64 i_125)) rfl) (et (v := (Value.int .i64 by_)) rfl) (dec_t h_153)) ?_)
  refine l_nil ?_
  refine w_if_t (et (v := (Value.bool true)) rfl) ?_
  refine w_region ?_
  refine l_op wn (o_val (x_move (et (v := (Value.int .i64 (k : Int))) hs_106)) ?_)
  refine l_op wn (o_val (x_add (et (v := (Value.int .i64 (k : Int))) rfl) ec (by omega)) ?_)
  refine l_op wn (o_val (x_assign (et (v := (Value.int .i64 ((k : Int) + 1))) rfl)) ?_)
  refine l_nil ?_
  refine w_region ?_
  refine l_op wn (o_val (x_add (et (v := (Value.int .i64 (i : Int))) hs_105) ec (by omega)) ?_)
  refine l_op wn (o_val (x_move (et (v := (Value.int .i64 ((i : Int) + 1))) rfl)) ?_)
  refine l_nil ?_
  have cs1 := cnt_hit (b := by_) hx_119
  have cl1 := cnt_le xs_76 by_
  have hh : hitN (.agg [.int i_124, .int i_125, .list xs_126]) by_ = 1 := if_pos (show i_125 = by_ by assumption)
  exact ⟨n_78 - (i + 1), by omega, ⟨i + 1, k + 1, hs_100, hs_101, hs_102, hs_103, hs_104, vint (a := ((i : Int) + 1)) (by omega), vint (a := ((k : Int) + 1)) (by omega), hB_150, bx_152, (by omega), (by omega), rfl⟩⟩

set_option maxHeartbeats 800000 in
theorem sMayWork_c (w : World) (x : V) (cs : List Value) (F : List Nat) (ok : Ok x tStore) (hr : Rep w x cs F) (sn : Int) (hsn : -9223372036854775808 ≤ sn ∧ sn ≤ 9223372036854775807) : Calls Try.prog 35 #[.agg cs.toArray, .int .i64 sn] w (RetB w (1 ≤ sn ∧ (ownerOf x = 0 ∨ ownerOf x = sn))) := by
  obtain ⟨xs_154, A_155, n_156, c_157, F_158, xs_160, A_161, n_162, c_163, F_164, xs_166, A_167, n_168, c_169, F_170, i_172, xs_173, A_174, n_175, c_176, F_177, q_179, i_180, i_181, s_182, xs_183, A_184, n_185, c_186, F_187, rfl, rfl, rfl, ok_192, hr_193, ln_194, ok_195, hr_196, ln_197, ok_198, hr_199, ln_200, bd_201, ok_202, hr_203, ln_204, bd_205, bd_206, bd_207, ok_208, hr_209, ln_210⟩ := open_Store ok hr
  have hB0 := Below.refl w.heap.size w
  refine enter (N := 18) Try.func35 rfl Try.ntmps35 rfl ?_
  refine w_seq ?_
  refine w_region ?_
  refine l_op wn (o_new (x_box (cs := [(Value.slice A_155 n_156 c_157), (Value.slice A_161 n_162 c_163), (Value.slice A_167 n_168 c_169), (Value.int .i64 i_172), (Value.slice A_174 n_175 c_176), (Value.bool q_179), (Value.int .i64 i_180), (Value.int .i64 i_181), (Value.string s_182), (Value.slice A_184 n_185 c_186)]) (et (v := (Value.agg #[(Value.slice A_155 n_156 c_157), (Value.slice A_161 n_162 c_163), (Value.slice A_167 n_168 c_169), (Value.int .i64 i_172), (Value.slice A_174 n_175 c_176), (Value.bool q_179), (Value.int .i64 i_180), (Value.int .i64 i_181), (Value.string s_182), (Value.slice A_184 n_185 c_186)])) rfl)) ?_)
  intro w_211 z_212 k_213 bx_214
  have hB_215 := below_next hB0 k_213 (by omega)
  refine l_op wn (o_val (x_assign ec) ?_)
  refine l_nil ?_
  refine w_seq ?_
  refine w_region ?_
  refine l_op wn (o_val (x_move (et (v := (Value.int .i64 sn)) rfl)) ?_)
  by_cases h_216 : 1 ≤ sn
  rotate_left
  · refine l_op wn (o_val (x_geq (r := false) (et (v := (Value.int .i64 sn)) rfl) ec (dec_f h_216)) ?_)
    refine l_op wn (o_val (x_move (et (v := (Value.bool false)) rfl)) ?_)
    refine l_pass (wx rfl) ?_
    refine l_pass (wx rfl) ?_
    refine l_pass (wx rfl) ?_
    refine l_pass (wx rfl) ?_
    refine l_pass (wu rfl) ?_
    refine l_pass (wu rfl) ?_
    refine l_pass (wu rfl) ?_
    refine l_pass (wu rfl) ?_
    refine l_pass (wx rfl) ?_
    refine l_op wn (o_val (x_pick_f (et (v := (Value.bool false)) rfl) ec) ?_)
    refine l_op wn (o_val (x_assign (et (v := (Value.bool false)) rfl)) ?_)
    refine l_nil ?_
    refine w_ret ?_
    exact ⟨_, r_tmp (v := (Value.bool false)) Try.results35 rfl, _, rfl, iff_f (by simp only [ownerOf]; omega), hB_215⟩
  refine l_op wn (o_val (x_geq (r := true) (et (v := (Value.int .i64 sn)) rfl) ec (dec_t h_216)) ?_)
  refine l_op wn (o_val (x_move (et (v := (Value.bool true)) rfl)) ?_)
  refine l_op (wy rfl) (o_val (x_field (k := 0) (j := 3) Try.underlying68 rfl Try.sizeOf3 rfl (et (v := (Value.pointer (some ⟨w.heap.size, 0, none⟩))) rfl)) ?_)
  refine l_op (wy rfl) (o_val (x_load (v := (Value.int .i64 i_172)) Try.isAgg3 (et (v := (Value.pointer (some ⟨w.heap.size, 3, none⟩))) rfl) ((bx_214.cell 3).trans rfl)) ?_)
  by_cases h_217 : i_172 = 0
  · refine l_op (wy rfl) (o_val (x_eql (r := true) (et (v := (Value.int .i64 i_172)) rfl) ec (dec_t h_217)) ?_)
    refine l_op (wy rfl) (o_val (x_move (et (v := (Value.bool true)) rfl)) ?_)
    refine l_pass (wx rfl) ?_
    refine l_pass (wx rfl) ?_
    refine l_pass (wx rfl) ?_
    refine l_pass (wx rfl) ?_
    refine l_op (wy rfl) (o_val (x_pick_t (et (v := (Value.bool true)) rfl) ec) ?_)
    refine l_op wn (o_val (x_pick_t (et (v := (Value.bool true)) rfl) (et (v := (Value.bool true)) rfl)) ?_)
    refine l_op wn (o_val (x_assign (et (v := (Value.bool true)) rfl)) ?_)
    refine l_nil ?_
    refine w_ret ?_
    exact ⟨_, r_tmp (v := (Value.bool true)) Try.results35 rfl, _, rfl, iff_t (by simp only [ownerOf]; omega), hB_215⟩
  refine l_op (wy rfl) (o_val (x_eql (r := false) (et (v := (Value.int .i64 i_172)) rfl) ec (dec_f h_217)) ?_)
  refine l_op (wy rfl) (o_val (x_move (et (v := (Value.bool false)) rfl)) ?_)
  refine l_op (wy rfl) (o_val (x_field (k := 0) (j := 3) Try.underlying68 rfl Try.sizeOf3 rfl (et (v := (Value.pointer (some ⟨w.heap.size, 0, none⟩))) rfl)) ?_)
  refine l_op (wy rfl) (o_val (x_load (v := (Value.int .i64 i_172)) Try.isAgg3 (et (v := (Value.pointer (some ⟨w.heap.size, 3, none⟩))) rfl) ((bx_214.cell 3).trans rfl)) ?_)
  refine l_op (wy rfl) (o_val (x_move (et (v := (Value.int .i64 sn)) rfl)) ?_)
  by_cases h_218 : i_172 = sn
  rotate_left
  · refine l_op (wy rfl) (o_val (x_eql (r := false) (et (v := (Value.int .i64 i_172)) rfl) (et (v := (Value.int .i64 sn)) rfl) (dec_f h_218)) ?_)
    refine l_op (wy rfl) (o_val (x_pick_f (et (v := (Value.bool false)) rfl) (et (v := (Value.bool false)) rfl)) ?_)
    refine l_op wn (o_val (x_pick_t (et (v := (Value.bool true)) rfl) (et (v := (Value.bool false)) rfl)) ?_)
    refine l_op wn (o_val (x_assign (et (v := (Value.bool false)) rfl)) ?_)
    refine l_nil ?_
    refine w_ret ?_
    exact ⟨_, r_tmp (v := (Value.bool false)) Try.results35 rfl, _, rfl, iff_f (by simp only [ownerOf]; omega), hB_215⟩
  refine l_op (wy rfl) (o_val (x_eql (r := true) (et (v := (Value.int .i64 i_172)) rfl) (et (v := (Value.int .i64 sn)) rfl) (dec_t h_218)) ?_)
  refine l_op (wy rfl) (o_val (x_pick_f (et (v := (Value.bool false)) rfl) (et (v := (Value.bool true)) rfl)) ?_)
  refine l_op wn (o_val (x_pick_t (et (v := (Value.bool true)) rfl) (et (v := (Value.bool true)) rfl)) ?_)
  refine l_op wn (o_val (x_assign (et (v := (Value.bool true)) rfl)) ?_)
  refine l_nil ?_
  refine w_ret ?_
  exact ⟨_, r_tmp (v := (Value.bool true)) Try.results35 rfl, _, rfl, iff_t (by simp only [ownerOf]; omega), hB_215⟩

set_option maxHeartbeats 800000 in
theorem mayWork_c (w : World) (x : V) (cs : List Value) (F : List Nat) (ok : Ok x tStore) (hr : Rep w x cs F) (sn : Int) (hsn : -9223372036854775808 ≤ sn ∧ sn ≤ 9223372036854775807) : Calls Try.prog 37 #[.agg cs.toArray, .int .i64 sn] w (RetB w (1 ≤ sn ∧ (ownerOf x = 0 ∨ ownerOf x = sn))) := by
  obtain ⟨xs_219, A_220, n_221, c_222, F_223, xs_225, A_226, n_227, c_228, F_229, xs_231, A_232, n_233, c_234, F_235, i_237, xs_238, A_239, n_240, c_241, F_242, q_244, i_245, i_246, s_247, xs_248, A_249, n_250, c_251, F_252, rfl, rfl, rfl, ok_257, hr_258, ln_259, ok_260, hr_261, ln_262, ok_263, hr_264, ln_265, bd_266, ok_267, hr_268, ln_269, bd_270, bd_271, bd_272, ok_273, hr_274, ln_275⟩ := open_Store ok hr
  have hB0 := Below.refl w.heap.size w
  refine enter (N := 18) Try.func37 rfl Try.ntmps37 rfl ?_
  refine w_seq ?_
  refine w_region ?_
  refine l_op wn (o_new (x_box (cs := [(Value.slice A_220 n_221 c_222), (Value.slice A_226 n_227 c_228), (Value.slice A_232 n_233 c_234), (Value.int .i64 i_237), (Value.slice A_239 n_240 c_241), (Value.bool q_244), (Value.int .i64 i_245), (Value.int .i64 i_246), (Value.string s_247), (Value.slice A_249 n_250 c_251)]) (et (v := (Value.agg #[(Value.slice A_220 n_221 c_222), (Value.slice A_226 n_227 c_228), (Value.slice A_232 n_233 c_234), (Value.int .i64 i_237), (Value.slice A_239 n_240 c_241), (Value.bool q_244), (Value.int .i64 i_245), (Value.int .i64 i_246), (Value.string s_247), (Value.slice A_249 n_250 c_251)])) rfl)) ?_)
  intro w_276 z_277 k_278 bx_279
  have hB_280 := below_next hB0 k_278 (by omega)
  refine l_op wn (o_val (x_assign ec) ?_)
  refine l_nil ?_
  refine w_seq ?_
  refine w_region ?_
  refine l_op wn (o_val (x_move (et (v := (Value.int .i64 sn)) rfl)) ?_)
  by_cases h_281 : 1 ≤ sn
  rotate_left
  · refine l_op wn (o_val (x_geq (r := false) (et (v := (Value.int .i64 sn)) rfl) ec (dec_f h_281)) ?_)
    refine l_op wn (o_val (x_move (et (v := (Value.bool false)) rfl)) ?_)
    refine l_pass (wx rfl) ?_
    refine l_pass (wx rfl) ?_
    refine l_pass (wx rfl) ?_
    refine l_pass (wx rfl) ?_
    refine l_pass (wu rfl) ?_
    refine l_pass (wu rfl) ?_
    refine l_pass (wu rfl) ?_
    refine l_pass (wu rfl) ?_
    refine l_pass (wx rfl) ?_
    refine l_op wn (o_val (x_pick_f (et (v := (Value.bool false)) rfl) ec) ?_)
    refine l_op wn (o_val (x_assign (et (v := (Value.bool false)) rfl)) ?_)
    refine l_nil ?_
    refine w_ret ?_
    exact ⟨_, r_tmp (v := (Value.bool false)) Try.results37 rfl, _, rfl, iff_f (by simp only [ownerOf]; omega), hB_280⟩
  refine l_op wn (o_val (x_geq (r := true) (et (v := (Value.int .i64 sn)) rfl) ec (dec_t h_281)) ?_)
  refine l_op wn (o_val (x_move (et (v := (Value.bool true)) rfl)) ?_)
  refine l_op (wy rfl) (o_val (x_field (k := 0) (j := 3) Try.underlying68 rfl Try.sizeOf3 rfl (et (v := (Value.pointer (some ⟨w.heap.size, 0, none⟩))) rfl)) ?_)
  refine l_op (wy rfl) (o_val (x_load (v := (Value.int .i64 i_237)) Try.isAgg3 (et (v := (Value.pointer (some ⟨w.heap.size, 3, none⟩))) rfl) ((bx_279.cell 3).trans rfl)) ?_)
  by_cases h_282 : i_237 = 0
  · refine l_op (wy rfl) (o_val (x_eql (r := true) (et (v := (Value.int .i64 i_237)) rfl) ec (dec_t h_282)) ?_)
    refine l_op (wy rfl) (o_val (x_move (et (v := (Value.bool true)) rfl)) ?_)
    refine l_pass (wx rfl) ?_
    refine l_pass (wx rfl) ?_
    refine l_pass (wx rfl) ?_
    refine l_pass (wx rfl) ?_
    refine l_op (wy rfl) (o_val (x_pick_t (et (v := (Value.bool true)) rfl) ec) ?_)
    refine l_op wn (o_val (x_pick_t (et (v := (Value.bool true)) rfl) (et (v := (Value.bool true)) rfl)) ?_)
    refine l_op wn (o_val (x_assign (et (v := (Value.bool true)) rfl)) ?_)
    refine l_nil ?_
    refine w_ret ?_
    exact ⟨_, r_tmp (v := (Value.bool true)) Try.results37 rfl, _, rfl, iff_t (by simp only [ownerOf]; omega), hB_280⟩
  refine l_op (wy rfl) (o_val (x_eql (r := false) (et (v := (Value.int .i64 i_237)) rfl) ec (dec_f h_282)) ?_)
  refine l_op (wy rfl) (o_val (x_move (et (v := (Value.bool false)) rfl)) ?_)
  refine l_op (wy rfl) (o_val (x_field (k := 0) (j := 3) Try.underlying68 rfl Try.sizeOf3 rfl (et (v := (Value.pointer (some ⟨w.heap.size, 0, none⟩))) rfl)) ?_)
  refine l_op (wy rfl) (o_val (x_load (v := (Value.int .i64 i_237)) Try.isAgg3 (et (v := (Value.pointer (some ⟨w.heap.size, 3, none⟩))) rfl) ((bx_279.cell 3).trans rfl)) ?_)
  refine l_op (wy rfl) (o_val (x_move (et (v := (Value.int .i64 sn)) rfl)) ?_)
  by_cases h_283 : i_237 = sn
  rotate_left
  · refine l_op (wy rfl) (o_val (x_eql (r := false) (et (v := (Value.int .i64 i_237)) rfl) (et (v := (Value.int .i64 sn)) rfl) (dec_f h_283)) ?_)
    refine l_op (wy rfl) (o_val (x_pick_f (et (v := (Value.bool false)) rfl) (et (v := (Value.bool false)) rfl)) ?_)
    refine l_op wn (o_val (x_pick_t (et (v := (Value.bool true)) rfl) (et (v := (Value.bool false)) rfl)) ?_)
    refine l_op wn (o_val (x_assign (et (v := (Value.bool false)) rfl)) ?_)
    refine l_nil ?_
    refine w_ret ?_
    exact ⟨_, r_tmp (v := (Value.bool false)) Try.results37 rfl, _, rfl, iff_f (by simp only [ownerOf]; omega), hB_280⟩
  refine l_op (wy rfl) (o_val (x_eql (r := true) (et (v := (Value.int .i64 i_237)) rfl) (et (v := (Value.int .i64 sn)) rfl) (dec_t h_283)) ?_)
  refine l_op (wy rfl) (o_val (x_pick_f (et (v := (Value.bool false)) rfl) (et (v := (Value.bool true)) rfl)) ?_)
  refine l_op wn (o_val (x_pick_t (et (v := (Value.bool true)) rfl) (et (v := (Value.bool true)) rfl)) ?_)
  refine l_op wn (o_val (x_assign (et (v := (Value.bool true)) rfl)) ?_)
  refine l_nil ?_
  refine w_ret ?_
  exact ⟨_, r_tmp (v := (Value.bool true)) Try.results37 rfl, _, rfl, iff_t (by simp only [ownerOf]; omega), hB_280⟩


end Go.Proofs.Ytilohpakglpdcaa
