/-
  The laws hold two equal data to be equal. Printed by a program of our own.
-/
import Derived.Test.YtilohpakglpdcaaSz
import Derived.Test.YtilohpakglpdcaaProg
namespace Go.Proofs.Ytilohpakglpdcaa
open Go.RowKit
set_option linter.unusedVariables false
set_option maxRecDepth 100000

set_option maxHeartbeats 200000 in
theorem eq_StrS (w : World) (xs : List V) (A : Option Addr) (n c : Nat) (F : List Nat) (A' : Option Addr) (n' c' : Nat) (F' : List Nat) (ok : Oks xs tStr) (hr : Rep w (.list xs) [.slice A n c] F) (hr' : Rep w (.list xs) [.slice A' n' c'] F') : Calls Try.prog 18 #[.slice A n c, .slice A' n' c'] w (Rets w (.bool true)) := by
  have hB0 := Below.refl w.heap.size w
  obtain ⟨ln, lc, lm⟩ := hr.len
  obtain ⟨ln', lc', lm'⟩ := hr'.len
  refine enter (N := 26) Try.func18 rfl Try.ntmps18 rfl ?_
  refine w_seq ?_
  refine w_region ?_
  refine l_op wn (o_val (x_assign ec) ?_)
  refine l_nil ?_
  refine w_seq ?_
  refine w_seq ?_
  refine w_region ?_
  refine l_op wn (o_val (x_move (et (v := (Value.slice A n c)) rfl)) ?_)
  refine l_op wn (o_val (x_len Try.underlying29 (et (v := (Value.slice A n c)) rfl)) ?_)
  refine l_op wn (o_val (x_move (et (v := (Value.slice A' n' c')) rfl)) ?_)
  refine l_op wn (o_val (x_len Try.underlying29 (et (v := (Value.slice A' n' c')) rfl)) ?_)
  have h_3891 : (n : Int) = (n' : Int) := by omega
  refine l_op wn (o_val (x_neq (r := false) (et (v := (Value.int .i64 (n : Int))) rfl) (et (v := (Value.int .i64 (n' : Int))) rfl) (dec_t h_3891)) ?_)
  refine l_nil ?_
  refine w_if_f (et (v := (Value.bool false)) rfl) ?_
  refine w_skip ?_
  refine w_seq ?_
  refine w_seq ?_
  refine w_region ?_
  refine l_op wn (o_val (x_assign ec) ?_)
  refine l_nil ?_
  refine w_block ?_
  refine w_loop (fun μ f w' => ∃ (i : Nat), f 0 = (Value.slice A n c) ∧ f 1 = (Value.slice A' n' c') ∧ f 5 = (Value.int .i64 (i : Int)) ∧ Below w.heap.size w w' ∧ (i ≤ n) ∧ μ = n - i) (n - 0) ?_ ?_
  · exact ⟨0, rfl, rfl, vint (a := 0) (by omega), hB0, (by omega), rfl⟩
  rintro m_3894 f_3892 w_3893 ⟨i, hs_3896, hs_3897, hs_3898, hB_3895, hi, rfl⟩
  have z_3899 := hB_3895.size
  refine w_seq ?_
  refine w_seq ?_
  refine w_region ?_
  refine l_op wn (o_val (x_move (et (v := (Value.int .i64 (i : Int))) hs_3898)) ?_)
  refine l_op wn (o_val (x_move (et (v := (Value.slice A n c)) hs_3896)) ?_)
  refine l_op wn (o_val (x_len Try.underlying29 (et (v := (Value.slice A n c)) rfl)) ?_)
  by_cases h_3900 : (i : Int) < (n : Int)
  rotate_left
  · refine l_op wn (o_val (x_lss (r := false) (et (v := (Value.int .i64 (i : Int))) rfl) (et (v := (Value.int .i64 (n : Int))) rfl) (dec_f h_3900)) ?_)
    refine l_nil ?_
    refine w_if_f (et (v := (Value.bool false)) rfl) ?_
    refine w_exit ?_
    refine Eq.mpr (if_pos rfl) ?_
    refine w_seq ?_
    refine w_region ?_
    refine l_op wn (o_val (x_assign ec) ?_)
    refine l_nil ?_
    refine w_ret ?_
    exact ⟨_, r_tmp (v := (Value.bool true)) Try.results18 rfl, rfl, hB_3895⟩
  refine l_op wn (o_val (x_lss (r := true) (et (v := (Value.int .i64 (i : Int))) rfl) (et (v := (Value.int .i64 (n : Int))) rfl) (dec_t h_3900)) ?_)
  refine l_nil ?_
  refine w_if_t (et (v := (Value.bool true)) rfl) ?_
  refine w_skip ?_
  refine w_seq ?_
  refine w_block ?_
  refine w_seq ?_
  obtain ⟨b_3902, o_3903, x_3904, cs_3905, G_3906, hA_3907, hbF_3908, hlt_3909, hx_3910, hrx_3911, hG_3912, hl_3913, hcl_3914⟩ := hr.elem (k := 1) (fun y hy => wd_str (ok.mem y hy)) (i := i) (by omega)
  obtain ⟨s_3915, rfl, rfl, rfl, bd_3919⟩ := open_str (ok.get hx_3910) hrx_3911
  obtain ⟨b_3920, o_3921, cs_3922, G_3923, hA_3924, hbF_3925, hlt_3926, hrx_3927, hG_3928, hl_3929, hcl_3930⟩ := hr'.elemx (k := 1) (fun y hy => wd_str (ok.mem y hy)) hx_3910
  obtain rfl := cellr_str hrx_3927
  have hS_3931 := Sm.start [b_3902, b_3920] w_3893
  refine w_draw (Sm [b_3902, b_3920] w_3893) [(0, true), (1, true), (2, true), (3, true), (4, true), (5, true), (6, true), (7, true), (8, true)] (by kernel_rfl) (by kernel_rfl) rfl (by kernel_rfl) ?_
  have hB_3932 := hB_3895.drew
  have z_3933 : w_3893.drew.heap.size = w_3893.heap.size := rfl
  refine d_q rfl rfl wn (fun w' hS' => (x_move (et (v := (Value.slice A n c)) hs_3896))) hS_3931 ?_
  refine d_q rfl rfl wn (fun w' hS' => (x_move (et (v := (Value.int .i64 (i : Int))) hs_3898))) hS_3931 ?_
  refine d_q rfl rfl wn (fun w' hS' => (x_index' (i := i) Try.underlying29 Try.sizeOf9 (et (v := (Value.slice A n c)) rfl) hA_3907 (et (v := (Value.int .i64 (i : Int))) rfl) (by omega) (by omega))) hS_3931 ?_
  refine d_q rfl rfl wn (fun w' hS' => (x_load (v := (Value.string s_3915)) Try.isAgg9 (et (v := (Value.pointer (some ⟨b_3902, o_3903 + i * 1, none⟩))) rfl) (((hl_3913.keep (hB_3895.block _ hlt_3909)).keep (hS' _ (by simp))) 0 _ rfl))) hS_3931 ?_
  refine d_q rfl rfl wn (fun w' hS' => (x_move (et (v := (Value.slice A' n' c')) hs_3897))) hS_3931 ?_
  refine d_q rfl rfl wn (fun w' hS' => (x_move (et (v := (Value.int .i64 (i : Int))) hs_3898))) hS_3931 ?_
  refine d_q rfl rfl wn (fun w' hS' => (x_index' (i := i) Try.underlying29 Try.sizeOf9 (et (v := (Value.slice A' n' c')) rfl) hA_3924 (et (v := (Value.int .i64 (i : Int))) rfl) (by omega) (by omega))) hS_3931 ?_
  refine d_q rfl rfl wn (fun w' hS' => (x_load (v := (Value.string s_3915)) Try.isAgg9 (et (v := (Value.pointer (some ⟨b_3920, o_3921 + i * 1, none⟩))) rfl) (((hl_3929.keep (hB_3895.block _ hlt_3926)).keep (hS' _ (by simp))) 0 _ rfl))) hS_3931 ?_
  have h_3934 : s_3915 = s_3915 := rfl
  refine d_q rfl rfl wn (fun w' hS' => x_sneq (r := false) (et (v := (Value.string s_3915)) rfl) (et (v := (Value.string s_3915)) rfl) (dec_t h_3934)) hS_3931 ?_
  refine d_nil ?_
  refine w_if_f (et (v := (Value.bool false)) rfl) ?_
  refine w_skip ?_
  refine w_region ?_
  refine l_op wn (o_val (x_move (et (v := (Value.int .i64 (i : Int))) hs_3898)) ?_)
  refine l_op wn (o_val (x_add (et (v := (Value.int .i64 (i : Int))) rfl) ec (by omega)) ?_)
  refine l_op wn (o_val (x_assign (et (v := (Value.int .i64 ((i : Int) + 1))) rfl)) ?_)
  refine l_nil ?_
  exact ⟨n - (i + 1), by omega, ⟨i + 1, hs_3896, hs_3897, vint (a := ((i : Int) + 1)) (by omega), hB_3932, (by omega), rfl⟩⟩

set_option maxHeartbeats 200000 in
theorem eq_Rule (w : World) (x : V) (cs : List Value) (F : List Nat) (cs' : List Value) (F' : List Nat) (ok : Ok x tRule) (hr : Rep w x cs F) (hr' : Rep w x cs' F') : Calls Try.prog 45 #[.agg cs.toArray, .agg cs'.toArray] w (Rets w (.bool true)) := by
  obtain ⟨s_3935, xs_3936, A_3937, n_3938, c_3939, F_3940, i_3942, q_3943, rfl, rfl, rfl, bd_3947, ok_3948, hr_3949, ln_3950, bd_3951⟩ := open_Rule ok hr
  obtain ⟨A_3952, n_3953, c_3954, F_3955, rfl, hr_3957, ln_3958⟩ := cellr_Rule hr'
  have hB0 := Below.refl w.heap.size w
  refine enter (N := 26) Try.func45 rfl Try.ntmps45 rfl ?_
  refine w_seq ?_
  refine w_region ?_
  refine l_op wn (o_new (x_box (cs := [(Value.string s_3935), (Value.slice A_3937 n_3938 c_3939), (Value.int .i64 i_3942), (Value.bool q_3943)]) (et (v := (Value.agg #[(Value.string s_3935), (Value.slice A_3937 n_3938 c_3939), (Value.int .i64 i_3942), (Value.bool q_3943)])) rfl)) ?_)
  intro w_3959 z_3960 k_3961 bx_3962
  have hB_3963 := below_next hB0 k_3961 (by omega)
  refine l_op wn (o_new (x_box (cs := [(Value.string s_3935), (Value.slice A_3952 n_3953 c_3954), (Value.int .i64 i_3942), (Value.bool q_3943)]) (et (v := (Value.agg #[(Value.string s_3935), (Value.slice A_3952 n_3953 c_3954), (Value.int .i64 i_3942), (Value.bool q_3943)])) rfl)) ?_)
  intro w_3964 z_3965 k_3966 bx_3967
  have hB_3968 := below_next hB_3963 k_3966 (by omega)
  have bx_3969 := bx_3962.below k_3966
  refine l_op wn (o_val (x_assign ec) ?_)
  refine l_nil ?_
  refine w_seq ?_
  refine w_seq ?_
  refine w_region ?_
  refine l_op wn (o_val (x_field (k := 0) (j := 0) Try.underlying75 rfl Try.sizeOf9 rfl (et (v := (Value.pointer (some ⟨w.heap.size, 0, none⟩))) rfl)) ?_)
  refine l_op wn (o_val (x_load (v := (Value.string s_3935)) Try.isAgg9 (et (v := (Value.pointer (some ⟨w.heap.size, 0, none⟩))) rfl) ((bx_3969.cell 0).trans rfl)) ?_)
  refine l_op wn (o_val (x_field (k := 0) (j := 0) Try.underlying75 rfl Try.sizeOf9 rfl (et (v := (Value.pointer (some ⟨w_3959.heap.size, 0, none⟩))) rfl)) ?_)
  refine l_op wn (o_val (x_load (v := (Value.string s_3935)) Try.isAgg9 (et (v := (Value.pointer (some ⟨w_3959.heap.size, 0, none⟩))) rfl) ((bx_3967.cell 0).trans rfl)) ?_)
  have h_3970 : s_3935 = s_3935 := rfl
  refine l_op wn (o_val (x_sneq (r := false) (et (v := (Value.string s_3935)) rfl) (et (v := (Value.string s_3935)) rfl) (dec_t h_3970)) ?_)
  refine l_nil ?_
  refine w_if_f (et (v := (Value.bool false)) rfl) ?_
  refine w_skip ?_
  refine w_seq ?_
  refine w_seq ?_
  refine w_region ?_
  refine l_op wn (o_val (x_field (k := 0) (j := 1) Try.underlying75 rfl Try.sizeOf29 rfl (et (v := (Value.pointer (some ⟨w.heap.size, 0, none⟩))) rfl)) ?_)
  refine l_op wn (o_val (x_load (v := (Value.slice A_3937 n_3938 c_3939)) Try.isAgg29 (et (v := (Value.pointer (some ⟨w.heap.size, 1, none⟩))) rfl) ((bx_3969.cell 1).trans rfl)) ?_)
  refine l_op wn (o_val (x_field (k := 0) (j := 1) Try.underlying75 rfl Try.sizeOf29 rfl (et (v := (Value.pointer (some ⟨w_3959.heap.size, 0, none⟩))) rfl)) ?_)
  refine l_op wn (o_val (x_load (v := (Value.slice A_3952 n_3953 c_3954)) Try.isAgg29 (et (v := (Value.pointer (some ⟨w_3959.heap.size, 1, none⟩))) rfl) ((bx_3967.cell 1).trans rfl)) ?_)
  refine l_op wn (o_call (x_call Try.call18 ef (a2 (et (v := (Value.slice A_3937 n_3938 c_3939)) rfl) (et (v := (Value.slice A_3952 n_3953 c_3954)) rfl))) (eq_StrS w_3964 xs_3936 A_3937 n_3938 c_3939 _ A_3952 n_3953 c_3954 _ ok_3948 (hr_3949.below hB_3968) (hr_3957.below hB_3968)) ?_)
  rintro _ w_3971 ⟨rfl, k_3972⟩
  refine ⟨_, rfl, ?_⟩
  have hB_3973 := below_next hB_3968 k_3972 (by omega)
  have z_3974 := k_3972.size
  have bx_3975 := bx_3969.below k_3972
  have bx_3976 := bx_3967.below k_3972
  refine l_op wn (o_val (x_not (et (v := (Value.bool true)) rfl)) ?_)
  refine l_nil ?_
  refine w_if_f (et (v := (Value.bool false)) rfl) ?_
  refine w_skip ?_
  refine w_seq ?_
  refine w_seq ?_
  refine w_region ?_
  refine l_op wn (o_val (x_field (k := 0) (j := 2) Try.underlying75 rfl Try.sizeOf3 rfl (et (v := (Value.pointer (some ⟨w.heap.size, 0, none⟩))) rfl)) ?_)
  refine l_op wn (o_val (x_load (v := (Value.int .i64 i_3942)) Try.isAgg3 (et (v := (Value.pointer (some ⟨w.heap.size, 2, none⟩))) rfl) ((bx_3975.cell 2).trans rfl)) ?_)
  refine l_op wn (o_val (x_field (k := 0) (j := 2) Try.underlying75 rfl Try.sizeOf3 rfl (et (v := (Value.pointer (some ⟨w_3959.heap.size, 0, none⟩))) rfl)) ?_)
  refine l_op wn (o_val (x_load (v := (Value.int .i64 i_3942)) Try.isAgg3 (et (v := (Value.pointer (some ⟨w_3959.heap.size, 2, none⟩))) rfl) ((bx_3976.cell 2).trans rfl)) ?_)
  have h_3977 : i_3942 = i_3942 := rfl
  refine l_op wn (o_val (x_neq (r := false) (et (v := (Value.int .i64 i_3942)) rfl) (et (v := (Value.int .i64 i_3942)) rfl) (dec_t h_3977)) ?_)
  refine l_nil ?_
  refine w_if_f (et (v := (Value.bool false)) rfl) ?_
  refine w_skip ?_
  refine w_seq ?_
  refine w_seq ?_
  refine w_region ?_
  refine l_op wn (o_val (x_field (k := 0) (j := 3) Try.underlying75 rfl Try.sizeOf4 rfl (et (v := (Value.pointer (some ⟨w.heap.size, 0, none⟩))) rfl)) ?_)
  refine l_op wn (o_val (x_load (v := (Value.bool q_3943)) Try.isAgg4 (et (v := (Value.pointer (some ⟨w.heap.size, 3, none⟩))) rfl) ((bx_3975.cell 3).trans rfl)) ?_)
  refine l_op wn (o_val (x_field (k := 0) (j := 3) Try.underlying75 rfl Try.sizeOf4 rfl (et (v := (Value.pointer (some ⟨w_3959.heap.size, 0, none⟩))) rfl)) ?_)
  refine l_op wn (o_val (x_load (v := (Value.bool q_3943)) Try.isAgg4 (et (v := (Value.pointer (some ⟨w_3959.heap.size, 3, none⟩))) rfl) ((bx_3976.cell 3).trans rfl)) ?_)
  have h_3978 : q_3943 = q_3943 := rfl
  refine l_op wn (o_val (x_bneq Try.underlying4 (r := false) (et (v := (Value.bool q_3943)) rfl) (et (v := (Value.bool q_3943)) rfl) (dec_t h_3978)) ?_)
  refine l_nil ?_
  refine w_if_f (et (v := (Value.bool false)) rfl) ?_
  refine w_skip ?_
  refine w_seq ?_
  refine w_region ?_
  refine l_op wn (o_val (x_assign ec) ?_)
  refine l_nil ?_
  refine w_ret ?_
  exact ⟨_, r_tmp (v := (Value.bool true)) Try.results45 rfl, rfl, hB_3973⟩

set_option maxHeartbeats 200000 in
theorem eq_RuleS (w : World) (xs : List V) (A : Option Addr) (n c : Nat) (F : List Nat) (A' : Option Addr) (n' c' : Nat) (F' : List Nat) (ok : Oks xs tRule) (hr : Rep w (.list xs) [.slice A n c] F) (hr' : Rep w (.list xs) [.slice A' n' c'] F') : Calls Try.prog 13 #[.slice A n c, .slice A' n' c'] w (Rets w (.bool true)) := by
  have hB0 := Below.refl w.heap.size w
  obtain ⟨ln, lc, lm⟩ := hr.len
  obtain ⟨ln', lc', lm'⟩ := hr'.len
  refine enter (N := 27) Try.func13 rfl Try.ntmps13 rfl ?_
  refine w_seq ?_
  refine w_region ?_
  refine l_op wn (o_val (x_assign ec) ?_)
  refine l_nil ?_
  refine w_seq ?_
  refine w_seq ?_
  refine w_region ?_
  refine l_op wn (o_val (x_move (et (v := (Value.slice A n c)) rfl)) ?_)
  refine l_op wn (o_val (x_len Try.underlying25 (et (v := (Value.slice A n c)) rfl)) ?_)
  refine l_op wn (o_val (x_move (et (v := (Value.slice A' n' c')) rfl)) ?_)
  refine l_op wn (o_val (x_len Try.underlying25 (et (v := (Value.slice A' n' c')) rfl)) ?_)
  have h_3979 : (n : Int) = (n' : Int) := by omega
  refine l_op wn (o_val (x_neq (r := false) (et (v := (Value.int .i64 (n : Int))) rfl) (et (v := (Value.int .i64 (n' : Int))) rfl) (dec_t h_3979)) ?_)
  refine l_nil ?_
  refine w_if_f (et (v := (Value.bool false)) rfl) ?_
  refine w_skip ?_
  refine w_seq ?_
  refine w_seq ?_
  refine w_region ?_
  refine l_op wn (o_val (x_assign ec) ?_)
  refine l_nil ?_
  refine w_block ?_
  refine w_loop (fun μ f w' => ∃ (i : Nat), f 0 = (Value.slice A n c) ∧ f 1 = (Value.slice A' n' c') ∧ f 5 = (Value.int .i64 (i : Int)) ∧ Below w.heap.size w w' ∧ (i ≤ n) ∧ μ = n - i) (n - 0) ?_ ?_
  · exact ⟨0, rfl, rfl, vint (a := 0) (by omega), hB0, (by omega), rfl⟩
  rintro m_3982 f_3980 w_3981 ⟨i, hs_3984, hs_3985, hs_3986, hB_3983, hi, rfl⟩
  have z_3987 := hB_3983.size
  refine w_seq ?_
  refine w_seq ?_
  refine w_region ?_
  refine l_op wn (o_val (x_move (et (v := (Value.int .i64 (i : Int))) hs_3986)) ?_)
  refine l_op wn (o_val (x_move (et (v := (Value.slice A n c)) hs_3984)) ?_)
  refine l_op wn (o_val (x_len Try.underlying25 (et (v := (Value.slice A n c)) rfl)) ?_)
  by_cases h_3988 : (i : Int) < (n : Int)
  rotate_left
  · refine l_op wn (o_val (x_lss (r := false) (et (v := (Value.int .i64 (i : Int))) rfl) (et (v := (Value.int .i64 (n : Int))) rfl) (dec_f h_3988)) ?_)
    refine l_nil ?_
    refine w_if_f (et (v := (Value.bool false)) rfl) ?_
    refine w_exit ?_
    refine Eq.mpr (if_pos rfl) ?_
    refine w_seq ?_
    refine w_region ?_
    refine l_op wn (o_val (x_assign ec) ?_)
    refine l_nil ?_
    refine w_ret ?_
    exact ⟨_, r_tmp (v := (Value.bool true)) Try.results13 rfl, rfl, hB_3983⟩
  refine l_op wn (o_val (x_lss (r := true) (et (v := (Value.int .i64 (i : Int))) rfl) (et (v := (Value.int .i64 (n : Int))) rfl) (dec_t h_3988)) ?_)
  refine l_nil ?_
  refine w_if_t (et (v := (Value.bool true)) rfl) ?_
  refine w_skip ?_
  refine w_seq ?_
  refine w_block ?_
  refine w_seq ?_
  obtain ⟨b_3990, o_3991, x_3992, cs_3993, G_3994, hA_3995, hbF_3996, hlt_3997, hx_3998, hrx_3999, hG_4000, hl_4001, hcl_4002⟩ := hr.elem (k := 4) (fun y hy => wd_Rule (ok.mem y hy)) (i := i) (by omega)
  obtain ⟨s_4003, xs_4004, A_4005, n_4006, c_4007, F_4008, i_4010, q_4011, rfl, rfl, rfl, bd_4015, ok_4016, hr_4017, ln_4018, bd_4019⟩ := open_Rule (ok.get hx_3998) hrx_3999
  obtain ⟨b_4020, o_4021, cs_4022, G_4023, hA_4024, hbF_4025, hlt_4026, hrx_4027, hG_4028, hl_4029, hcl_4030⟩ := hr'.elemx (k := 4) (fun y hy => wd_Rule (ok.mem y hy)) hx_3998
  obtain ⟨A_4031, n_4032, c_4033, F_4034, rfl, hr_4036, ln_4037⟩ := cellr_Rule hrx_4027
  have hS_4038 := Sm.start [b_3990, b_4020] w_3981
  refine w_draw (Sm [b_3990, b_4020] w_3981) [(0, true), (1, true), (2, true), (3, true), (4, true), (5, true), (6, true), (7, true), (8, false), (9, true)] (by kernel_rfl) (by kernel_rfl) rfl (by kernel_rfl) ?_
  have hB_4039 := hB_3983.drew
  have z_4040 : w_3981.drew.heap.size = w_3981.heap.size := rfl
  refine d_q rfl rfl wn (fun w' hS' => (x_move (et (v := (Value.slice A n c)) hs_3984))) hS_4038 ?_
  refine d_q rfl rfl wn (fun w' hS' => (x_move (et (v := (Value.int .i64 (i : Int))) hs_3986))) hS_4038 ?_
  refine d_q rfl rfl wn (fun w' hS' => (x_index' (i := i) Try.underlying25 Try.sizeOf75 (et (v := (Value.slice A n c)) rfl) hA_3995 (et (v := (Value.int .i64 (i : Int))) rfl) (by omega) (by omega))) hS_4038 ?_
  refine d_q rfl rfl wn (fun w' hS' => (x_loadN (cs := [(Value.string s_4003), (Value.slice A_4005 n_4006 c_4007), (Value.int .i64 i_4010), (Value.bool q_4011)]) Try.isAgg75 Try.sizeOf75 (et (v := (Value.pointer (some ⟨b_3990, o_3991 + i * 4, none⟩))) rfl) rfl (((hl_4001.keep (hB_3983.block _ hlt_3997)).keep (hS' _ (by simp)))))) hS_4038 ?_
  refine d_q rfl rfl wn (fun w' hS' => (x_move (et (v := (Value.slice A' n' c')) hs_3985))) hS_4038 ?_
  refine d_q rfl rfl wn (fun w' hS' => (x_move (et (v := (Value.int .i64 (i : Int))) hs_3986))) hS_4038 ?_
  refine d_q rfl rfl wn (fun w' hS' => (x_index' (i := i) Try.underlying25 Try.sizeOf75 (et (v := (Value.slice A' n' c')) rfl) hA_4024 (et (v := (Value.int .i64 (i : Int))) rfl) (by omega) (by omega))) hS_4038 ?_
  refine d_q rfl rfl wn (fun w' hS' => (x_loadN (cs := [(Value.string s_4003), (Value.slice A_4031 n_4032 c_4033), (Value.int .i64 i_4010), (Value.bool q_4011)]) Try.isAgg75 Try.sizeOf75 (et (v := (Value.pointer (some ⟨b_4020, o_4021 + i * 4, none⟩))) rfl) rfl (((hl_4029.keep (hB_3983.block _ hlt_4026)).keep (hS' _ (by simp)))))) hS_4038 ?_
  have rr_4043 := (ragg (rcons (rstr (w := w_3981.drew) (n := s_4003) bd_4015) (rcons (hr_4017.below hB_4039) (rcons (rint (w := w_3981.drew) (n := i_4010) bd_4019) (rcons (rbool (w := w_3981.drew) (n := q_4011)) (rnil (w := w_3981.drew)))))))
  have rr_4044 := (ragg (rcons (rstr (w := w_3981.drew) (n := s_4003) bd_4015) (rcons (hr_4036.below hB_4039) (rcons (rint (w := w_3981.drew) (n := i_4010) bd_4019) (rcons (rbool (w := w_3981.drew) (n := q_4011)) (rnil (w := w_3981.drew)))))))
  refine d_op rfl wn (o_call (x_call Try.call45 ef (a2 (et (v := (Value.agg #[(Value.string s_4003), (Value.slice A_4005 n_4006 c_4007), (Value.int .i64 i_4010), (Value.bool q_4011)])) rfl) (et (v := (Value.agg #[(Value.string s_4003), (Value.slice A_4031 n_4032 c_4033), (Value.int .i64 i_4010), (Value.bool q_4011)])) rfl))) (eq_Rule w_3981.drew (.agg [.str s_4003, .list xs_4004, .int i_4010, .bool q_4011]) [(Value.string s_4003), (Value.slice A_4005 n_4006 c_4007), (Value.int .i64 i_4010), (Value.bool q_4011)] _ [(Value.string s_4003), (Value.slice A_4031 n_4032 c_4033), (Value.int .i64 i_4010), (Value.bool q_4011)] _ (ok_agg rfl (okz_cons (ok_str rfl) (okz_cons (ok_list rfl ok_4016) (okz_cons (ok_int rfl) (okz_cons (ok_bool rfl) okz_nil))))) rr_4043 rr_4044) ?_)
  rintro _ w_4041 ⟨rfl, k_4042⟩
  refine ⟨_, rfl, ?_⟩
  have hB_4045 := below_next hB_4039 k_4042 (by omega)
  have z_4046 := k_4042.size
  have hS_4047 := hS_4038.next k_4042 (by simp; omega)
  refine ⟨hS_4047, ?_⟩
  refine d_q rfl rfl wn (fun w' hS' => (x_not (et (v := (Value.bool true)) rfl))) hS_4047 ?_
  refine d_nil ?_
  refine w_if_f (et (v := (Value.bool false)) rfl) ?_
  refine w_skip ?_
  refine w_region ?_
  refine l_op wn (o_val (x_move (et (v := (Value.int .i64 (i : Int))) hs_3986)) ?_)
  refine l_op wn (o_val (x_add (et (v := (Value.int .i64 (i : Int))) rfl) ec (by omega)) ?_)
  refine l_op wn (o_val (x_assign (et (v := (Value.int .i64 ((i : Int) + 1))) rfl)) ?_)
  refine l_nil ?_
  exact ⟨n - (i + 1), by omega, ⟨i + 1, hs_3984, hs_3985, vint (a := ((i : Int) + 1)) (by omega), hB_4045, (by omega), rfl⟩⟩

def Eq_NodeS (k : Nat) : Prop := ∀ (w : World) (xs : List V) (A : Option Addr) (n c : Nat) (F : List Nat) (A' : Option Addr) (n' c' : Nat) (F' : List Nat) (ok : Oks xs tNode) (hr : Rep w (.list xs) [.slice A n c] F) (hr' : Rep w (.list xs) [.slice A' n' c'] F') (hc : V.cnts xs ≤ k), Calls Try.prog 28 #[.slice A n c, .slice A' n' c'] w (Rets w (.bool true))
def Eq_Node (k : Nat) : Prop := ∀ (w : World) (x : V) (cs : List Value) (F : List Nat) (cs' : List Value) (F' : List Nat) (ok : Ok x tNode) (hr : Rep w x cs F) (hr' : Rep w x cs' F') (hc : V.cnt x ≤ k), Calls Try.prog 57 #[.agg cs.toArray, .agg cs'.toArray] w (Rets w (.bool true))
set_option maxHeartbeats 200000 in
theorem eq_Node_of (k : Nat) (ih : Eq_NodeS k) : Eq_Node (k + 1) := by
  intro w x cs F cs' F' ok hr hr' hc
  obtain ⟨s_4048, s_4049, xs_4050, A_4051, n_4052, c_4053, F_4054, rfl, rfl, rfl, bd_4059, bd_4060, ok_4061, hr_4062, ln_4063⟩ := open_Node ok hr
  obtain ⟨A_4064, n_4065, c_4066, F_4067, rfl, hr_4069, ln_4070⟩ := cellr_Node hr'
  have hck : V.cnts xs_4050 < V.cnt (.agg [.str s_4048, .str s_4049, .list xs_4050]) := by simp only [V.cnt, V.cnts]; omega
  have hB0 := Below.refl w.heap.size w
  refine enter (N := 21) Try.func57 rfl Try.ntmps57 rfl ?_
  refine w_seq ?_
  refine w_region ?_
  refine l_op wn (o_new (x_box (cs := [(Value.string s_4048), (Value.string s_4049), (Value.slice A_4051 n_4052 c_4053)]) (et (v := (Value.agg #[(Value.string s_4048), (Value.string s_4049), (Value.slice A_4051 n_4052 c_4053)])) rfl)) ?_)
  intro w_4071 z_4072 k_4073 bx_4074
  have hB_4075 := below_next hB0 k_4073 (by omega)
  refine l_op wn (o_new (x_box (cs := [(Value.string s_4048), (Value.string s_4049), (Value.slice A_4064 n_4065 c_4066)]) (et (v := (Value.agg #[(Value.string s_4048), (Value.string s_4049), (Value.slice A_4064 n_4065 c_4066)])) rfl)) ?_)
  intro w_4076 z_4077 k_4078 bx_4079
  have hB_4080 := below_next hB_4075 k_4078 (by omega)
  have bx_4081 := bx_4074.below k_4078
  refine l_op wn (o_val (x_assign ec) ?_)
  refine l_nil ?_
  refine w_seq ?_
  refine w_seq ?_
  refine w_region ?_
  refine l_op wn (o_val (x_field (k := 0) (j := 0) Try.underlying93 rfl Try.sizeOf9 rfl (et (v := (Value.pointer (some ⟨w.heap.size, 0, none⟩))) rfl)) ?_)
  refine l_op wn (o_val (x_load (v := (Value.string s_4048)) Try.isAgg9 (et (v := (Value.pointer (some ⟨w.heap.size, 0, none⟩))) rfl) ((bx_4081.cell 0).trans rfl)) ?_)
  refine l_op wn (o_val (x_field (k := 0) (j := 0) Try.underlying93 rfl Try.sizeOf9 rfl (et (v := (Value.pointer (some ⟨w_4071.heap.size, 0, none⟩))) rfl)) ?_)
  refine l_op wn (o_val (x_load (v := (Value.string s_4048)) Try.isAgg9 (et (v := (Value.pointer (some ⟨w_4071.heap.size, 0, none⟩))) rfl) ((bx_4079.cell 0).trans rfl)) ?_)
  have h_4082 : s_4048 = s_4048 := rfl
  refine l_op wn (o_val (x_sneq (r := false) (et (v := (Value.string s_4048)) rfl) (et (v := (Value.string s_4048)) rfl) (dec_t h_4082)) ?_)
  refine l_nil ?_
  refine w_if_f (et (v := (Value.bool false)) rfl) ?_
  refine w_skip ?_
  refine w_seq ?_
  refine w_seq ?_
  refine w_region ?_
  refine l_op wn (o_val (x_field (k := 0) (j := 1) Try.underlying93 rfl Try.sizeOf9 rfl (et (v := (Value.pointer (some ⟨w.heap.size, 0, none⟩))) rfl)) ?_)
  refine l_op wn (o_val (x_load (v := (Value.string s_4049)) Try.isAgg9 (et (v := (Value.pointer (some ⟨w.heap.size, 1, none⟩))) rfl) ((bx_4081.cell 1).trans rfl)) ?_)
  refine l_op wn (o_val (x_field (k := 0) (j := 1) Try.underlying93 rfl Try.sizeOf9 rfl (et (v := (Value.pointer (some ⟨w_4071.heap.size, 0, none⟩))) rfl)) ?_)
  refine l_op wn (o_val (x_load (v := (Value.string s_4049)) Try.isAgg9 (et (v := (Value.pointer (some ⟨w_4071.heap.size, 1, none⟩))) rfl) ((bx_4079.cell 1).trans rfl)) ?_)
  have h_4083 : s_4049 = s_4049 := rfl
  refine l_op wn (o_val (x_sneq (r := false) (et (v := (Value.string s_4049)) rfl) (et (v := (Value.string s_4049)) rfl) (dec_t h_4083)) ?_)
  refine l_nil ?_
  refine w_if_f (et (v := (Value.bool false)) rfl) ?_
  refine w_skip ?_
  refine w_seq ?_
  refine w_seq ?_
  refine w_region ?_
  refine l_op wn (o_val (x_field (k := 0) (j := 2) Try.underlying93 rfl Try.sizeOf41 rfl (et (v := (Value.pointer (some ⟨w.heap.size, 0, none⟩))) rfl)) ?_)
  refine l_op wn (o_val (x_load (v := (Value.slice A_4051 n_4052 c_4053)) Try.isAgg41 (et (v := (Value.pointer (some ⟨w.heap.size, 2, none⟩))) rfl) ((bx_4081.cell 2).trans rfl)) ?_)
  refine l_op wn (o_val (x_field (k := 0) (j := 2) Try.underlying93 rfl Try.sizeOf41 rfl (et (v := (Value.pointer (some ⟨w_4071.heap.size, 0, none⟩))) rfl)) ?_)
  refine l_op wn (o_val (x_load (v := (Value.slice A_4064 n_4065 c_4066)) Try.isAgg41 (et (v := (Value.pointer (some ⟨w_4071.heap.size, 2, none⟩))) rfl) ((bx_4079.cell 2).trans rfl)) ?_)
  refine l_op wn (o_call (x_call Try.call28 ef (a2 (et (v := (Value.slice A_4051 n_4052 c_4053)) rfl) (et (v := (Value.slice A_4064 n_4065 c_4066)) rfl))) (ih w_4076 xs_4050 A_4051 n_4052 c_4053 _ A_4064 n_4065 c_4066 _ ok_4061 (hr_4062.below hB_4080) (hr_4069.below hB_4080) (by omega)) ?_)
  rintro _ w_4084 ⟨rfl, k_4085⟩
  refine ⟨_, rfl, ?_⟩
  have hB_4086 := below_next hB_4080 k_4085 (by omega)
  have z_4087 := k_4085.size
  have bx_4088 := bx_4081.below k_4085
  have bx_4089 := bx_4079.below k_4085
  refine l_op wn (o_val (x_not (et (v := (Value.bool true)) rfl)) ?_)
  refine l_nil ?_
  refine w_if_f (et (v := (Value.bool false)) rfl) ?_
  refine w_skip ?_
  refine w_seq ?_
  refine w_region ?_
  refine l_op wn (o_val (x_assign ec) ?_)
  refine l_nil ?_
  refine w_ret ?_
  exact ⟨_, r_tmp (v := (Value.bool true)) Try.results57 rfl, rfl, hB_4086⟩

set_option maxHeartbeats 200000 in
theorem eq_NodeS_of (k : Nat) (ih : Eq_Node k) : Eq_NodeS k := by
  intro w xs A n c F A' n' c' F' ok hr hr' hc
  have hB0 := Below.refl w.heap.size w
  obtain ⟨ln, lc, lm⟩ := hr.len
  obtain ⟨ln', lc', lm'⟩ := hr'.len
  refine enter (N := 27) Try.func28 rfl Try.ntmps28 rfl ?_
  refine w_seq ?_
  refine w_region ?_
  refine l_op wn (o_val (x_assign ec) ?_)
  refine l_nil ?_
  refine w_seq ?_
  refine w_seq ?_
  refine w_region ?_
  refine l_op wn (o_val (x_move (et (v := (Value.slice A n c)) rfl)) ?_)
  refine l_op wn (o_val (x_len Try.underlying41 (et (v := (Value.slice A n c)) rfl)) ?_)
  refine l_op wn (o_val (x_move (et (v := (Value.slice A' n' c')) rfl)) ?_)
  refine l_op wn (o_val (x_len Try.underlying41 (et (v := (Value.slice A' n' c')) rfl)) ?_)
  have h_4090 : (n : Int) = (n' : Int) := by omega
  refine l_op wn (o_val (x_neq (r := false) (et (v := (Value.int .i64 (n : Int))) rfl) (et (v := (Value.int .i64 (n' : Int))) rfl) (dec_t h_4090)) ?_)
  refine l_nil ?_
  refine w_if_f (et (v := (Value.bool false)) rfl) ?_
  refine w_skip ?_
  refine w_seq ?_
  refine w_seq ?_
  refine w_region ?_
  refine l_op wn (o_val (x_assign ec) ?_)
  refine l_nil ?_
  refine w_block ?_
  refine w_loop (fun μ f w' => ∃ (i : Nat), f 0 = (Value.slice A n c) ∧ f 1 = (Value.slice A' n' c') ∧ f 5 = (Value.int .i64 (i : Int)) ∧ Below w.heap.size w w' ∧ (i ≤ n) ∧ μ = n - i) (n - 0) ?_ ?_
  · exact ⟨0, rfl, rfl, vint (a := 0) (by omega), hB0, (by omega), rfl⟩
  rintro m_4093 f_4091 w_4092 ⟨i, hs_4095, hs_4096, hs_4097, hB_4094, hi, rfl⟩
  have z_4098 := hB_4094.size
  refine w_seq ?_
  refine w_seq ?_
  refine w_region ?_
  refine l_op wn (o_val (x_move (et (v := (Value.int .i64 (i : Int))) hs_4097)) ?_)
  refine l_op wn (o_val (x_move (et (v := (Value.slice A n c)) hs_4095)) ?_)
  refine l_op wn (o_val (x_len Try.underlying41 (et (v := (Value.slice A n c)) rfl)) ?_)
  by_cases h_4099 : (i : Int) < (n : Int)
  rotate_left
  · refine l_op wn (o_val (x_lss (r := false) (et (v := (Value.int .i64 (i : Int))) rfl) (et (v := (Value.int .i64 (n : Int))) rfl) (dec_f h_4099)) ?_)
    refine l_nil ?_
    refine w_if_f (et (v := (Value.bool false)) rfl) ?_
    refine w_exit ?_
    refine Eq.mpr (if_pos rfl) ?_
    refine w_seq ?_
    refine w_region ?_
    refine l_op wn (o_val (x_assign ec) ?_)
    refine l_nil ?_
    refine w_ret ?_
    exact ⟨_, r_tmp (v := (Value.bool true)) Try.results28 rfl, rfl, hB_4094⟩
  refine l_op wn (o_val (x_lss (r := true) (et (v := (Value.int .i64 (i : Int))) rfl) (et (v := (Value.int .i64 (n : Int))) rfl) (dec_t h_4099)) ?_)
  refine l_nil ?_
  refine w_if_t (et (v := (Value.bool true)) rfl) ?_
  refine w_skip ?_
  refine w_seq ?_
  refine w_block ?_
  refine w_seq ?_
  obtain ⟨b_4101, o_4102, x_4103, cs_4104, G_4105, hA_4106, hbF_4107, hlt_4108, hx_4109, hrx_4110, hG_4111, hl_4112, hcl_4113⟩ := hr.elem (k := 3) (fun y hy => wd_Node (ok.mem y hy)) (i := i) (by omega)
  obtain ⟨s_4114, s_4115, xs_4116, A_4117, n_4118, c_4119, F_4120, rfl, rfl, rfl, bd_4125, bd_4126, ok_4127, hr_4128, ln_4129⟩ := open_Node (ok.get hx_4109) hrx_4110
  obtain ⟨b_4130, o_4131, cs_4132, G_4133, hA_4134, hbF_4135, hlt_4136, hrx_4137, hG_4138, hl_4139, hcl_4140⟩ := hr'.elemx (k := 3) (fun y hy => wd_Node (ok.mem y hy)) hx_4109
  obtain ⟨A_4141, n_4142, c_4143, F_4144, rfl, hr_4146, ln_4147⟩ := cellr_Node hrx_4137
  have hS_4148 := Sm.start [b_4101, b_4130] w_4092
  refine w_draw (Sm [b_4101, b_4130] w_4092) [(0, true), (1, true), (2, true), (3, true), (4, true), (5, true), (6, true), (7, true), (8, false), (9, true)] (by kernel_rfl) (by kernel_rfl) rfl (by kernel_rfl) ?_
  have hB_4149 := hB_4094.drew
  have z_4150 : w_4092.drew.heap.size = w_4092.heap.size := rfl
  refine d_q rfl rfl wn (fun w' hS' => (x_move (et (v := (Value.slice A n c)) hs_4095))) hS_4148 ?_
  refine d_q rfl rfl wn (fun w' hS' => (x_move (et (v := (Value.int .i64 (i : Int))) hs_4097))) hS_4148 ?_
  refine d_q rfl rfl wn (fun w' hS' => (x_index' (i := i) Try.underlying41 Try.sizeOf93 (et (v := (Value.slice A n c)) rfl) hA_4106 (et (v := (Value.int .i64 (i : Int))) rfl) (by omega) (by omega))) hS_4148 ?_
  refine d_q rfl rfl wn (fun w' hS' => (x_loadN (cs := [(Value.string s_4114), (Value.string s_4115), (Value.slice A_4117 n_4118 c_4119)]) Try.isAgg93 Try.sizeOf93 (et (v := (Value.pointer (some ⟨b_4101, o_4102 + i * 3, none⟩))) rfl) rfl (((hl_4112.keep (hB_4094.block _ hlt_4108)).keep (hS' _ (by simp)))))) hS_4148 ?_
  refine d_q rfl rfl wn (fun w' hS' => (x_move (et (v := (Value.slice A' n' c')) hs_4096))) hS_4148 ?_
  refine d_q rfl rfl wn (fun w' hS' => (x_move (et (v := (Value.int .i64 (i : Int))) hs_4097))) hS_4148 ?_
  refine d_q rfl rfl wn (fun w' hS' => (x_index' (i := i) Try.underlying41 Try.sizeOf93 (et (v := (Value.slice A' n' c')) rfl) hA_4134 (et (v := (Value.int .i64 (i : Int))) rfl) (by omega) (by omega))) hS_4148 ?_
  refine d_q rfl rfl wn (fun w' hS' => (x_loadN (cs := [(Value.string s_4114), (Value.string s_4115), (Value.slice A_4141 n_4142 c_4143)]) Try.isAgg93 Try.sizeOf93 (et (v := (Value.pointer (some ⟨b_4130, o_4131 + i * 3, none⟩))) rfl) rfl (((hl_4139.keep (hB_4094.block _ hlt_4136)).keep (hS' _ (by simp)))))) hS_4148 ?_
  have rr_4153 := (ragg (rcons (rstr (w := w_4092.drew) (n := s_4114) bd_4125) (rcons (rstr (w := w_4092.drew) (n := s_4115) bd_4126) (rcons (hr_4128.below hB_4149) (rnil (w := w_4092.drew))))))
  have rr_4154 := (ragg (rcons (rstr (w := w_4092.drew) (n := s_4114) bd_4125) (rcons (rstr (w := w_4092.drew) (n := s_4115) bd_4126) (rcons (hr_4146.below hB_4149) (rnil (w := w_4092.drew))))))
  refine d_op rfl wn (o_call (x_call Try.call57 ef (a2 (et (v := (Value.agg #[(Value.string s_4114), (Value.string s_4115), (Value.slice A_4117 n_4118 c_4119)])) rfl) (et (v := (Value.agg #[(Value.string s_4114), (Value.string s_4115), (Value.slice A_4141 n_4142 c_4143)])) rfl))) (ih w_4092.drew (.agg [.str s_4114, .str s_4115, .list xs_4116]) [(Value.string s_4114), (Value.string s_4115), (Value.slice A_4117 n_4118 c_4119)] _ [(Value.string s_4114), (Value.string s_4115), (Value.slice A_4141 n_4142 c_4143)] _ (ok_agg rfl (okz_cons (ok_str rfl) (okz_cons (ok_str rfl) (okz_cons (ok_list rfl ok_4127) okz_nil)))) rr_4153 rr_4154 (by have := cnt_mem hx_4109; omega)) ?_)
  rintro _ w_4151 ⟨rfl, k_4152⟩
  refine ⟨_, rfl, ?_⟩
  have hB_4155 := below_next hB_4149 k_4152 (by omega)
  have z_4156 := k_4152.size
  have hS_4157 := hS_4148.next k_4152 (by simp; omega)
  refine ⟨hS_4157, ?_⟩
  refine d_q rfl rfl wn (fun w' hS' => (x_not (et (v := (Value.bool true)) rfl))) hS_4157 ?_
  refine d_nil ?_
  refine w_if_f (et (v := (Value.bool false)) rfl) ?_
  refine w_skip ?_
  refine w_region ?_
  refine l_op wn (o_val (x_move (et (v := (Value.int .i64 (i : Int))) hs_4097)) ?_)
  refine l_op wn (o_val (x_add (et (v := (Value.int .i64 (i : Int))) rfl) ec (by omega)) ?_)
  refine l_op wn (o_val (x_assign (et (v := (Value.int .i64 ((i : Int) + 1))) rfl)) ?_)
  refine l_nil ?_
  exact ⟨n - (i + 1), by omega, ⟨i + 1, hs_4095, hs_4096, vint (a := ((i : Int) + 1)) (by omega), hB_4155, (by omega), rfl⟩⟩
theorem eq_Node_all : ∀ k, Eq_Node k
  | 0 => fun w x cs F cs' F' ok hr hr' hc => absurd hc (by have := cnt_pos x; omega)
  | k + 1 => eq_Node_of k (eq_NodeS_of k (eq_Node_all k))
theorem eq_NodeS (w : World) (xs : List V) (A : Option Addr) (n c : Nat) (F : List Nat) (A' : Option Addr) (n' c' : Nat) (F' : List Nat) (ok : Oks xs tNode) (hr : Rep w (.list xs) [.slice A n c] F) (hr' : Rep w (.list xs) [.slice A' n' c'] F') : Calls Try.prog 28 #[.slice A n c, .slice A' n' c'] w (Rets w (.bool true)) := eq_NodeS_of _ (eq_Node_all _) w xs A n c F A' n' c' F' ok hr hr' (Nat.le_refl _)
theorem eq_Node (w : World) (x : V) (cs : List Value) (F : List Nat) (cs' : List Value) (F' : List Nat) (ok : Ok x tNode) (hr : Rep w x cs F) (hr' : Rep w x cs' F') : Calls Try.prog 57 #[.agg cs.toArray, .agg cs'.toArray] w (Rets w (.bool true)) := eq_Node_all _ w x cs F cs' F' ok hr hr' (Nat.le_refl _)

def Eq_EditS (k : Nat) : Prop := ∀ (w : World) (xs : List V) (A : Option Addr) (n c : Nat) (F : List Nat) (A' : Option Addr) (n' c' : Nat) (F' : List Nat) (ok : Oks xs tEdit) (hr : Rep w (.list xs) [.slice A n c] F) (hr' : Rep w (.list xs) [.slice A' n' c'] F') (hc : V.cnts xs ≤ k), Calls Try.prog 94 #[.slice A n c, .slice A' n' c'] w (Rets w (.bool true))
def Eq_Edit (k : Nat) : Prop := ∀ (w : World) (x : V) (cs : List Value) (F : List Nat) (cs' : List Value) (F' : List Nat) (ok : Ok x tEdit) (hr : Rep w x cs F) (hr' : Rep w x cs' F') (hc : V.cnt x ≤ k), Calls Try.prog 103 #[.agg cs.toArray, .agg cs'.toArray] w (Rets w (.bool true))
set_option maxHeartbeats 200000 in
theorem eq_Edit_of (k : Nat) (ih : Eq_EditS k) : Eq_Edit (k + 1) := by
  intro w x cs F cs' F' ok hr hr' hc
  obtain ⟨i_4158, s_4159, s_4160, xs_4161, A_4162, n_4163, c_4164, F_4165, rfl, rfl, rfl, bd_4170, bd_4171, bd_4172, ok_4173, hr_4174, ln_4175⟩ := open_Edit ok hr
  obtain ⟨A_4176, n_4177, c_4178, F_4179, rfl, hr_4181, ln_4182⟩ := cellr_Edit hr'
  have hck : V.cnts xs_4161 < V.cnt (.agg [.int i_4158, .str s_4159, .str s_4160, .list xs_4161]) := by simp only [V.cnt, V.cnts]; omega
  have hB0 := Below.refl w.heap.size w
  refine enter (N := 26) Try.func103 rfl Try.ntmps103 rfl ?_
  refine w_seq ?_
  refine w_region ?_
  refine l_op wn (o_new (x_box (cs := [(Value.int .i64 i_4158), (Value.string s_4159), (Value.string s_4160), (Value.slice A_4162 n_4163 c_4164)]) (et (v := (Value.agg #[(Value.int .i64 i_4158), (Value.string s_4159), (Value.string s_4160), (Value.slice A_4162 n_4163 c_4164)])) rfl)) ?_)
  intro w_4183 z_4184 k_4185 bx_4186
  have hB_4187 := below_next hB0 k_4185 (by omega)
  refine l_op wn (o_new (x_box (cs := [(Value.int .i64 i_4158), (Value.string s_4159), (Value.string s_4160), (Value.slice A_4176 n_4177 c_4178)]) (et (v := (Value.agg #[(Value.int .i64 i_4158), (Value.string s_4159), (Value.string s_4160), (Value.slice A_4176 n_4177 c_4178)])) rfl)) ?_)
  intro w_4188 z_4189 k_4190 bx_4191
  have hB_4192 := below_next hB_4187 k_4190 (by omega)
  have bx_4193 := bx_4186.below k_4190
  refine l_op wn (o_val (x_assign ec) ?_)
  refine l_nil ?_
  refine w_seq ?_
  refine w_seq ?_
  refine w_region ?_
  refine l_op wn (o_val (x_field (k := 0) (j := 0) Try.underlying146 rfl Try.sizeOf3 rfl (et (v := (Value.pointer (some ⟨w.heap.size, 0, none⟩))) rfl)) ?_)
  refine l_op wn (o_val (x_load (v := (Value.int .i64 i_4158)) Try.isAgg3 (et (v := (Value.pointer (some ⟨w.heap.size, 0, none⟩))) rfl) ((bx_4193.cell 0).trans rfl)) ?_)
  refine l_op wn (o_val (x_field (k := 0) (j := 0) Try.underlying146 rfl Try.sizeOf3 rfl (et (v := (Value.pointer (some ⟨w_4183.heap.size, 0, none⟩))) rfl)) ?_)
  refine l_op wn (o_val (x_load (v := (Value.int .i64 i_4158)) Try.isAgg3 (et (v := (Value.pointer (some ⟨w_4183.heap.size, 0, none⟩))) rfl) ((bx_4191.cell 0).trans rfl)) ?_)
  have h_4194 : i_4158 = i_4158 := rfl
  refine l_op wn (o_val (x_neq (r := false) (et (v := (Value.int .i64 i_4158)) rfl) (et (v := (Value.int .i64 i_4158)) rfl) (dec_t h_4194)) ?_)
  refine l_nil ?_
  refine w_if_f (et (v := (Value.bool false)) rfl) ?_
  refine w_skip ?_
  refine w_seq ?_
  refine w_seq ?_
  refine w_region ?_
  refine l_op wn (o_val (x_field (k := 0) (j := 1) Try.underlying146 rfl Try.sizeOf9 rfl (et (v := (Value.pointer (some ⟨w.heap.size, 0, none⟩))) rfl)) ?_)
  refine l_op wn (o_val (x_load (v := (Value.string s_4159)) Try.isAgg9 (et (v := (Value.pointer (some ⟨w.heap.size, 1, none⟩))) rfl) ((bx_4193.cell 1).trans rfl)) ?_)
  refine l_op wn (o_val (x_field (k := 0) (j := 1) Try.underlying146 rfl Try.sizeOf9 rfl (et (v := (Value.pointer (some ⟨w_4183.heap.size, 0, none⟩))) rfl)) ?_)
  refine l_op wn (o_val (x_load (v := (Value.string s_4159)) Try.isAgg9 (et (v := (Value.pointer (some ⟨w_4183.heap.size, 1, none⟩))) rfl) ((bx_4191.cell 1).trans rfl)) ?_)
  have h_4195 : s_4159 = s_4159 := rfl
  refine l_op wn (o_val (x_sneq (r := false) (et (v := (Value.string s_4159)) rfl) (et (v := (Value.string s_4159)) rfl) (dec_t h_4195)) ?_)
  refine l_nil ?_
  refine w_if_f (et (v := (Value.bool false)) rfl) ?_
  refine w_skip ?_
  refine w_seq ?_
  refine w_seq ?_
  refine w_region ?_
  refine l_op wn (o_val (x_field (k := 0) (j := 2) Try.underlying146 rfl Try.sizeOf9 rfl (et (v := (Value.pointer (some ⟨w.heap.size, 0, none⟩))) rfl)) ?_)
  refine l_op wn (o_val (x_load (v := (Value.string s_4160)) Try.isAgg9 (et (v := (Value.pointer (some ⟨w.heap.size, 2, none⟩))) rfl) ((bx_4193.cell 2).trans rfl)) ?_)
  refine l_op wn (o_val (x_field (k := 0) (j := 2) Try.underlying146 rfl Try.sizeOf9 rfl (et (v := (Value.pointer (some ⟨w_4183.heap.size, 0, none⟩))) rfl)) ?_)
  refine l_op wn (o_val (x_load (v := (Value.string s_4160)) Try.isAgg9 (et (v := (Value.pointer (some ⟨w_4183.heap.size, 2, none⟩))) rfl) ((bx_4191.cell 2).trans rfl)) ?_)
  have h_4196 : s_4160 = s_4160 := rfl
  refine l_op wn (o_val (x_sneq (r := false) (et (v := (Value.string s_4160)) rfl) (et (v := (Value.string s_4160)) rfl) (dec_t h_4196)) ?_)
  refine l_nil ?_
  refine w_if_f (et (v := (Value.bool false)) rfl) ?_
  refine w_skip ?_
  refine w_seq ?_
  refine w_seq ?_
  refine w_region ?_
  refine l_op wn (o_val (x_field (k := 0) (j := 3) Try.underlying146 rfl Try.sizeOf83 rfl (et (v := (Value.pointer (some ⟨w.heap.size, 0, none⟩))) rfl)) ?_)
  refine l_op wn (o_val (x_load (v := (Value.slice A_4162 n_4163 c_4164)) Try.isAgg83 (et (v := (Value.pointer (some ⟨w.heap.size, 3, none⟩))) rfl) ((bx_4193.cell 3).trans rfl)) ?_)
  refine l_op wn (o_val (x_field (k := 0) (j := 3) Try.underlying146 rfl Try.sizeOf83 rfl (et (v := (Value.pointer (some ⟨w_4183.heap.size, 0, none⟩))) rfl)) ?_)
  refine l_op wn (o_val (x_load (v := (Value.slice A_4176 n_4177 c_4178)) Try.isAgg83 (et (v := (Value.pointer (some ⟨w_4183.heap.size, 3, none⟩))) rfl) ((bx_4191.cell 3).trans rfl)) ?_)
  refine l_op wn (o_call (x_call Try.call94 ef (a2 (et (v := (Value.slice A_4162 n_4163 c_4164)) rfl) (et (v := (Value.slice A_4176 n_4177 c_4178)) rfl))) (ih w_4188 xs_4161 A_4162 n_4163 c_4164 _ A_4176 n_4177 c_4178 _ ok_4173 (hr_4174.below hB_4192) (hr_4181.below hB_4192) (by omega)) ?_)
  rintro _ w_4197 ⟨rfl, k_4198⟩
  refine ⟨_, rfl, ?_⟩
  have hB_4199 := below_next hB_4192 k_4198 (by omega)
  have z_4200 := k_4198.size
  have bx_4201 := bx_4193.below k_4198
  have bx_4202 := bx_4191.below k_4198
  refine l_op wn (o_val (x_not (et (v := (Value.bool true)) rfl)) ?_)
  refine l_nil ?_
  refine w_if_f (et (v := (Value.bool false)) rfl) ?_
  refine w_skip ?_
  refine w_seq ?_
  refine w_region ?_
  refine l_op wn (o_val (x_assign ec) ?_)
  refine l_nil ?_
  refine w_ret ?_
  exact ⟨_, r_tmp (v := (Value.bool true)) Try.results103 rfl, rfl, hB_4199⟩

set_option maxHeartbeats 200000 in
theorem eq_EditS_of (k : Nat) (ih : Eq_Edit k) : Eq_EditS k := by
  intro w xs A n c F A' n' c' F' ok hr hr' hc
  have hB0 := Below.refl w.heap.size w
  obtain ⟨ln, lc, lm⟩ := hr.len
  obtain ⟨ln', lc', lm'⟩ := hr'.len
  refine enter (N := 27) Try.func94 rfl Try.ntmps94 rfl ?_
  refine w_seq ?_
  refine w_region ?_
  refine l_op wn (o_val (x_assign ec) ?_)
  refine l_nil ?_
  refine w_seq ?_
  refine w_seq ?_
  refine w_region ?_
  refine l_op wn (o_val (x_move (et (v := (Value.slice A n c)) rfl)) ?_)
  refine l_op wn (o_val (x_len Try.underlying83 (et (v := (Value.slice A n c)) rfl)) ?_)
  refine l_op wn (o_val (x_move (et (v := (Value.slice A' n' c')) rfl)) ?_)
  refine l_op wn (o_val (x_len Try.underlying83 (et (v := (Value.slice A' n' c')) rfl)) ?_)
  have h_4203 : (n : Int) = (n' : Int) := by omega
  refine l_op wn (o_val (x_neq (r := false) (et (v := (Value.int .i64 (n : Int))) rfl) (et (v := (Value.int .i64 (n' : Int))) rfl) (dec_t h_4203)) ?_)
  refine l_nil ?_
  refine w_if_f (et (v := (Value.bool false)) rfl) ?_
  refine w_skip ?_
  refine w_seq ?_
  refine w_seq ?_
  refine w_region ?_
  refine l_op wn (o_val (x_assign ec) ?_)
  refine l_nil ?_
  refine w_block ?_
  refine w_loop (fun μ f w' => ∃ (i : Nat), f 0 = (Value.slice A n c) ∧ f 1 = (Value.slice A' n' c') ∧ f 5 = (Value.int .i64 (i : Int)) ∧ Below w.heap.size w w' ∧ (i ≤ n) ∧ μ = n - i) (n - 0) ?_ ?_
  · exact ⟨0, rfl, rfl, vint (a := 0) (by omega), hB0, (by omega), rfl⟩
  rintro m_4206 f_4204 w_4205 ⟨i, hs_4208, hs_4209, hs_4210, hB_4207, hi, rfl⟩
  have z_4211 := hB_4207.size
  refine w_seq ?_
  refine w_seq ?_
  refine w_region ?_
  refine l_op wn (o_val (x_move (et (v := (Value.int .i64 (i : Int))) hs_4210)) ?_)
  refine l_op wn (o_val (x_move (et (v := (Value.slice A n c)) hs_4208)) ?_)
  refine l_op wn (o_val (x_len Try.underlying83 (et (v := (Value.slice A n c)) rfl)) ?_)
  by_cases h_4212 : (i : Int) < (n : Int)
  rotate_left
  · refine l_op wn (o_val (x_lss (r := false) (et (v := (Value.int .i64 (i : Int))) rfl) (et (v := (Value.int .i64 (n : Int))) rfl) (dec_f h_4212)) ?_)
    refine l_nil ?_
    refine w_if_f (et (v := (Value.bool false)) rfl) ?_
    refine w_exit ?_
    refine Eq.mpr (if_pos rfl) ?_
    refine w_seq ?_
    refine w_region ?_
    refine l_op wn (o_val (x_assign ec) ?_)
    refine l_nil ?_
    refine w_ret ?_
    exact ⟨_, r_tmp (v := (Value.bool true)) Try.results94 rfl, rfl, hB_4207⟩
  refine l_op wn (o_val (x_lss (r := true) (et (v := (Value.int .i64 (i : Int))) rfl) (et (v := (Value.int .i64 (n : Int))) rfl) (dec_t h_4212)) ?_)
  refine l_nil ?_
  refine w_if_t (et (v := (Value.bool true)) rfl) ?_
  refine w_skip ?_
  refine w_seq ?_
  refine w_block ?_
  refine w_seq ?_
  obtain ⟨b_4214, o_4215, x_4216, cs_4217, G_4218, hA_4219, hbF_4220, hlt_4221, hx_4222, hrx_4223, hG_4224, hl_4225, hcl_4226⟩ := hr.elem (k := 4) (fun y hy => wd_Edit (ok.mem y hy)) (i := i) (by omega)
  obtain ⟨i_4227, s_4228, s_4229, xs_4230, A_4231, n_4232, c_4233, F_4234, rfl, rfl, rfl, bd_4239, bd_4240, bd_4241, ok_4242, hr_4243, ln_4244⟩ := open_Edit (ok.get hx_4222) hrx_4223
  obtain ⟨b_4245, o_4246, cs_4247, G_4248, hA_4249, hbF_4250, hlt_4251, hrx_4252, hG_4253, hl_4254, hcl_4255⟩ := hr'.elemx (k := 4) (fun y hy => wd_Edit (ok.mem y hy)) hx_4222
  obtain ⟨A_4256, n_4257, c_4258, F_4259, rfl, hr_4261, ln_4262⟩ := cellr_Edit hrx_4252
  have hS_4263 := Sm.start [b_4214, b_4245] w_4205
  refine w_draw (Sm [b_4214, b_4245] w_4205) [(0, true), (1, true), (2, true), (3, true), (4, true), (5, true), (6, true), (7, true), (8, false), (9, true)] (by kernel_rfl) (by kernel_rfl) rfl (by kernel_rfl) ?_
  have hB_4264 := hB_4207.drew
  have z_4265 : w_4205.drew.heap.size = w_4205.heap.size := rfl
  refine d_q rfl rfl wn (fun w' hS' => (x_move (et (v := (Value.slice A n c)) hs_4208))) hS_4263 ?_
  refine d_q rfl rfl wn (fun w' hS' => (x_move (et (v := (Value.int .i64 (i : Int))) hs_4210))) hS_4263 ?_
  refine d_q rfl rfl wn (fun w' hS' => (x_index' (i := i) Try.underlying83 Try.sizeOf146 (et (v := (Value.slice A n c)) rfl) hA_4219 (et (v := (Value.int .i64 (i : Int))) rfl) (by omega) (by omega))) hS_4263 ?_
  refine d_q rfl rfl wn (fun w' hS' => (x_loadN (cs := [(Value.int .i64 i_4227), (Value.string s_4228), (Value.string s_4229), (Value.slice A_4231 n_4232 c_4233)]) Try.isAgg146 Try.sizeOf146 (et (v := (Value.pointer (some ⟨b_4214, o_4215 + i * 4, none⟩))) rfl) rfl (((hl_4225.keep (hB_4207.block _ hlt_4221)).keep (hS' _ (by simp)))))) hS_4263 ?_
  refine d_q rfl rfl wn (fun w' hS' => (x_move (et (v := (Value.slice A' n' c')) hs_4209))) hS_4263 ?_
  refine d_q rfl rfl wn (fun w' hS' => (x_move (et (v := (Value.int .i64 (i : Int))) hs_4210))) hS_4263 ?_
  refine d_q rfl rfl wn (fun w' hS' => (x_index' (i := i) Try.underlying83 Try.sizeOf146 (et (v := (Value.slice A' n' c')) rfl) hA_4249 (et (v := (Value.int .i64 (i : Int))) rfl) (by omega) (by omega))) hS_4263 ?_
  refine d_q rfl rfl wn (fun w' hS' => (x_loadN (cs := [(Value.int .i64 i_4227), (Value.string s_4228), (Value.string s_4229), (Value.slice A_4256 n_4257 c_4258)]) Try.isAgg146 Try.sizeOf146 (et (v := (Value.pointer (some ⟨b_4245, o_4246 + i * 4, none⟩))) rfl) rfl (((hl_4254.keep (hB_4207.block _ hlt_4251)).keep (hS' _ (by simp)))))) hS_4263 ?_
  have rr_4268 := (ragg (rcons (rint (w := w_4205.drew) (n := i_4227) bd_4239) (rcons (rstr (w := w_4205.drew) (n := s_4228) bd_4240) (rcons (rstr (w := w_4205.drew) (n := s_4229) bd_4241) (rcons (hr_4243.below hB_4264) (rnil (w := w_4205.drew)))))))
  have rr_4269 := (ragg (rcons (rint (w := w_4205.drew) (n := i_4227) bd_4239) (rcons (rstr (w := w_4205.drew) (n := s_4228) bd_4240) (rcons (rstr (w := w_4205.drew) (n := s_4229) bd_4241) (rcons (hr_4261.below hB_4264) (rnil (w := w_4205.drew)))))))
  refine d_op rfl wn (o_call (x_call Try.call103 ef (a2 (et (v := (Value.agg #[(Value.int .i64 i_4227), (Value.string s_4228), (Value.string s_4229), (Value.slice A_4231 n_4232 c_4233)])) rfl) (et (v := (Value.agg #[(Value.int .i64 i_4227), (Value.string s_4228), (Value.string s_4229), (Value.slice A_4256 n_4257 c_4258)])) rfl))) (ih w_4205.drew (.agg [.int i_4227, .str s_4228, .str s_4229, .list xs_4230]) [(Value.int .i64 i_4227), (Value.string s_4228), (Value.string s_4229), (Value.slice A_4231 n_4232 c_4233)] _ [(Value.int .i64 i_4227), (Value.string s_4228), (Value.string s_4229), (Value.slice A_4256 n_4257 c_4258)] _ (ok_agg rfl (okz_cons (ok_int rfl) (okz_cons (ok_str rfl) (okz_cons (ok_str rfl) (okz_cons (ok_list rfl ok_4242) okz_nil))))) rr_4268 rr_4269 (by have := cnt_mem hx_4222; omega)) ?_)
  rintro _ w_4266 ⟨rfl, k_4267⟩
  refine ⟨_, rfl, ?_⟩
  have hB_4270 := below_next hB_4264 k_4267 (by omega)
  have z_4271 := k_4267.size
  have hS_4272 := hS_4263.next k_4267 (by simp; omega)
  refine ⟨hS_4272, ?_⟩
  refine d_q rfl rfl wn (fun w' hS' => (x_not (et (v := (Value.bool true)) rfl))) hS_4272 ?_
  refine d_nil ?_
  refine w_if_f (et (v := (Value.bool false)) rfl) ?_
  refine w_skip ?_
  refine w_region ?_
  refine l_op wn (o_val (x_move (et (v := (Value.int .i64 (i : Int))) hs_4210)) ?_)
  refine l_op wn (o_val (x_add (et (v := (Value.int .i64 (i : Int))) rfl) ec (by omega)) ?_)
  refine l_op wn (o_val (x_assign (et (v := (Value.int .i64 ((i : Int) + 1))) rfl)) ?_)
  refine l_nil ?_
  exact ⟨n - (i + 1), by omega, ⟨i + 1, hs_4208, hs_4209, vint (a := ((i : Int) + 1)) (by omega), hB_4270, (by omega), rfl⟩⟩
theorem eq_Edit_all : ∀ k, Eq_Edit k
  | 0 => fun w x cs F cs' F' ok hr hr' hc => absurd hc (by have := cnt_pos x; omega)
  | k + 1 => eq_Edit_of k (eq_EditS_of k (eq_Edit_all k))
theorem eq_EditS (w : World) (xs : List V) (A : Option Addr) (n c : Nat) (F : List Nat) (A' : Option Addr) (n' c' : Nat) (F' : List Nat) (ok : Oks xs tEdit) (hr : Rep w (.list xs) [.slice A n c] F) (hr' : Rep w (.list xs) [.slice A' n' c'] F') : Calls Try.prog 94 #[.slice A n c, .slice A' n' c'] w (Rets w (.bool true)) := eq_EditS_of _ (eq_Edit_all _) w xs A n c F A' n' c' F' ok hr hr' (Nat.le_refl _)
theorem eq_Edit (w : World) (x : V) (cs : List Value) (F : List Nat) (cs' : List Value) (F' : List Nat) (ok : Ok x tEdit) (hr : Rep w x cs F) (hr' : Rep w x cs' F') : Calls Try.prog 103 #[.agg cs.toArray, .agg cs'.toArray] w (Rets w (.bool true)) := eq_Edit_all _ w x cs F cs' F' ok hr hr' (Nat.le_refl _)

set_option maxHeartbeats 200000 in
theorem eq_Change (w : World) (x : V) (cs : List Value) (F : List Nat) (cs' : List Value) (F' : List Nat) (ok : Ok x tChange) (hr : Rep w x cs F) (hr' : Rep w x cs' F') : Calls Try.prog 80 #[.agg cs.toArray, .agg cs'.toArray] w (Rets w (.bool true)) := by
  obtain ⟨i_4273, i_4274, xs_4275, A_4276, n_4277, c_4278, F_4279, rfl, rfl, rfl, bd_4284, bd_4285, ok_4286, hr_4287, ln_4288⟩ := open_Change ok hr
  obtain ⟨A_4289, n_4290, c_4291, F_4292, rfl, hr_4294, ln_4295⟩ := cellr_Change hr'
  have hB0 := Below.refl w.heap.size w
  refine enter (N := 21) Try.func80 rfl Try.ntmps80 rfl ?_
  refine w_seq ?_
  refine w_region ?_
  refine l_op wn (o_new (x_box (cs := [(Value.int .i64 i_4273), (Value.int .i64 i_4274), (Value.slice A_4276 n_4277 c_4278)]) (et (v := (Value.agg #[(Value.int .i64 i_4273), (Value.int .i64 i_4274), (Value.slice A_4276 n_4277 c_4278)])) rfl)) ?_)
  intro w_4296 z_4297 k_4298 bx_4299
  have hB_4300 := below_next hB0 k_4298 (by omega)
  refine l_op wn (o_new (x_box (cs := [(Value.int .i64 i_4273), (Value.int .i64 i_4274), (Value.slice A_4289 n_4290 c_4291)]) (et (v := (Value.agg #[(Value.int .i64 i_4273), (Value.int .i64 i_4274), (Value.slice A_4289 n_4290 c_4291)])) rfl)) ?_)
  intro w_4301 z_4302 k_4303 bx_4304
  have hB_4305 := below_next hB_4300 k_4303 (by omega)
  have bx_4306 := bx_4299.below k_4303
  refine l_op wn (o_val (x_assign ec) ?_)
  refine l_nil ?_
  refine w_seq ?_
  refine w_seq ?_
  refine w_region ?_
  refine l_op wn (o_val (x_field (k := 0) (j := 0) Try.underlying85 rfl Try.sizeOf3 rfl (et (v := (Value.pointer (some ⟨w.heap.size, 0, none⟩))) rfl)) ?_)
  refine l_op wn (o_val (x_load (v := (Value.int .i64 i_4273)) Try.isAgg3 (et (v := (Value.pointer (some ⟨w.heap.size, 0, none⟩))) rfl) ((bx_4306.cell 0).trans rfl)) ?_)
  refine l_op wn (o_val (x_field (k := 0) (j := 0) Try.underlying85 rfl Try.sizeOf3 rfl (et (v := (Value.pointer (some ⟨w_4296.heap.size, 0, none⟩))) rfl)) ?_)
  refine l_op wn (o_val (x_load (v := (Value.int .i64 i_4273)) Try.isAgg3 (et (v := (Value.pointer (some ⟨w_4296.heap.size, 0, none⟩))) rfl) ((bx_4304.cell 0).trans rfl)) ?_)
  have h_4307 : i_4273 = i_4273 := rfl
  refine l_op wn (o_val (x_neq (r := false) (et (v := (Value.int .i64 i_4273)) rfl) (et (v := (Value.int .i64 i_4273)) rfl) (dec_t h_4307)) ?_)
  refine l_nil ?_
  refine w_if_f (et (v := (Value.bool false)) rfl) ?_
  refine w_skip ?_
  refine w_seq ?_
  refine w_seq ?_
  refine w_region ?_
  refine l_op wn (o_val (x_field (k := 0) (j := 1) Try.underlying85 rfl Try.sizeOf3 rfl (et (v := (Value.pointer (some ⟨w.heap.size, 0, none⟩))) rfl)) ?_)
  refine l_op wn (o_val (x_load (v := (Value.int .i64 i_4274)) Try.isAgg3 (et (v := (Value.pointer (some ⟨w.heap.size, 1, none⟩))) rfl) ((bx_4306.cell 1).trans rfl)) ?_)
  refine l_op wn (o_val (x_field (k := 0) (j := 1) Try.underlying85 rfl Try.sizeOf3 rfl (et (v := (Value.pointer (some ⟨w_4296.heap.size, 0, none⟩))) rfl)) ?_)
  refine l_op wn (o_val (x_load (v := (Value.int .i64 i_4274)) Try.isAgg3 (et (v := (Value.pointer (some ⟨w_4296.heap.size, 1, none⟩))) rfl) ((bx_4304.cell 1).trans rfl)) ?_)
  have h_4308 : i_4274 = i_4274 := rfl
  refine l_op wn (o_val (x_neq (r := false) (et (v := (Value.int .i64 i_4274)) rfl) (et (v := (Value.int .i64 i_4274)) rfl) (dec_t h_4308)) ?_)
  refine l_nil ?_
  refine w_if_f (et (v := (Value.bool false)) rfl) ?_
  refine w_skip ?_
  refine w_seq ?_
  refine w_seq ?_
  refine w_region ?_
  refine l_op wn (o_val (x_field (k := 0) (j := 2) Try.underlying85 rfl Try.sizeOf83 rfl (et (v := (Value.pointer (some ⟨w.heap.size, 0, none⟩))) rfl)) ?_)
  refine l_op wn (o_val (x_load (v := (Value.slice A_4276 n_4277 c_4278)) Try.isAgg83 (et (v := (Value.pointer (some ⟨w.heap.size, 2, none⟩))) rfl) ((bx_4306.cell 2).trans rfl)) ?_)
  refine l_op wn (o_val (x_field (k := 0) (j := 2) Try.underlying85 rfl Try.sizeOf83 rfl (et (v := (Value.pointer (some ⟨w_4296.heap.size, 0, none⟩))) rfl)) ?_)
  refine l_op wn (o_val (x_load (v := (Value.slice A_4289 n_4290 c_4291)) Try.isAgg83 (et (v := (Value.pointer (some ⟨w_4296.heap.size, 2, none⟩))) rfl) ((bx_4304.cell 2).trans rfl)) ?_)
  refine l_op wn (o_call (x_call Try.call94 ef (a2 (et (v := (Value.slice A_4276 n_4277 c_4278)) rfl) (et (v := (Value.slice A_4289 n_4290 c_4291)) rfl))) (eq_EditS w_4301 xs_4275 A_4276 n_4277 c_4278 _ A_4289 n_4290 c_4291 _ ok_4286 (hr_4287.below hB_4305) (hr_4294.below hB_4305)) ?_)
  rintro _ w_4309 ⟨rfl, k_4310⟩
  refine ⟨_, rfl, ?_⟩
  have hB_4311 := below_next hB_4305 k_4310 (by omega)
  have z_4312 := k_4310.size
  have bx_4313 := bx_4306.below k_4310
  have bx_4314 := bx_4304.below k_4310
  refine l_op wn (o_val (x_not (et (v := (Value.bool true)) rfl)) ?_)
  refine l_nil ?_
  refine w_if_f (et (v := (Value.bool false)) rfl) ?_
  refine w_skip ?_
  refine w_seq ?_
  refine w_region ?_
  refine l_op wn (o_val (x_assign ec) ?_)
  refine l_nil ?_
  refine w_ret ?_
  exact ⟨_, r_tmp (v := (Value.bool true)) Try.results80 rfl, rfl, hB_4311⟩

set_option maxHeartbeats 200000 in
theorem eq_ChangeS (w : World) (xs : List V) (A : Option Addr) (n c : Nat) (F : List Nat) (A' : Option Addr) (n' c' : Nat) (F' : List Nat) (ok : Oks xs tChange) (hr : Rep w (.list xs) [.slice A n c] F) (hr' : Rep w (.list xs) [.slice A' n' c'] F') : Calls Try.prog 52 #[.slice A n c, .slice A' n' c'] w (Rets w (.bool true)) := by
  have hB0 := Below.refl w.heap.size w
  obtain ⟨ln, lc, lm⟩ := hr.len
  obtain ⟨ln', lc', lm'⟩ := hr'.len
  refine enter (N := 27) Try.func52 rfl Try.ntmps52 rfl ?_
  refine w_seq ?_
  refine w_region ?_
  refine l_op wn (o_val (x_assign ec) ?_)
  refine l_nil ?_
  refine w_seq ?_
  refine w_seq ?_
  refine w_region ?_
  refine l_op wn (o_val (x_move (et (v := (Value.slice A n c)) rfl)) ?_)
  refine l_op wn (o_val (x_len Try.underlying42 (et (v := (Value.slice A n c)) rfl)) ?_)
  refine l_op wn (o_val (x_move (et (v := (Value.slice A' n' c')) rfl)) ?_)
  refine l_op wn (o_val (x_len Try.underlying42 (et (v := (Value.slice A' n' c')) rfl)) ?_)
  have h_4315 : (n : Int) = (n' : Int) := by omega
  refine l_op wn (o_val (x_neq (r := false) (et (v := (Value.int .i64 (n : Int))) rfl) (et (v := (Value.int .i64 (n' : Int))) rfl) (dec_t h_4315)) ?_)
  refine l_nil ?_
  refine w_if_f (et (v := (Value.bool false)) rfl) ?_
  refine w_skip ?_
  refine w_seq ?_
  refine w_seq ?_
  refine w_region ?_
  refine l_op wn (o_val (x_assign ec) ?_)
  refine l_nil ?_
  refine w_block ?_
  refine w_loop (fun μ f w' => ∃ (i : Nat), f 0 = (Value.slice A n c) ∧ f 1 = (Value.slice A' n' c') ∧ f 5 = (Value.int .i64 (i : Int)) ∧ Below w.heap.size w w' ∧ (i ≤ n) ∧ μ = n - i) (n - 0) ?_ ?_
  · exact ⟨0, rfl, rfl, vint (a := 0) (by omega), hB0, (by omega), rfl⟩
  rintro m_4318 f_4316 w_4317 ⟨i, hs_4320, hs_4321, hs_4322, hB_4319, hi, rfl⟩
  have z_4323 := hB_4319.size
  refine w_seq ?_
  refine w_seq ?_
  refine w_region ?_
  refine l_op wn (o_val (x_move (et (v := (Value.int .i64 (i : Int))) hs_4322)) ?_)
  refine l_op wn (o_val (x_move (et (v := (Value.slice A n c)) hs_4320)) ?_)
  refine l_op wn (o_val (x_len Try.underlying42 (et (v := (Value.slice A n c)) rfl)) ?_)
  by_cases h_4324 : (i : Int) < (n : Int)
  rotate_left
  · refine l_op wn (o_val (x_lss (r := false) (et (v := (Value.int .i64 (i : Int))) rfl) (et (v := (Value.int .i64 (n : Int))) rfl) (dec_f h_4324)) ?_)
    refine l_nil ?_
    refine w_if_f (et (v := (Value.bool false)) rfl) ?_
    refine w_exit ?_
    refine Eq.mpr (if_pos rfl) ?_
    refine w_seq ?_
    refine w_region ?_
    refine l_op wn (o_val (x_assign ec) ?_)
    refine l_nil ?_
    refine w_ret ?_
    exact ⟨_, r_tmp (v := (Value.bool true)) Try.results52 rfl, rfl, hB_4319⟩
  refine l_op wn (o_val (x_lss (r := true) (et (v := (Value.int .i64 (i : Int))) rfl) (et (v := (Value.int .i64 (n : Int))) rfl) (dec_t h_4324)) ?_)
  refine l_nil ?_
  refine w_if_t (et (v := (Value.bool true)) rfl) ?_
  refine w_skip ?_
  refine w_seq ?_
  refine w_block ?_
  refine w_seq ?_
  obtain ⟨b_4326, o_4327, x_4328, cs_4329, G_4330, hA_4331, hbF_4332, hlt_4333, hx_4334, hrx_4335, hG_4336, hl_4337, hcl_4338⟩ := hr.elem (k := 3) (fun y hy => wd_Change (ok.mem y hy)) (i := i) (by omega)
  obtain ⟨i_4339, i_4340, xs_4341, A_4342, n_4343, c_4344, F_4345, rfl, rfl, rfl, bd_4350, bd_4351, ok_4352, hr_4353, ln_4354⟩ := open_Change (ok.get hx_4334) hrx_4335
  obtain ⟨b_4355, o_4356, cs_4357, G_4358, hA_4359, hbF_4360, hlt_4361, hrx_4362, hG_4363, hl_4364, hcl_4365⟩ := hr'.elemx (k := 3) (fun y hy => wd_Change (ok.mem y hy)) hx_4334
  obtain ⟨A_4366, n_4367, c_4368, F_4369, rfl, hr_4371, ln_4372⟩ := cellr_Change hrx_4362
  have hS_4373 := Sm.start [b_4326, b_4355] w_4317
  refine w_draw (Sm [b_4326, b_4355] w_4317) [(0, true), (1, true), (2, true), (3, true), (4, true), (5, true), (6, true), (7, true), (8, false), (9, true)] (by kernel_rfl) (by kernel_rfl) rfl (by kernel_rfl) ?_
  have hB_4374 := hB_4319.drew
  have z_4375 : w_4317.drew.heap.size = w_4317.heap.size := rfl
  refine d_q rfl rfl wn (fun w' hS' => (x_move (et (v := (Value.slice A n c)) hs_4320))) hS_4373 ?_
  refine d_q rfl rfl wn (fun w' hS' => (x_move (et (v := (Value.int .i64 (i : Int))) hs_4322))) hS_4373 ?_
  refine d_q rfl rfl wn (fun w' hS' => (x_index' (i := i) Try.underlying42 Try.sizeOf85 (et (v := (Value.slice A n c)) rfl) hA_4331 (et (v := (Value.int .i64 (i : Int))) rfl) (by omega) (by omega))) hS_4373 ?_
  refine d_q rfl rfl wn (fun w' hS' => (x_loadN (cs := [(Value.int .i64 i_4339), (Value.int .i64 i_4340), (Value.slice A_4342 n_4343 c_4344)]) Try.isAgg85 Try.sizeOf85 (et (v := (Value.pointer (some ⟨b_4326, o_4327 + i * 3, none⟩))) rfl) rfl (((hl_4337.keep (hB_4319.block _ hlt_4333)).keep (hS' _ (by simp)))))) hS_4373 ?_
  refine d_q rfl rfl wn (fun w' hS' => (x_move (et (v := (Value.slice A' n' c')) hs_4321))) hS_4373 ?_
  refine d_q rfl rfl wn (fun w' hS' => (x_move (et (v := (Value.int .i64 (i : Int))) hs_4322))) hS_4373 ?_
  refine d_q rfl rfl wn (fun w' hS' => (x_index' (i := i) Try.underlying42 Try.sizeOf85 (et (v := (Value.slice A' n' c')) rfl) hA_4359 (et (v := (Value.int .i64 (i : Int))) rfl) (by omega) (by omega))) hS_4373 ?_
  refine d_q rfl rfl wn (fun w' hS' => (x_loadN (cs := [(Value.int .i64 i_4339), (Value.int .i64 i_4340), (Value.slice A_4366 n_4367 c_4368)]) Try.isAgg85 Try.sizeOf85 (et (v := (Value.pointer (some ⟨b_4355, o_4356 + i * 3, none⟩))) rfl) rfl (((hl_4364.keep (hB_4319.block _ hlt_4361)).keep (hS' _ (by simp)))))) hS_4373 ?_
  have rr_4378 := (ragg (rcons (rint (w := w_4317.drew) (n := i_4339) bd_4350) (rcons (rint (w := w_4317.drew) (n := i_4340) bd_4351) (rcons (hr_4353.below hB_4374) (rnil (w := w_4317.drew))))))
  have rr_4379 := (ragg (rcons (rint (w := w_4317.drew) (n := i_4339) bd_4350) (rcons (rint (w := w_4317.drew) (n := i_4340) bd_4351) (rcons (hr_4371.below hB_4374) (rnil (w := w_4317.drew))))))
  refine d_op rfl wn (o_call (x_call Try.call80 ef (a2 (et (v := (Value.agg #[(Value.int .i64 i_4339), (Value.int .i64 i_4340), (Value.slice A_4342 n_4343 c_4344)])) rfl) (et (v := (Value.agg #[(Value.int .i64 i_4339), (Value.int .i64 i_4340), (Value.slice A_4366 n_4367 c_4368)])) rfl))) (eq_Change w_4317.drew (.agg [.int i_4339, .int i_4340, .list xs_4341]) [(Value.int .i64 i_4339), (Value.int .i64 i_4340), (Value.slice A_4342 n_4343 c_4344)] _ [(Value.int .i64 i_4339), (Value.int .i64 i_4340), (Value.slice A_4366 n_4367 c_4368)] _ (ok_agg rfl (okz_cons (ok_int rfl) (okz_cons (ok_int rfl) (okz_cons (ok_list rfl ok_4352) okz_nil)))) rr_4378 rr_4379) ?_)
  rintro _ w_4376 ⟨rfl, k_4377⟩
  refine ⟨_, rfl, ?_⟩
  have hB_4380 := below_next hB_4374 k_4377 (by omega)
  have z_4381 := k_4377.size
  have hS_4382 := hS_4373.next k_4377 (by simp; omega)
  refine ⟨hS_4382, ?_⟩
  refine d_q rfl rfl wn (fun w' hS' => (x_not (et (v := (Value.bool true)) rfl))) hS_4382 ?_
  refine d_nil ?_
  refine w_if_f (et (v := (Value.bool false)) rfl) ?_
  refine w_skip ?_
  refine w_region ?_
  refine l_op wn (o_val (x_move (et (v := (Value.int .i64 (i : Int))) hs_4322)) ?_)
  refine l_op wn (o_val (x_add (et (v := (Value.int .i64 (i : Int))) rfl) ec (by omega)) ?_)
  refine l_op wn (o_val (x_assign (et (v := (Value.int .i64 ((i : Int) + 1))) rfl)) ?_)
  refine l_nil ?_
  exact ⟨n - (i + 1), by omega, ⟨i + 1, hs_4320, hs_4321, vint (a := ((i : Int) + 1)) (by omega), hB_4380, (by omega), rfl⟩⟩

set_option maxHeartbeats 200000 in
theorem eq_Journal (w : World) (x : V) (cs : List Value) (F : List Nat) (cs' : List Value) (F' : List Nat) (ok : Ok x tJournal) (hr : Rep w x cs F) (hr' : Rep w x cs' F') : Calls Try.prog 23 #[.agg cs.toArray, .agg cs'.toArray] w (Rets w (.bool true)) := by
  obtain ⟨xs_4383, A_4384, n_4385, c_4386, F_4387, xs_4389, A_4390, n_4391, c_4392, F_4393, rfl, rfl, rfl, ok_4398, hr_4399, ln_4400, ok_4401, hr_4402, ln_4403⟩ := open_Journal ok hr
  obtain ⟨A_4404, n_4405, c_4406, F_4407, A_4411, n_4412, c_4413, F_4414, rfl, hr_4409, ln_4410, hr_4416, ln_4417⟩ := cellr_Journal hr'
  have hB0 := Below.refl w.heap.size w
  refine enter (N := 17) Try.func23 rfl Try.ntmps23 rfl ?_
  refine w_seq ?_
  refine w_region ?_
  refine l_op wn (o_new (x_box (cs := [(Value.slice A_4384 n_4385 c_4386), (Value.slice A_4390 n_4391 c_4392)]) (et (v := (Value.agg #[(Value.slice A_4384 n_4385 c_4386), (Value.slice A_4390 n_4391 c_4392)])) rfl)) ?_)
  intro w_4418 z_4419 k_4420 bx_4421
  have hB_4422 := below_next hB0 k_4420 (by omega)
  refine l_op wn (o_new (x_box (cs := [(Value.slice A_4404 n_4405 c_4406), (Value.slice A_4411 n_4412 c_4413)]) (et (v := (Value.agg #[(Value.slice A_4404 n_4405 c_4406), (Value.slice A_4411 n_4412 c_4413)])) rfl)) ?_)
  intro w_4423 z_4424 k_4425 bx_4426
  have hB_4427 := below_next hB_4422 k_4425 (by omega)
  have bx_4428 := bx_4421.below k_4425
  refine l_op wn (o_val (x_assign ec) ?_)
  refine l_nil ?_
  refine w_seq ?_
  refine w_seq ?_
  refine w_region ?_
  refine l_op wn (o_val (x_field (k := 0) (j := 0) Try.underlying44 rfl Try.sizeOf41 rfl (et (v := (Value.pointer (some ⟨w.heap.size, 0, none⟩))) rfl)) ?_)
  refine l_op wn (o_val (x_load (v := (Value.slice A_4384 n_4385 c_4386)) Try.isAgg41 (et (v := (Value.pointer (some ⟨w.heap.size, 0, none⟩))) rfl) ((bx_4428.cell 0).trans rfl)) ?_)
  refine l_op wn (o_val (x_field (k := 0) (j := 0) Try.underlying44 rfl Try.sizeOf41 rfl (et (v := (Value.pointer (some ⟨w_4418.heap.size, 0, none⟩))) rfl)) ?_)
  refine l_op wn (o_val (x_load (v := (Value.slice A_4404 n_4405 c_4406)) Try.isAgg41 (et (v := (Value.pointer (some ⟨w_4418.heap.size, 0, none⟩))) rfl) ((bx_4426.cell 0).trans rfl)) ?_)
  refine l_op wn (o_call (x_call Try.call28 ef (a2 (et (v := (Value.slice A_4384 n_4385 c_4386)) rfl) (et (v := (Value.slice A_4404 n_4405 c_4406)) rfl))) (eq_NodeS w_4423 xs_4383 A_4384 n_4385 c_4386 _ A_4404 n_4405 c_4406 _ ok_4398 (hr_4399.below hB_4427) (hr_4409.below hB_4427)) ?_)
  rintro _ w_4429 ⟨rfl, k_4430⟩
  refine ⟨_, rfl, ?_⟩
  have hB_4431 := below_next hB_4427 k_4430 (by omega)
  have z_4432 := k_4430.size
  have bx_4433 := bx_4428.below k_4430
  have bx_4434 := bx_4426.below k_4430
  refine l_op wn (o_val (x_not (et (v := (Value.bool true)) rfl)) ?_)
  refine l_nil ?_
  refine w_if_f (et (v := (Value.bool false)) rfl) ?_
  refine w_skip ?_
  refine w_seq ?_
  refine w_seq ?_
  refine w_region ?_
  refine l_op wn (o_val (x_field (k := 0) (j := 1) Try.underlying44 rfl Try.sizeOf42 rfl (et (v := (Value.pointer (some ⟨w.heap.size, 0, none⟩))) rfl)) ?_)
  refine l_op wn (o_val (x_load (v := (Value.slice A_4390 n_4391 c_4392)) Try.isAgg42 (et (v := (Value.pointer (some ⟨w.heap.size, 1, none⟩))) rfl) ((bx_4433.cell 1).trans rfl)) ?_)
  refine l_op wn (o_val (x_field (k := 0) (j := 1) Try.underlying44 rfl Try.sizeOf42 rfl (et (v := (Value.pointer (some ⟨w_4418.heap.size, 0, none⟩))) rfl)) ?_)
  refine l_op wn (o_val (x_load (v := (Value.slice A_4411 n_4412 c_4413)) Try.isAgg42 (et (v := (Value.pointer (some ⟨w_4418.heap.size, 1, none⟩))) rfl) ((bx_4434.cell 1).trans rfl)) ?_)
  refine l_op wn (o_call (x_call Try.call52 ef (a2 (et (v := (Value.slice A_4390 n_4391 c_4392)) rfl) (et (v := (Value.slice A_4411 n_4412 c_4413)) rfl))) (eq_ChangeS w_4429 xs_4389 A_4390 n_4391 c_4392 _ A_4411 n_4412 c_4413 _ ok_4401 (hr_4402.below hB_4431) (hr_4416.below hB_4431)) ?_)
  rintro _ w_4435 ⟨rfl, k_4436⟩
  refine ⟨_, rfl, ?_⟩
  have hB_4437 := below_next hB_4431 k_4436 (by omega)
  have z_4438 := k_4436.size
  have bx_4439 := bx_4433.below k_4436
  have bx_4440 := bx_4434.below k_4436
  refine l_op wn (o_val (x_not (et (v := (Value.bool true)) rfl)) ?_)
  refine l_nil ?_
  refine w_if_f (et (v := (Value.bool false)) rfl) ?_
  refine w_skip ?_
  refine w_seq ?_
  refine w_region ?_
  refine l_op wn (o_val (x_assign ec) ?_)
  refine l_nil ?_
  refine w_ret ?_
  exact ⟨_, r_tmp (v := (Value.bool true)) Try.results23 rfl, rfl, hB_4437⟩

set_option maxHeartbeats 200000 in
theorem eq_Range (w : World) (x : V) (cs : List Value) (F : List Nat) (cs' : List Value) (F' : List Nat) (ok : Ok x tRange) (hr : Rep w x cs F) (hr' : Rep w x cs' F') : Calls Try.prog 113 #[.agg cs.toArray, .agg cs'.toArray] w (Rets w (.bool true)) := by
  obtain ⟨i_4441, i_4442, rfl, rfl, rfl, bd_4446, bd_4447⟩ := open_Range ok hr
  obtain rfl := cellr_Range hr'
  have hB0 := Below.refl w.heap.size w
  refine enter (N := 15) Try.func113 rfl Try.ntmps113 rfl ?_
  refine w_seq ?_
  refine w_region ?_
  refine l_op wn (o_new (x_box (cs := [(Value.int .i64 i_4441), (Value.int .i64 i_4442)]) (et (v := (Value.agg #[(Value.int .i64 i_4441), (Value.int .i64 i_4442)])) rfl)) ?_)
  intro w_4448 z_4449 k_4450 bx_4451
  have hB_4452 := below_next hB0 k_4450 (by omega)
  refine l_op wn (o_new (x_box (cs := [(Value.int .i64 i_4441), (Value.int .i64 i_4442)]) (et (v := (Value.agg #[(Value.int .i64 i_4441), (Value.int .i64 i_4442)])) rfl)) ?_)
  intro w_4453 z_4454 k_4455 bx_4456
  have hB_4457 := below_next hB_4452 k_4455 (by omega)
  have bx_4458 := bx_4451.below k_4455
  refine l_op wn (o_val (x_assign ec) ?_)
  refine l_nil ?_
  refine w_seq ?_
  refine w_seq ?_
  refine w_region ?_
  refine l_op wn (o_val (x_field (k := 0) (j := 0) Try.underlying176 rfl Try.sizeOf3 rfl (et (v := (Value.pointer (some ⟨w.heap.size, 0, none⟩))) rfl)) ?_)
  refine l_op wn (o_val (x_load (v := (Value.int .i64 i_4441)) Try.isAgg3 (et (v := (Value.pointer (some ⟨w.heap.size, 0, none⟩))) rfl) ((bx_4458.cell 0).trans rfl)) ?_)
  refine l_op wn (o_val (x_field (k := 0) (j := 0) Try.underlying176 rfl Try.sizeOf3 rfl (et (v := (Value.pointer (some ⟨w_4448.heap.size, 0, none⟩))) rfl)) ?_)
  refine l_op wn (o_val (x_load (v := (Value.int .i64 i_4441)) Try.isAgg3 (et (v := (Value.pointer (some ⟨w_4448.heap.size, 0, none⟩))) rfl) ((bx_4456.cell 0).trans rfl)) ?_)
  have h_4459 : i_4441 = i_4441 := rfl
  refine l_op wn (o_val (x_neq (r := false) (et (v := (Value.int .i64 i_4441)) rfl) (et (v := (Value.int .i64 i_4441)) rfl) (dec_t h_4459)) ?_)
  refine l_nil ?_
  refine w_if_f (et (v := (Value.bool false)) rfl) ?_
  refine w_skip ?_
  refine w_seq ?_
  refine w_seq ?_
  refine w_region ?_
  refine l_op wn (o_val (x_field (k := 0) (j := 1) Try.underlying176 rfl Try.sizeOf3 rfl (et (v := (Value.pointer (some ⟨w.heap.size, 0, none⟩))) rfl)) ?_)
  refine l_op wn (o_val (x_load (v := (Value.int .i64 i_4442)) Try.isAgg3 (et (v := (Value.pointer (some ⟨w.heap.size, 1, none⟩))) rfl) ((bx_4458.cell 1).trans rfl)) ?_)
  refine l_op wn (o_val (x_field (k := 0) (j := 1) Try.underlying176 rfl Try.sizeOf3 rfl (et (v := (Value.pointer (some ⟨w_4448.heap.size, 0, none⟩))) rfl)) ?_)
  refine l_op wn (o_val (x_load (v := (Value.int .i64 i_4442)) Try.isAgg3 (et (v := (Value.pointer (some ⟨w_4448.heap.size, 1, none⟩))) rfl) ((bx_4456.cell 1).trans rfl)) ?_)
  have h_4460 : i_4442 = i_4442 := rfl
  refine l_op wn (o_val (x_neq (r := false) (et (v := (Value.int .i64 i_4442)) rfl) (et (v := (Value.int .i64 i_4442)) rfl) (dec_t h_4460)) ?_)
  refine l_nil ?_
  refine w_if_f (et (v := (Value.bool false)) rfl) ?_
  refine w_skip ?_
  refine w_seq ?_
  refine w_region ?_
  refine l_op wn (o_val (x_assign ec) ?_)
  refine l_nil ?_
  refine w_ret ?_
  exact ⟨_, r_tmp (v := (Value.bool true)) Try.results113 rfl, rfl, hB_4457⟩

set_option maxHeartbeats 200000 in
theorem eq_RangeS (w : World) (xs : List V) (A : Option Addr) (n c : Nat) (F : List Nat) (A' : Option Addr) (n' c' : Nat) (F' : List Nat) (ok : Oks xs tRange) (hr : Rep w (.list xs) [.slice A n c] F) (hr' : Rep w (.list xs) [.slice A' n' c'] F') : Calls Try.prog 108 #[.slice A n c, .slice A' n' c'] w (Rets w (.bool true)) := by
  have hB0 := Below.refl w.heap.size w
  obtain ⟨ln, lc, lm⟩ := hr.len
  obtain ⟨ln', lc', lm'⟩ := hr'.len
  refine enter (N := 27) Try.func108 rfl Try.ntmps108 rfl ?_
  refine w_seq ?_
  refine w_region ?_
  refine l_op wn (o_val (x_assign ec) ?_)
  refine l_nil ?_
  refine w_seq ?_
  refine w_seq ?_
  refine w_region ?_
  refine l_op wn (o_val (x_move (et (v := (Value.slice A n c)) rfl)) ?_)
  refine l_op wn (o_val (x_len Try.underlying130 (et (v := (Value.slice A n c)) rfl)) ?_)
  refine l_op wn (o_val (x_move (et (v := (Value.slice A' n' c')) rfl)) ?_)
  refine l_op wn (o_val (x_len Try.underlying130 (et (v := (Value.slice A' n' c')) rfl)) ?_)
  have h_4461 : (n : Int) = (n' : Int) := by omega
  refine l_op wn (o_val (x_neq (r := false) (et (v := (Value.int .i64 (n : Int))) rfl) (et (v := (Value.int .i64 (n' : Int))) rfl) (dec_t h_4461)) ?_)
  refine l_nil ?_
  refine w_if_f (et (v := (Value.bool false)) rfl) ?_
  refine w_skip ?_
  refine w_seq ?_
  refine w_seq ?_
  refine w_region ?_
  refine l_op wn (o_val (x_assign ec) ?_)
  refine l_nil ?_
  refine w_block ?_
  refine w_loop (fun μ f w' => ∃ (i : Nat), f 0 = (Value.slice A n c) ∧ f 1 = (Value.slice A' n' c') ∧ f 5 = (Value.int .i64 (i : Int)) ∧ Below w.heap.size w w' ∧ (i ≤ n) ∧ μ = n - i) (n - 0) ?_ ?_
  · exact ⟨0, rfl, rfl, vint (a := 0) (by omega), hB0, (by omega), rfl⟩
  rintro m_4464 f_4462 w_4463 ⟨i, hs_4466, hs_4467, hs_4468, hB_4465, hi, rfl⟩
  have z_4469 := hB_4465.size
  refine w_seq ?_
  refine w_seq ?_
  refine w_region ?_
  refine l_op wn (o_val (x_move (et (v := (Value.int .i64 (i : Int))) hs_4468)) ?_)
  refine l_op wn (o_val (x_move (et (v := (Value.slice A n c)) hs_4466)) ?_)
  refine l_op wn (o_val (x_len Try.underlying130 (et (v := (Value.slice A n c)) rfl)) ?_)
  by_cases h_4470 : (i : Int) < (n : Int)
  rotate_left
  · refine l_op wn (o_val (x_lss (r := false) (et (v := (Value.int .i64 (i : Int))) rfl) (et (v := (Value.int .i64 (n : Int))) rfl) (dec_f h_4470)) ?_)
    refine l_nil ?_
    refine w_if_f (et (v := (Value.bool false)) rfl) ?_
    refine w_exit ?_
    refine Eq.mpr (if_pos rfl) ?_
    refine w_seq ?_
    refine w_region ?_
    refine l_op wn (o_val (x_assign ec) ?_)
    refine l_nil ?_
    refine w_ret ?_
    exact ⟨_, r_tmp (v := (Value.bool true)) Try.results108 rfl, rfl, hB_4465⟩
  refine l_op wn (o_val (x_lss (r := true) (et (v := (Value.int .i64 (i : Int))) rfl) (et (v := (Value.int .i64 (n : Int))) rfl) (dec_t h_4470)) ?_)
  refine l_nil ?_
  refine w_if_t (et (v := (Value.bool true)) rfl) ?_
  refine w_skip ?_
  refine w_seq ?_
  refine w_block ?_
  refine w_seq ?_
  obtain ⟨b_4472, o_4473, x_4474, cs_4475, G_4476, hA_4477, hbF_4478, hlt_4479, hx_4480, hrx_4481, hG_4482, hl_4483, hcl_4484⟩ := hr.elem (k := 2) (fun y hy => wd_Range (ok.mem y hy)) (i := i) (by omega)
  obtain ⟨i_4485, i_4486, rfl, rfl, rfl, bd_4490, bd_4491⟩ := open_Range (ok.get hx_4480) hrx_4481
  obtain ⟨b_4492, o_4493, cs_4494, G_4495, hA_4496, hbF_4497, hlt_4498, hrx_4499, hG_4500, hl_4501, hcl_4502⟩ := hr'.elemx (k := 2) (fun y hy => wd_Range (ok.mem y hy)) hx_4480
  obtain rfl := cellr_Range hrx_4499
  have hS_4503 := Sm.start [b_4472, b_4492] w_4463
  refine w_draw (Sm [b_4472, b_4492] w_4463) [(0, true), (1, true), (2, true), (3, true), (4, true), (5, true), (6, true), (7, true), (8, false), (9, true)] (by kernel_rfl) (by kernel_rfl) rfl (by kernel_rfl) ?_
  have hB_4504 := hB_4465.drew
  have z_4505 : w_4463.drew.heap.size = w_4463.heap.size := rfl
  refine d_q rfl rfl wn (fun w' hS' => (x_move (et (v := (Value.slice A n c)) hs_4466))) hS_4503 ?_
  refine d_q rfl rfl wn (fun w' hS' => (x_move (et (v := (Value.int .i64 (i : Int))) hs_4468))) hS_4503 ?_
  refine d_q rfl rfl wn (fun w' hS' => (x_index' (i := i) Try.underlying130 Try.sizeOf176 (et (v := (Value.slice A n c)) rfl) hA_4477 (et (v := (Value.int .i64 (i : Int))) rfl) (by omega) (by omega))) hS_4503 ?_
  refine d_q rfl rfl wn (fun w' hS' => (x_loadN (cs := [(Value.int .i64 i_4485), (Value.int .i64 i_4486)]) Try.isAgg176 Try.sizeOf176 (et (v := (Value.pointer (some ⟨b_4472, o_4473 + i * 2, none⟩))) rfl) rfl (((hl_4483.keep (hB_4465.block _ hlt_4479)).keep (hS' _ (by simp)))))) hS_4503 ?_
  refine d_q rfl rfl wn (fun w' hS' => (x_move (et (v := (Value.slice A' n' c')) hs_4467))) hS_4503 ?_
  refine d_q rfl rfl wn (fun w' hS' => (x_move (et (v := (Value.int .i64 (i : Int))) hs_4468))) hS_4503 ?_
  refine d_q rfl rfl wn (fun w' hS' => (x_index' (i := i) Try.underlying130 Try.sizeOf176 (et (v := (Value.slice A' n' c')) rfl) hA_4496 (et (v := (Value.int .i64 (i : Int))) rfl) (by omega) (by omega))) hS_4503 ?_
  refine d_q rfl rfl wn (fun w' hS' => (x_loadN (cs := [(Value.int .i64 i_4485), (Value.int .i64 i_4486)]) Try.isAgg176 Try.sizeOf176 (et (v := (Value.pointer (some ⟨b_4492, o_4493 + i * 2, none⟩))) rfl) rfl (((hl_4501.keep (hB_4465.block _ hlt_4498)).keep (hS' _ (by simp)))))) hS_4503 ?_
  have rr_4508 := (ragg (rcons (rint (w := w_4463.drew) (n := i_4485) bd_4490) (rcons (rint (w := w_4463.drew) (n := i_4486) bd_4491) (rnil (w := w_4463.drew)))))
  have rr_4509 := (ragg (rcons (rint (w := w_4463.drew) (n := i_4485) bd_4490) (rcons (rint (w := w_4463.drew) (n := i_4486) bd_4491) (rnil (w := w_4463.drew)))))
  refine d_op rfl wn (o_call (x_call Try.call113 ef (a2 (et (v := (Value.agg #[(Value.int .i64 i_4485), (Value.int .i64 i_4486)])) rfl) (et (v := (Value.agg #[(Value.int .i64 i_4485), (Value.int .i64 i_4486)])) rfl))) (eq_Range w_4463.drew (.agg [.int i_4485, .int i_4486]) [(Value.int .i64 i_4485), (Value.int .i64 i_4486)] _ [(Value.int .i64 i_4485), (Value.int .i64 i_4486)] _ (ok_agg rfl (okz_cons (ok_int rfl) (okz_cons (ok_int rfl) okz_nil))) rr_4508 rr_4509) ?_)
  rintro _ w_4506 ⟨rfl, k_4507⟩
  refine ⟨_, rfl, ?_⟩
  have hB_4510 := below_next hB_4504 k_4507 (by omega)
  have z_4511 := k_4507.size
  have hS_4512 := hS_4503.next k_4507 (by simp; omega)
  refine ⟨hS_4512, ?_⟩
  refine d_q rfl rfl wn (fun w' hS' => (x_not (et (v := (Value.bool true)) rfl))) hS_4512 ?_
  refine d_nil ?_
  refine w_if_f (et (v := (Value.bool false)) rfl) ?_
  refine w_skip ?_
  refine w_region ?_
  refine l_op wn (o_val (x_move (et (v := (Value.int .i64 (i : Int))) hs_4468)) ?_)
  refine l_op wn (o_val (x_add (et (v := (Value.int .i64 (i : Int))) rfl) ec (by omega)) ?_)
  refine l_op wn (o_val (x_assign (et (v := (Value.int .i64 ((i : Int) + 1))) rfl)) ?_)
  refine l_nil ?_
  exact ⟨n - (i + 1), by omega, ⟨i + 1, hs_4466, hs_4467, vint (a := ((i : Int) + 1)) (by omega), hB_4510, (by omega), rfl⟩⟩

set_option maxHeartbeats 200000 in
theorem eq_Type (w : World) (x : V) (cs : List Value) (F : List Nat) (cs' : List Value) (F' : List Nat) (ok : Ok x tType) (hr : Rep w x cs F) (hr' : Rep w x cs' F') : Calls Try.prog 99 #[.agg cs.toArray, .agg cs'.toArray] w (Rets w (.bool true)) := by
  obtain ⟨i_4513, xs_4514, A_4515, n_4516, c_4517, F_4518, xs_4520, A_4521, n_4522, c_4523, F_4524, s_4526, s_4527, rfl, rfl, rfl, bd_4531, ok_4532, hr_4533, ln_4534, ok_4535, hr_4536, ln_4537, bd_4538, bd_4539⟩ := open_Type ok hr
  obtain ⟨A_4540, n_4541, c_4542, F_4543, A_4547, n_4548, c_4549, F_4550, rfl, hr_4545, ln_4546, hr_4552, ln_4553⟩ := cellr_Type hr'
  have hB0 := Below.refl w.heap.size w
  refine enter (N := 32) Try.func99 rfl Try.ntmps99 rfl ?_
  refine w_seq ?_
  refine w_region ?_
  refine l_op wn (o_new (x_box (cs := [(Value.int .i64 i_4513), (Value.slice A_4515 n_4516 c_4517), (Value.slice A_4521 n_4522 c_4523), (Value.string s_4526), (Value.string s_4527)]) (et (v := (Value.agg #[(Value.int .i64 i_4513), (Value.slice A_4515 n_4516 c_4517), (Value.slice A_4521 n_4522 c_4523), (Value.string s_4526), (Value.string s_4527)])) rfl)) ?_)
  intro w_4554 z_4555 k_4556 bx_4557
  have hB_4558 := below_next hB0 k_4556 (by omega)
  refine l_op wn (o_new (x_box (cs := [(Value.int .i64 i_4513), (Value.slice A_4540 n_4541 c_4542), (Value.slice A_4547 n_4548 c_4549), (Value.string s_4526), (Value.string s_4527)]) (et (v := (Value.agg #[(Value.int .i64 i_4513), (Value.slice A_4540 n_4541 c_4542), (Value.slice A_4547 n_4548 c_4549), (Value.string s_4526), (Value.string s_4527)])) rfl)) ?_)
  intro w_4559 z_4560 k_4561 bx_4562
  have hB_4563 := below_next hB_4558 k_4561 (by omega)
  have bx_4564 := bx_4557.below k_4561
  refine l_op wn (o_val (x_assign ec) ?_)
  refine l_nil ?_
  refine w_seq ?_
  refine w_seq ?_
  refine w_region ?_
  refine l_op wn (o_val (x_field (k := 0) (j := 0) Try.underlying132 rfl Try.sizeOf3 rfl (et (v := (Value.pointer (some ⟨w.heap.size, 0, none⟩))) rfl)) ?_)
  refine l_op wn (o_val (x_load (v := (Value.int .i64 i_4513)) Try.isAgg3 (et (v := (Value.pointer (some ⟨w.heap.size, 0, none⟩))) rfl) ((bx_4564.cell 0).trans rfl)) ?_)
  refine l_op wn (o_val (x_field (k := 0) (j := 0) Try.underlying132 rfl Try.sizeOf3 rfl (et (v := (Value.pointer (some ⟨w_4554.heap.size, 0, none⟩))) rfl)) ?_)
  refine l_op wn (o_val (x_load (v := (Value.int .i64 i_4513)) Try.isAgg3 (et (v := (Value.pointer (some ⟨w_4554.heap.size, 0, none⟩))) rfl) ((bx_4562.cell 0).trans rfl)) ?_)
  have h_4565 : i_4513 = i_4513 := rfl
  refine l_op wn (o_val (x_neq (r := false) (et (v := (Value.int .i64 i_4513)) rfl) (et (v := (Value.int .i64 i_4513)) rfl) (dec_t h_4565)) ?_)
  refine l_nil ?_
  refine w_if_f (et (v := (Value.bool false)) rfl) ?_
  refine w_skip ?_
  refine w_seq ?_
  refine w_seq ?_
  refine w_region ?_
  refine l_op wn (o_val (x_field (k := 0) (j := 1) Try.underlying132 rfl Try.sizeOf130 rfl (et (v := (Value.pointer (some ⟨w.heap.size, 0, none⟩))) rfl)) ?_)
  refine l_op wn (o_val (x_load (v := (Value.slice A_4515 n_4516 c_4517)) Try.isAgg130 (et (v := (Value.pointer (some ⟨w.heap.size, 1, none⟩))) rfl) ((bx_4564.cell 1).trans rfl)) ?_)
  refine l_op wn (o_val (x_field (k := 0) (j := 1) Try.underlying132 rfl Try.sizeOf130 rfl (et (v := (Value.pointer (some ⟨w_4554.heap.size, 0, none⟩))) rfl)) ?_)
  refine l_op wn (o_val (x_load (v := (Value.slice A_4540 n_4541 c_4542)) Try.isAgg130 (et (v := (Value.pointer (some ⟨w_4554.heap.size, 1, none⟩))) rfl) ((bx_4562.cell 1).trans rfl)) ?_)
  refine l_op wn (o_call (x_call Try.call108 ef (a2 (et (v := (Value.slice A_4515 n_4516 c_4517)) rfl) (et (v := (Value.slice A_4540 n_4541 c_4542)) rfl))) (eq_RangeS w_4559 xs_4514 A_4515 n_4516 c_4517 _ A_4540 n_4541 c_4542 _ ok_4532 (hr_4533.below hB_4563) (hr_4545.below hB_4563)) ?_)
  rintro _ w_4566 ⟨rfl, k_4567⟩
  refine ⟨_, rfl, ?_⟩
  have hB_4568 := below_next hB_4563 k_4567 (by omega)
  have z_4569 := k_4567.size
  have bx_4570 := bx_4564.below k_4567
  have bx_4571 := bx_4562.below k_4567
  refine l_op wn (o_val (x_not (et (v := (Value.bool true)) rfl)) ?_)
  refine l_nil ?_
  refine w_if_f (et (v := (Value.bool false)) rfl) ?_
  refine w_skip ?_
  refine w_seq ?_
  refine w_seq ?_
  refine w_region ?_
  refine l_op wn (o_val (x_field (k := 0) (j := 2) Try.underlying132 rfl Try.sizeOf29 rfl (et (v := (Value.pointer (some ⟨w.heap.size, 0, none⟩))) rfl)) ?_)
  refine l_op wn (o_val (x_load (v := (Value.slice A_4521 n_4522 c_4523)) Try.isAgg29 (et (v := (Value.pointer (some ⟨w.heap.size, 2, none⟩))) rfl) ((bx_4570.cell 2).trans rfl)) ?_)
  refine l_op wn (o_val (x_field (k := 0) (j := 2) Try.underlying132 rfl Try.sizeOf29 rfl (et (v := (Value.pointer (some ⟨w_4554.heap.size, 0, none⟩))) rfl)) ?_)
  refine l_op wn (o_val (x_load (v := (Value.slice A_4547 n_4548 c_4549)) Try.isAgg29 (et (v := (Value.pointer (some ⟨w_4554.heap.size, 2, none⟩))) rfl) ((bx_4571.cell 2).trans rfl)) ?_)
  refine l_op wn (o_call (x_call Try.call18 ef (a2 (et (v := (Value.slice A_4521 n_4522 c_4523)) rfl) (et (v := (Value.slice A_4547 n_4548 c_4549)) rfl))) (eq_StrS w_4566 xs_4520 A_4521 n_4522 c_4523 _ A_4547 n_4548 c_4549 _ ok_4535 (hr_4536.below hB_4568) (hr_4552.below hB_4568)) ?_)
  rintro _ w_4572 ⟨rfl, k_4573⟩
  refine ⟨_, rfl, ?_⟩
  have hB_4574 := below_next hB_4568 k_4573 (by omega)
  have z_4575 := k_4573.size
  have bx_4576 := bx_4570.below k_4573
  have bx_4577 := bx_4571.below k_4573
  refine l_op wn (o_val (x_not (et (v := (Value.bool true)) rfl)) ?_)
  refine l_nil ?_
  refine w_if_f (et (v := (Value.bool false)) rfl) ?_
  refine w_skip ?_
  refine w_seq ?_
  refine w_seq ?_
  refine w_region ?_
  refine l_op wn (o_val (x_field (k := 0) (j := 3) Try.underlying132 rfl Try.sizeOf9 rfl (et (v := (Value.pointer (some ⟨w.heap.size, 0, none⟩))) rfl)) ?_)
  refine l_op wn (o_val (x_load (v := (Value.string s_4526)) Try.isAgg9 (et (v := (Value.pointer (some ⟨w.heap.size, 3, none⟩))) rfl) ((bx_4576.cell 3).trans rfl)) ?_)
  refine l_op wn (o_val (x_field (k := 0) (j := 3) Try.underlying132 rfl Try.sizeOf9 rfl (et (v := (Value.pointer (some ⟨w_4554.heap.size, 0, none⟩))) rfl)) ?_)
  refine l_op wn (o_val (x_load (v := (Value.string s_4526)) Try.isAgg9 (et (v := (Value.pointer (some ⟨w_4554.heap.size, 3, none⟩))) rfl) ((bx_4577.cell 3).trans rfl)) ?_)
  have h_4578 : s_4526 = s_4526 := rfl
  refine l_op wn (o_val (x_sneq (r := false) (et (v := (Value.string s_4526)) rfl) (et (v := (Value.string s_4526)) rfl) (dec_t h_4578)) ?_)
  refine l_nil ?_
  refine w_if_f (et (v := (Value.bool false)) rfl) ?_
  refine w_skip ?_
  refine w_seq ?_
  refine w_seq ?_
  refine w_region ?_
  refine l_op wn (o_val (x_field (k := 0) (j := 4) Try.underlying132 rfl Try.sizeOf9 rfl (et (v := (Value.pointer (some ⟨w.heap.size, 0, none⟩))) rfl)) ?_)
  refine l_op wn (o_val (x_load (v := (Value.string s_4527)) Try.isAgg9 (et (v := (Value.pointer (some ⟨w.heap.size, 4, none⟩))) rfl) ((bx_4576.cell 4).trans rfl)) ?_)
  refine l_op wn (o_val (x_field (k := 0) (j := 4) Try.underlying132 rfl Try.sizeOf9 rfl (et (v := (Value.pointer (some ⟨w_4554.heap.size, 0, none⟩))) rfl)) ?_)
  refine l_op wn (o_val (x_load (v := (Value.string s_4527)) Try.isAgg9 (et (v := (Value.pointer (some ⟨w_4554.heap.size, 4, none⟩))) rfl) ((bx_4577.cell 4).trans rfl)) ?_)
  have h_4579 : s_4527 = s_4527 := rfl
  refine l_op wn (o_val (x_sneq (r := false) (et (v := (Value.string s_4527)) rfl) (et (v := (Value.string s_4527)) rfl) (dec_t h_4579)) ?_)
  refine l_nil ?_
  refine w_if_f (et (v := (Value.bool false)) rfl) ?_
  refine w_skip ?_
  refine w_seq ?_
  refine w_region ?_
  refine l_op wn (o_val (x_assign ec) ?_)
  refine l_nil ?_
  refine w_ret ?_
  exact ⟨_, r_tmp (v := (Value.bool true)) Try.results99 rfl, rfl, hB_4574⟩

set_option maxHeartbeats 200000 in
theorem eq_Test (w : World) (x : V) (cs : List Value) (F : List Nat) (cs' : List Value) (F' : List Nat) (ok : Ok x tTest) (hr : Rep w x cs F) (hr' : Rep w x cs' F') : Calls Try.prog 126 #[.agg cs.toArray, .agg cs'.toArray] w (Rets w (.bool true)) := by
  obtain ⟨s_4580, s_4581, rfl, rfl, rfl, bd_4585, bd_4586⟩ := open_Test ok hr
  obtain rfl := cellr_Test hr'
  have hB0 := Below.refl w.heap.size w
  refine enter (N := 15) Try.func126 rfl Try.ntmps126 rfl ?_
  refine w_seq ?_
  refine w_region ?_
  refine l_op wn (o_new (x_box (cs := [(Value.string s_4580), (Value.string s_4581)]) (et (v := (Value.agg #[(Value.string s_4580), (Value.string s_4581)])) rfl)) ?_)
  intro w_4587 z_4588 k_4589 bx_4590
  have hB_4591 := below_next hB0 k_4589 (by omega)
  refine l_op wn (o_new (x_box (cs := [(Value.string s_4580), (Value.string s_4581)]) (et (v := (Value.agg #[(Value.string s_4580), (Value.string s_4581)])) rfl)) ?_)
  intro w_4592 z_4593 k_4594 bx_4595
  have hB_4596 := below_next hB_4591 k_4594 (by omega)
  have bx_4597 := bx_4590.below k_4594
  refine l_op wn (o_val (x_assign ec) ?_)
  refine l_nil ?_
  refine w_seq ?_
  refine w_seq ?_
  refine w_region ?_
  refine l_op wn (o_val (x_field (k := 0) (j := 0) Try.underlying200 rfl Try.sizeOf9 rfl (et (v := (Value.pointer (some ⟨w.heap.size, 0, none⟩))) rfl)) ?_)
  refine l_op wn (o_val (x_load (v := (Value.string s_4580)) Try.isAgg9 (et (v := (Value.pointer (some ⟨w.heap.size, 0, none⟩))) rfl) ((bx_4597.cell 0).trans rfl)) ?_)
  refine l_op wn (o_val (x_field (k := 0) (j := 0) Try.underlying200 rfl Try.sizeOf9 rfl (et (v := (Value.pointer (some ⟨w_4587.heap.size, 0, none⟩))) rfl)) ?_)
  refine l_op wn (o_val (x_load (v := (Value.string s_4580)) Try.isAgg9 (et (v := (Value.pointer (some ⟨w_4587.heap.size, 0, none⟩))) rfl) ((bx_4595.cell 0).trans rfl)) ?_)
  have h_4598 : s_4580 = s_4580 := rfl
  refine l_op wn (o_val (x_sneq (r := false) (et (v := (Value.string s_4580)) rfl) (et (v := (Value.string s_4580)) rfl) (dec_t h_4598)) ?_)
  refine l_nil ?_
  refine w_if_f (et (v := (Value.bool false)) rfl) ?_
  refine w_skip ?_
  refine w_seq ?_
  refine w_seq ?_
  refine w_region ?_
  refine l_op wn (o_val (x_field (k := 0) (j := 1) Try.underlying200 rfl Try.sizeOf9 rfl (et (v := (Value.pointer (some ⟨w.heap.size, 0, none⟩))) rfl)) ?_)
  refine l_op wn (o_val (x_load (v := (Value.string s_4581)) Try.isAgg9 (et (v := (Value.pointer (some ⟨w.heap.size, 1, none⟩))) rfl) ((bx_4597.cell 1).trans rfl)) ?_)
  refine l_op wn (o_val (x_field (k := 0) (j := 1) Try.underlying200 rfl Try.sizeOf9 rfl (et (v := (Value.pointer (some ⟨w_4587.heap.size, 0, none⟩))) rfl)) ?_)
  refine l_op wn (o_val (x_load (v := (Value.string s_4581)) Try.isAgg9 (et (v := (Value.pointer (some ⟨w_4587.heap.size, 1, none⟩))) rfl) ((bx_4595.cell 1).trans rfl)) ?_)
  have h_4599 : s_4581 = s_4581 := rfl
  refine l_op wn (o_val (x_sneq (r := false) (et (v := (Value.string s_4581)) rfl) (et (v := (Value.string s_4581)) rfl) (dec_t h_4599)) ?_)
  refine l_nil ?_
  refine w_if_f (et (v := (Value.bool false)) rfl) ?_
  refine w_skip ?_
  refine w_seq ?_
  refine w_region ?_
  refine l_op wn (o_val (x_assign ec) ?_)
  refine l_nil ?_
  refine w_ret ?_
  exact ⟨_, r_tmp (v := (Value.bool true)) Try.results126 rfl, rfl, hB_4596⟩

set_option maxHeartbeats 200000 in
theorem eq_TestS (w : World) (xs : List V) (A : Option Addr) (n c : Nat) (F : List Nat) (A' : Option Addr) (n' c' : Nat) (F' : List Nat) (ok : Oks xs tTest) (hr : Rep w (.list xs) [.slice A n c] F) (hr' : Rep w (.list xs) [.slice A' n' c'] F') : Calls Try.prog 123 #[.slice A n c, .slice A' n' c'] w (Rets w (.bool true)) := by
  have hB0 := Below.refl w.heap.size w
  obtain ⟨ln, lc, lm⟩ := hr.len
  obtain ⟨ln', lc', lm'⟩ := hr'.len
  refine enter (N := 27) Try.func123 rfl Try.ntmps123 rfl ?_
  refine w_seq ?_
  refine w_region ?_
  refine l_op wn (o_val (x_assign ec) ?_)
  refine l_nil ?_
  refine w_seq ?_
  refine w_seq ?_
  refine w_region ?_
  refine l_op wn (o_val (x_move (et (v := (Value.slice A n c)) rfl)) ?_)
  refine l_op wn (o_val (x_len Try.underlying189 (et (v := (Value.slice A n c)) rfl)) ?_)
  refine l_op wn (o_val (x_move (et (v := (Value.slice A' n' c')) rfl)) ?_)
  refine l_op wn (o_val (x_len Try.underlying189 (et (v := (Value.slice A' n' c')) rfl)) ?_)
  have h_4600 : (n : Int) = (n' : Int) := by omega
  refine l_op wn (o_val (x_neq (r := false) (et (v := (Value.int .i64 (n : Int))) rfl) (et (v := (Value.int .i64 (n' : Int))) rfl) (dec_t h_4600)) ?_)
  refine l_nil ?_
  refine w_if_f (et (v := (Value.bool false)) rfl) ?_
  refine w_skip ?_
  refine w_seq ?_
  refine w_seq ?_
  refine w_region ?_
  refine l_op wn (o_val (x_assign ec) ?_)
  refine l_nil ?_
  refine w_block ?_
  refine w_loop (fun μ f w' => ∃ (i : Nat), f 0 = (Value.slice A n c) ∧ f 1 = (Value.slice A' n' c') ∧ f 5 = (Value.int .i64 (i : Int)) ∧ Below w.heap.size w w' ∧ (i ≤ n) ∧ μ = n - i) (n - 0) ?_ ?_
  · exact ⟨0, rfl, rfl, vint (a := 0) (by omega), hB0, (by omega), rfl⟩
  rintro m_4603 f_4601 w_4602 ⟨i, hs_4605, hs_4606, hs_4607, hB_4604, hi, rfl⟩
  have z_4608 := hB_4604.size
  refine w_seq ?_
  refine w_seq ?_
  refine w_region ?_
  refine l_op wn (o_val (x_move (et (v := (Value.int .i64 (i : Int))) hs_4607)) ?_)
  refine l_op wn (o_val (x_move (et (v := (Value.slice A n c)) hs_4605)) ?_)
  refine l_op wn (o_val (x_len Try.underlying189 (et (v := (Value.slice A n c)) rfl)) ?_)
  by_cases h_4609 : (i : Int) < (n : Int)
  rotate_left
  · refine l_op wn (o_val (x_lss (r := false) (et (v := (Value.int .i64 (i : Int))) rfl) (et (v := (Value.int .i64 (n : Int))) rfl) (dec_f h_4609)) ?_)
    refine l_nil ?_
    refine w_if_f (et (v := (Value.bool false)) rfl) ?_
    refine w_exit ?_
    refine Eq.mpr (if_pos rfl) ?_
    refine w_seq ?_
    refine w_region ?_
    refine l_op wn (o_val (x_assign ec) ?_)
    refine l_nil ?_
    refine w_ret ?_
    exact ⟨_, r_tmp (v := (Value.bool true)) Try.results123 rfl, rfl, hB_4604⟩
  refine l_op wn (o_val (x_lss (r := true) (et (v := (Value.int .i64 (i : Int))) rfl) (et (v := (Value.int .i64 (n : Int))) rfl) (dec_t h_4609)) ?_)
  refine l_nil ?_
  refine w_if_t (et (v := (Value.bool true)) rfl) ?_
  refine w_skip ?_
  refine w_seq ?_
  refine w_block ?_
  refine w_seq ?_
  obtain ⟨b_4611, o_4612, x_4613, cs_4614, G_4615, hA_4616, hbF_4617, hlt_4618, hx_4619, hrx_4620, hG_4621, hl_4622, hcl_4623⟩ := hr.elem (k := 2) (fun y hy => wd_Test (ok.mem y hy)) (i := i) (by omega)
  obtain ⟨s_4624, s_4625, rfl, rfl, rfl, bd_4629, bd_4630⟩ := open_Test (ok.get hx_4619) hrx_4620
  obtain ⟨b_4631, o_4632, cs_4633, G_4634, hA_4635, hbF_4636, hlt_4637, hrx_4638, hG_4639, hl_4640, hcl_4641⟩ := hr'.elemx (k := 2) (fun y hy => wd_Test (ok.mem y hy)) hx_4619
  obtain rfl := cellr_Test hrx_4638
  have hS_4642 := Sm.start [b_4611, b_4631] w_4602
  refine w_draw (Sm [b_4611, b_4631] w_4602) [(0, true), (1, true), (2, true), (3, true), (4, true), (5, true), (6, true), (7, true), (8, false), (9, true)] (by kernel_rfl) (by kernel_rfl) rfl (by kernel_rfl) ?_
  have hB_4643 := hB_4604.drew
  have z_4644 : w_4602.drew.heap.size = w_4602.heap.size := rfl
  refine d_q rfl rfl wn (fun w' hS' => (x_move (et (v := (Value.slice A n c)) hs_4605))) hS_4642 ?_
  refine d_q rfl rfl wn (fun w' hS' => (x_move (et (v := (Value.int .i64 (i : Int))) hs_4607))) hS_4642 ?_
  refine d_q rfl rfl wn (fun w' hS' => (x_index' (i := i) Try.underlying189 Try.sizeOf200 (et (v := (Value.slice A n c)) rfl) hA_4616 (et (v := (Value.int .i64 (i : Int))) rfl) (by omega) (by omega))) hS_4642 ?_
  refine d_q rfl rfl wn (fun w' hS' => (x_loadN (cs := [(Value.string s_4624), (Value.string s_4625)]) Try.isAgg200 Try.sizeOf200 (et (v := (Value.pointer (some ⟨b_4611, o_4612 + i * 2, none⟩))) rfl) rfl (((hl_4622.keep (hB_4604.block _ hlt_4618)).keep (hS' _ (by simp)))))) hS_4642 ?_
  refine d_q rfl rfl wn (fun w' hS' => (x_move (et (v := (Value.slice A' n' c')) hs_4606))) hS_4642 ?_
  refine d_q rfl rfl wn (fun w' hS' => (x_move (et (v := (Value.int .i64 (i : Int))) hs_4607))) hS_4642 ?_
  refine d_q rfl rfl wn (fun w' hS' => (x_index' (i := i) Try.underlying189 Try.sizeOf200 (et (v := (Value.slice A' n' c')) rfl) hA_4635 (et (v := (Value.int .i64 (i : Int))) rfl) (by omega) (by omega))) hS_4642 ?_
  refine d_q rfl rfl wn (fun w' hS' => (x_loadN (cs := [(Value.string s_4624), (Value.string s_4625)]) Try.isAgg200 Try.sizeOf200 (et (v := (Value.pointer (some ⟨b_4631, o_4632 + i * 2, none⟩))) rfl) rfl (((hl_4640.keep (hB_4604.block _ hlt_4637)).keep (hS' _ (by simp)))))) hS_4642 ?_
  have rr_4647 := (ragg (rcons (rstr (w := w_4602.drew) (n := s_4624) bd_4629) (rcons (rstr (w := w_4602.drew) (n := s_4625) bd_4630) (rnil (w := w_4602.drew)))))
  have rr_4648 := (ragg (rcons (rstr (w := w_4602.drew) (n := s_4624) bd_4629) (rcons (rstr (w := w_4602.drew) (n := s_4625) bd_4630) (rnil (w := w_4602.drew)))))
  refine d_op rfl wn (o_call (x_call Try.call126 ef (a2 (et (v := (Value.agg #[(Value.string s_4624), (Value.string s_4625)])) rfl) (et (v := (Value.agg #[(Value.string s_4624), (Value.string s_4625)])) rfl))) (eq_Test w_4602.drew (.agg [.str s_4624, .str s_4625]) [(Value.string s_4624), (Value.string s_4625)] _ [(Value.string s_4624), (Value.string s_4625)] _ (ok_agg rfl (okz_cons (ok_str rfl) (okz_cons (ok_str rfl) okz_nil))) rr_4647 rr_4648) ?_)
  rintro _ w_4645 ⟨rfl, k_4646⟩
  refine ⟨_, rfl, ?_⟩
  have hB_4649 := below_next hB_4643 k_4646 (by omega)
  have z_4650 := k_4646.size
  have hS_4651 := hS_4642.next k_4646 (by simp; omega)
  refine ⟨hS_4651, ?_⟩
  refine d_q rfl rfl wn (fun w' hS' => (x_not (et (v := (Value.bool true)) rfl))) hS_4651 ?_
  refine d_nil ?_
  refine w_if_f (et (v := (Value.bool false)) rfl) ?_
  refine w_skip ?_
  refine w_region ?_
  refine l_op wn (o_val (x_move (et (v := (Value.int .i64 (i : Int))) hs_4607)) ?_)
  refine l_op wn (o_val (x_add (et (v := (Value.int .i64 (i : Int))) rfl) ec (by omega)) ?_)
  refine l_op wn (o_val (x_assign (et (v := (Value.int .i64 ((i : Int) + 1))) rfl)) ?_)
  refine l_nil ?_
  exact ⟨n - (i + 1), by omega, ⟨i + 1, hs_4605, hs_4606, vint (a := ((i : Int) + 1)) (by omega), hB_4649, (by omega), rfl⟩⟩

set_option maxHeartbeats 200000 in
theorem eq_Step (w : World) (x : V) (cs : List Value) (F : List Nat) (cs' : List Value) (F' : List Nat) (ok : Ok x tStep) (hr : Rep w x cs F) (hr' : Rep w x cs' F') : Calls Try.prog 120 #[.agg cs.toArray, .agg cs'.toArray] w (Rets w (.bool true)) := by
  obtain ⟨s_4652, xs_4653, A_4654, n_4655, c_4656, F_4657, rfl, rfl, rfl, bd_4662, ok_4663, hr_4664, ln_4665⟩ := open_Step ok hr
  obtain ⟨A_4666, n_4667, c_4668, F_4669, rfl, hr_4671, ln_4672⟩ := cellr_Step hr'
  have hB0 := Below.refl w.heap.size w
  refine enter (N := 16) Try.func120 rfl Try.ntmps120 rfl ?_
  refine w_seq ?_
  refine w_region ?_
  refine l_op wn (o_new (x_box (cs := [(Value.string s_4652), (Value.slice A_4654 n_4655 c_4656)]) (et (v := (Value.agg #[(Value.string s_4652), (Value.slice A_4654 n_4655 c_4656)])) rfl)) ?_)
  intro w_4673 z_4674 k_4675 bx_4676
  have hB_4677 := below_next hB0 k_4675 (by omega)
  refine l_op wn (o_new (x_box (cs := [(Value.string s_4652), (Value.slice A_4666 n_4667 c_4668)]) (et (v := (Value.agg #[(Value.string s_4652), (Value.slice A_4666 n_4667 c_4668)])) rfl)) ?_)
  intro w_4678 z_4679 k_4680 bx_4681
  have hB_4682 := below_next hB_4677 k_4680 (by omega)
  have bx_4683 := bx_4676.below k_4680
  refine l_op wn (o_val (x_assign ec) ?_)
  refine l_nil ?_
  refine w_seq ?_
  refine w_seq ?_
  refine w_region ?_
  refine l_op wn (o_val (x_field (k := 0) (j := 0) Try.underlying191 rfl Try.sizeOf9 rfl (et (v := (Value.pointer (some ⟨w.heap.size, 0, none⟩))) rfl)) ?_)
  refine l_op wn (o_val (x_load (v := (Value.string s_4652)) Try.isAgg9 (et (v := (Value.pointer (some ⟨w.heap.size, 0, none⟩))) rfl) ((bx_4683.cell 0).trans rfl)) ?_)
  refine l_op wn (o_val (x_field (k := 0) (j := 0) Try.underlying191 rfl Try.sizeOf9 rfl (et (v := (Value.pointer (some ⟨w_4673.heap.size, 0, none⟩))) rfl)) ?_)
  refine l_op wn (o_val (x_load (v := (Value.string s_4652)) Try.isAgg9 (et (v := (Value.pointer (some ⟨w_4673.heap.size, 0, none⟩))) rfl) ((bx_4681.cell 0).trans rfl)) ?_)
  have h_4684 : s_4652 = s_4652 := rfl
  refine l_op wn (o_val (x_sneq (r := false) (et (v := (Value.string s_4652)) rfl) (et (v := (Value.string s_4652)) rfl) (dec_t h_4684)) ?_)
  refine l_nil ?_
  refine w_if_f (et (v := (Value.bool false)) rfl) ?_
  refine w_skip ?_
  refine w_seq ?_
  refine w_seq ?_
  refine w_region ?_
  refine l_op wn (o_val (x_field (k := 0) (j := 1) Try.underlying191 rfl Try.sizeOf189 rfl (et (v := (Value.pointer (some ⟨w.heap.size, 0, none⟩))) rfl)) ?_)
  refine l_op wn (o_val (x_load (v := (Value.slice A_4654 n_4655 c_4656)) Try.isAgg189 (et (v := (Value.pointer (some ⟨w.heap.size, 1, none⟩))) rfl) ((bx_4683.cell 1).trans rfl)) ?_)
  refine l_op wn (o_val (x_field (k := 0) (j := 1) Try.underlying191 rfl Try.sizeOf189 rfl (et (v := (Value.pointer (some ⟨w_4673.heap.size, 0, none⟩))) rfl)) ?_)
  refine l_op wn (o_val (x_load (v := (Value.slice A_4666 n_4667 c_4668)) Try.isAgg189 (et (v := (Value.pointer (some ⟨w_4673.heap.size, 1, none⟩))) rfl) ((bx_4681.cell 1).trans rfl)) ?_)
  refine l_op wn (o_call (x_call Try.call123 ef (a2 (et (v := (Value.slice A_4654 n_4655 c_4656)) rfl) (et (v := (Value.slice A_4666 n_4667 c_4668)) rfl))) (eq_TestS w_4678 xs_4653 A_4654 n_4655 c_4656 _ A_4666 n_4667 c_4668 _ ok_4663 (hr_4664.below hB_4682) (hr_4671.below hB_4682)) ?_)
  rintro _ w_4685 ⟨rfl, k_4686⟩
  refine ⟨_, rfl, ?_⟩
  have hB_4687 := below_next hB_4682 k_4686 (by omega)
  have z_4688 := k_4686.size
  have bx_4689 := bx_4683.below k_4686
  have bx_4690 := bx_4681.below k_4686
  refine l_op wn (o_val (x_not (et (v := (Value.bool true)) rfl)) ?_)
  refine l_nil ?_
  refine w_if_f (et (v := (Value.bool false)) rfl) ?_
  refine w_skip ?_
  refine w_seq ?_
  refine w_region ?_
  refine l_op wn (o_val (x_assign ec) ?_)
  refine l_nil ?_
  refine w_ret ?_
  exact ⟨_, r_tmp (v := (Value.bool true)) Try.results120 rfl, rfl, hB_4687⟩

set_option maxHeartbeats 200000 in
theorem eq_StepS (w : World) (xs : List V) (A : Option Addr) (n c : Nat) (F : List Nat) (A' : Option Addr) (n' c' : Nat) (F' : List Nat) (ok : Oks xs tStep) (hr : Rep w (.list xs) [.slice A n c] F) (hr' : Rep w (.list xs) [.slice A' n' c'] F') : Calls Try.prog 117 #[.slice A n c, .slice A' n' c'] w (Rets w (.bool true)) := by
  have hB0 := Below.refl w.heap.size w
  obtain ⟨ln, lc, lm⟩ := hr.len
  obtain ⟨ln', lc', lm'⟩ := hr'.len
  refine enter (N := 27) Try.func117 rfl Try.ntmps117 rfl ?_
  refine w_seq ?_
  refine w_region ?_
  refine l_op wn (o_val (x_assign ec) ?_)
  refine l_nil ?_
  refine w_seq ?_
  refine w_seq ?_
  refine w_region ?_
  refine l_op wn (o_val (x_move (et (v := (Value.slice A n c)) rfl)) ?_)
  refine l_op wn (o_val (x_len Try.underlying166 (et (v := (Value.slice A n c)) rfl)) ?_)
  refine l_op wn (o_val (x_move (et (v := (Value.slice A' n' c')) rfl)) ?_)
  refine l_op wn (o_val (x_len Try.underlying166 (et (v := (Value.slice A' n' c')) rfl)) ?_)
  have h_4691 : (n : Int) = (n' : Int) := by omega
  refine l_op wn (o_val (x_neq (r := false) (et (v := (Value.int .i64 (n : Int))) rfl) (et (v := (Value.int .i64 (n' : Int))) rfl) (dec_t h_4691)) ?_)
  refine l_nil ?_
  refine w_if_f (et (v := (Value.bool false)) rfl) ?_
  refine w_skip ?_
  refine w_seq ?_
  refine w_seq ?_
  refine w_region ?_
  refine l_op wn (o_val (x_assign ec) ?_)
  refine l_nil ?_
  refine w_block ?_
  refine w_loop (fun μ f w' => ∃ (i : Nat), f 0 = (Value.slice A n c) ∧ f 1 = (Value.slice A' n' c') ∧ f 5 = (Value.int .i64 (i : Int)) ∧ Below w.heap.size w w' ∧ (i ≤ n) ∧ μ = n - i) (n - 0) ?_ ?_
  · exact ⟨0, rfl, rfl, vint (a := 0) (by omega), hB0, (by omega), rfl⟩
  rintro m_4694 f_4692 w_4693 ⟨i, hs_4696, hs_4697, hs_4698, hB_4695, hi, rfl⟩
  have z_4699 := hB_4695.size
  refine w_seq ?_
  refine w_seq ?_
  refine w_region ?_
  refine l_op wn (o_val (x_move (et (v := (Value.int .i64 (i : Int))) hs_4698)) ?_)
  refine l_op wn (o_val (x_move (et (v := (Value.slice A n c)) hs_4696)) ?_)
  refine l_op wn (o_val (x_len Try.underlying166 (et (v := (Value.slice A n c)) rfl)) ?_)
  by_cases h_4700 : (i : Int) < (n : Int)
  rotate_left
  · refine l_op wn (o_val (x_lss (r := false) (et (v := (Value.int .i64 (i : Int))) rfl) (et (v := (Value.int .i64 (n : Int))) rfl) (dec_f h_4700)) ?_)
    refine l_nil ?_
    refine w_if_f (et (v := (Value.bool false)) rfl) ?_
    refine w_exit ?_
    refine Eq.mpr (if_pos rfl) ?_
    refine w_seq ?_
    refine w_region ?_
    refine l_op wn (o_val (x_assign ec) ?_)
    refine l_nil ?_
    refine w_ret ?_
    exact ⟨_, r_tmp (v := (Value.bool true)) Try.results117 rfl, rfl, hB_4695⟩
  refine l_op wn (o_val (x_lss (r := true) (et (v := (Value.int .i64 (i : Int))) rfl) (et (v := (Value.int .i64 (n : Int))) rfl) (dec_t h_4700)) ?_)
  refine l_nil ?_
  refine w_if_t (et (v := (Value.bool true)) rfl) ?_
  refine w_skip ?_
  refine w_seq ?_
  refine w_block ?_
  refine w_seq ?_
  obtain ⟨b_4702, o_4703, x_4704, cs_4705, G_4706, hA_4707, hbF_4708, hlt_4709, hx_4710, hrx_4711, hG_4712, hl_4713, hcl_4714⟩ := hr.elem (k := 2) (fun y hy => wd_Step (ok.mem y hy)) (i := i) (by omega)
  obtain ⟨s_4715, xs_4716, A_4717, n_4718, c_4719, F_4720, rfl, rfl, rfl, bd_4725, ok_4726, hr_4727, ln_4728⟩ := open_Step (ok.get hx_4710) hrx_4711
  obtain ⟨b_4729, o_4730, cs_4731, G_4732, hA_4733, hbF_4734, hlt_4735, hrx_4736, hG_4737, hl_4738, hcl_4739⟩ := hr'.elemx (k := 2) (fun y hy => wd_Step (ok.mem y hy)) hx_4710
  obtain ⟨A_4740, n_4741, c_4742, F_4743, rfl, hr_4745, ln_4746⟩ := cellr_Step hrx_4736
  have hS_4747 := Sm.start [b_4702, b_4729] w_4693
  refine w_draw (Sm [b_4702, b_4729] w_4693) [(0, true), (1, true), (2, true), (3, true), (4, true), (5, true), (6, true), (7, true), (8, false), (9, true)] (by kernel_rfl) (by kernel_rfl) rfl (by kernel_rfl) ?_
  have hB_4748 := hB_4695.drew
  have z_4749 : w_4693.drew.heap.size = w_4693.heap.size := rfl
  refine d_q rfl rfl wn (fun w' hS' => (x_move (et (v := (Value.slice A n c)) hs_4696))) hS_4747 ?_
  refine d_q rfl rfl wn (fun w' hS' => (x_move (et (v := (Value.int .i64 (i : Int))) hs_4698))) hS_4747 ?_
  refine d_q rfl rfl wn (fun w' hS' => (x_index' (i := i) Try.underlying166 Try.sizeOf191 (et (v := (Value.slice A n c)) rfl) hA_4707 (et (v := (Value.int .i64 (i : Int))) rfl) (by omega) (by omega))) hS_4747 ?_
  refine d_q rfl rfl wn (fun w' hS' => (x_loadN (cs := [(Value.string s_4715), (Value.slice A_4717 n_4718 c_4719)]) Try.isAgg191 Try.sizeOf191 (et (v := (Value.pointer (some ⟨b_4702, o_4703 + i * 2, none⟩))) rfl) rfl (((hl_4713.keep (hB_4695.block _ hlt_4709)).keep (hS' _ (by simp)))))) hS_4747 ?_
  refine d_q rfl rfl wn (fun w' hS' => (x_move (et (v := (Value.slice A' n' c')) hs_4697))) hS_4747 ?_
  refine d_q rfl rfl wn (fun w' hS' => (x_move (et (v := (Value.int .i64 (i : Int))) hs_4698))) hS_4747 ?_
  refine d_q rfl rfl wn (fun w' hS' => (x_index' (i := i) Try.underlying166 Try.sizeOf191 (et (v := (Value.slice A' n' c')) rfl) hA_4733 (et (v := (Value.int .i64 (i : Int))) rfl) (by omega) (by omega))) hS_4747 ?_
  refine d_q rfl rfl wn (fun w' hS' => (x_loadN (cs := [(Value.string s_4715), (Value.slice A_4740 n_4741 c_4742)]) Try.isAgg191 Try.sizeOf191 (et (v := (Value.pointer (some ⟨b_4729, o_4730 + i * 2, none⟩))) rfl) rfl (((hl_4738.keep (hB_4695.block _ hlt_4735)).keep (hS' _ (by simp)))))) hS_4747 ?_
  have rr_4752 := (ragg (rcons (rstr (w := w_4693.drew) (n := s_4715) bd_4725) (rcons (hr_4727.below hB_4748) (rnil (w := w_4693.drew)))))
  have rr_4753 := (ragg (rcons (rstr (w := w_4693.drew) (n := s_4715) bd_4725) (rcons (hr_4745.below hB_4748) (rnil (w := w_4693.drew)))))
  refine d_op rfl wn (o_call (x_call Try.call120 ef (a2 (et (v := (Value.agg #[(Value.string s_4715), (Value.slice A_4717 n_4718 c_4719)])) rfl) (et (v := (Value.agg #[(Value.string s_4715), (Value.slice A_4740 n_4741 c_4742)])) rfl))) (eq_Step w_4693.drew (.agg [.str s_4715, .list xs_4716]) [(Value.string s_4715), (Value.slice A_4717 n_4718 c_4719)] _ [(Value.string s_4715), (Value.slice A_4740 n_4741 c_4742)] _ (ok_agg rfl (okz_cons (ok_str rfl) (okz_cons (ok_list rfl ok_4726) okz_nil))) rr_4752 rr_4753) ?_)
  rintro _ w_4750 ⟨rfl, k_4751⟩
  refine ⟨_, rfl, ?_⟩
  have hB_4754 := below_next hB_4748 k_4751 (by omega)
  have z_4755 := k_4751.size
  have hS_4756 := hS_4747.next k_4751 (by simp; omega)
  refine ⟨hS_4756, ?_⟩
  refine d_q rfl rfl wn (fun w' hS' => (x_not (et (v := (Value.bool true)) rfl))) hS_4756 ?_
  refine d_nil ?_
  refine w_if_f (et (v := (Value.bool false)) rfl) ?_
  refine w_skip ?_
  refine w_region ?_
  refine l_op wn (o_val (x_move (et (v := (Value.int .i64 (i : Int))) hs_4698)) ?_)
  refine l_op wn (o_val (x_add (et (v := (Value.int .i64 (i : Int))) rfl) ec (by omega)) ?_)
  refine l_op wn (o_val (x_assign (et (v := (Value.int .i64 ((i : Int) + 1))) rfl)) ?_)
  refine l_nil ?_
  exact ⟨n - (i + 1), by omega, ⟨i + 1, hs_4696, hs_4697, vint (a := ((i : Int) + 1)) (by omega), hB_4754, (by omega), rfl⟩⟩

set_option maxHeartbeats 200000 in
theorem eq_Path (w : World) (x : V) (cs : List Value) (F : List Nat) (cs' : List Value) (F' : List Nat) (ok : Ok x tPath) (hr : Rep w x cs F) (hr' : Rep w x cs' F') : Calls Try.prog 114 #[.agg cs.toArray, .agg cs'.toArray] w (Rets w (.bool true)) := by
  obtain ⟨q_4757, i_4758, xs_4759, A_4760, n_4761, c_4762, F_4763, rfl, rfl, rfl, bd_4768, ok_4769, hr_4770, ln_4771⟩ := open_Path ok hr
  obtain ⟨A_4772, n_4773, c_4774, F_4775, rfl, hr_4777, ln_4778⟩ := cellr_Path hr'
  have hB0 := Below.refl w.heap.size w
  refine enter (N := 21) Try.func114 rfl Try.ntmps114 rfl ?_
  refine w_seq ?_
  refine w_region ?_
  refine l_op wn (o_new (x_box (cs := [(Value.bool q_4757), (Value.int .i64 i_4758), (Value.slice A_4760 n_4761 c_4762)]) (et (v := (Value.agg #[(Value.bool q_4757), (Value.int .i64 i_4758), (Value.slice A_4760 n_4761 c_4762)])) rfl)) ?_)
  intro w_4779 z_4780 k_4781 bx_4782
  have hB_4783 := below_next hB0 k_4781 (by omega)
  refine l_op wn (o_new (x_box (cs := [(Value.bool q_4757), (Value.int .i64 i_4758), (Value.slice A_4772 n_4773 c_4774)]) (et (v := (Value.agg #[(Value.bool q_4757), (Value.int .i64 i_4758), (Value.slice A_4772 n_4773 c_4774)])) rfl)) ?_)
  intro w_4784 z_4785 k_4786 bx_4787
  have hB_4788 := below_next hB_4783 k_4786 (by omega)
  have bx_4789 := bx_4782.below k_4786
  refine l_op wn (o_val (x_assign ec) ?_)
  refine l_nil ?_
  refine w_seq ?_
  refine w_seq ?_
  refine w_region ?_
  refine l_op wn (o_val (x_field (k := 0) (j := 0) Try.underlying168 rfl Try.sizeOf4 rfl (et (v := (Value.pointer (some ⟨w.heap.size, 0, none⟩))) rfl)) ?_)
  refine l_op wn (o_val (x_load (v := (Value.bool q_4757)) Try.isAgg4 (et (v := (Value.pointer (some ⟨w.heap.size, 0, none⟩))) rfl) ((bx_4789.cell 0).trans rfl)) ?_)
  refine l_op wn (o_val (x_field (k := 0) (j := 0) Try.underlying168 rfl Try.sizeOf4 rfl (et (v := (Value.pointer (some ⟨w_4779.heap.size, 0, none⟩))) rfl)) ?_)
  refine l_op wn (o_val (x_load (v := (Value.bool q_4757)) Try.isAgg4 (et (v := (Value.pointer (some ⟨w_4779.heap.size, 0, none⟩))) rfl) ((bx_4787.cell 0).trans rfl)) ?_)
  have h_4790 : q_4757 = q_4757 := rfl
  refine l_op wn (o_val (x_bneq Try.underlying4 (r := false) (et (v := (Value.bool q_4757)) rfl) (et (v := (Value.bool q_4757)) rfl) (dec_t h_4790)) ?_)
  refine l_nil ?_
  refine w_if_f (et (v := (Value.bool false)) rfl) ?_
  refine w_skip ?_
  refine w_seq ?_
  refine w_seq ?_
  refine w_region ?_
  refine l_op wn (o_val (x_field (k := 0) (j := 1) Try.underlying168 rfl Try.sizeOf3 rfl (et (v := (Value.pointer (some ⟨w.heap.size, 0, none⟩))) rfl)) ?_)
  refine l_op wn (o_val (x_load (v := (Value.int .i64 i_4758)) Try.isAgg3 (et (v := (Value.pointer (some ⟨w.heap.size, 1, none⟩))) rfl) ((bx_4789.cell 1).trans rfl)) ?_)
  refine l_op wn (o_val (x_field (k := 0) (j := 1) Try.underlying168 rfl Try.sizeOf3 rfl (et (v := (Value.pointer (some ⟨w_4779.heap.size, 0, none⟩))) rfl)) ?_)
  refine l_op wn (o_val (x_load (v := (Value.int .i64 i_4758)) Try.isAgg3 (et (v := (Value.pointer (some ⟨w_4779.heap.size, 1, none⟩))) rfl) ((bx_4787.cell 1).trans rfl)) ?_)
  have h_4791 : i_4758 = i_4758 := rfl
  refine l_op wn (o_val (x_neq (r := false) (et (v := (Value.int .i64 i_4758)) rfl) (et (v := (Value.int .i64 i_4758)) rfl) (dec_t h_4791)) ?_)
  refine l_nil ?_
  refine w_if_f (et (v := (Value.bool false)) rfl) ?_
  refine w_skip ?_
  refine w_seq ?_
  refine w_seq ?_
  refine w_region ?_
  refine l_op wn (o_val (x_field (k := 0) (j := 2) Try.underlying168 rfl Try.sizeOf166 rfl (et (v := (Value.pointer (some ⟨w.heap.size, 0, none⟩))) rfl)) ?_)
  refine l_op wn (o_val (x_load (v := (Value.slice A_4760 n_4761 c_4762)) Try.isAgg166 (et (v := (Value.pointer (some ⟨w.heap.size, 2, none⟩))) rfl) ((bx_4789.cell 2).trans rfl)) ?_)
  refine l_op wn (o_val (x_field (k := 0) (j := 2) Try.underlying168 rfl Try.sizeOf166 rfl (et (v := (Value.pointer (some ⟨w_4779.heap.size, 0, none⟩))) rfl)) ?_)
  refine l_op wn (o_val (x_load (v := (Value.slice A_4772 n_4773 c_4774)) Try.isAgg166 (et (v := (Value.pointer (some ⟨w_4779.heap.size, 2, none⟩))) rfl) ((bx_4787.cell 2).trans rfl)) ?_)
  refine l_op wn (o_call (x_call Try.call117 ef (a2 (et (v := (Value.slice A_4760 n_4761 c_4762)) rfl) (et (v := (Value.slice A_4772 n_4773 c_4774)) rfl))) (eq_StepS w_4784 xs_4759 A_4760 n_4761 c_4762 _ A_4772 n_4773 c_4774 _ ok_4769 (hr_4770.below hB_4788) (hr_4777.below hB_4788)) ?_)
  rintro _ w_4792 ⟨rfl, k_4793⟩
  refine ⟨_, rfl, ?_⟩
  have hB_4794 := below_next hB_4788 k_4793 (by omega)
  have z_4795 := k_4793.size
  have bx_4796 := bx_4789.below k_4793
  have bx_4797 := bx_4787.below k_4793
  refine l_op wn (o_val (x_not (et (v := (Value.bool true)) rfl)) ?_)
  refine l_nil ?_
  refine w_if_f (et (v := (Value.bool false)) rfl) ?_
  refine w_skip ?_
  refine w_seq ?_
  refine w_region ?_
  refine l_op wn (o_val (x_assign ec) ?_)
  refine l_nil ?_
  refine w_ret ?_
  exact ⟨_, r_tmp (v := (Value.bool true)) Try.results114 rfl, rfl, hB_4794⟩

def Eq_ExprS (k : Nat) : Prop := ∀ (w : World) (xs : List V) (A : Option Addr) (n c : Nat) (F : List Nat) (A' : Option Addr) (n' c' : Nat) (F' : List Nat) (ok : Oks xs tExpr) (hr : Rep w (.list xs) [.slice A n c] F) (hr' : Rep w (.list xs) [.slice A' n' c'] F') (hc : V.cnts xs ≤ k), Calls Try.prog 100 #[.slice A n c, .slice A' n' c'] w (Rets w (.bool true))
def Eq_Expr (k : Nat) : Prop := ∀ (w : World) (x : V) (cs : List Value) (F : List Nat) (cs' : List Value) (F' : List Nat) (ok : Ok x tExpr) (hr : Rep w x cs F) (hr' : Rep w x cs' F') (hc : V.cnt x ≤ k), Calls Try.prog 109 #[.agg cs.toArray, .agg cs'.toArray] w (Rets w (.bool true))
set_option maxHeartbeats 200000 in
theorem eq_Expr_of (k : Nat) (ih : Eq_ExprS k) : Eq_Expr (k + 1) := by
  intro w x cs F cs' F' ok hr hr' hc
  obtain ⟨i_4798, i_4799, s_4800, q_4801, i_4802, xs_4803, A_4804, n_4805, c_4806, F_4807, xs_4809, A_4810, n_4811, c_4812, F_4813, rfl, rfl, rfl, bd_4818, bd_4819, bd_4820, bd_4821, ok_4822, hr_4823, ln_4824, ok_4825, hr_4826, ln_4827⟩ := open_Expr ok hr
  obtain ⟨A_4828, n_4829, c_4830, F_4831, A_4835, n_4836, c_4837, F_4838, rfl, hr_4833, ln_4834, hr_4840, ln_4841⟩ := cellr_Expr hr'
  have hck : V.cnts xs_4809 < V.cnt (.agg [.int i_4798, .int i_4799, .str s_4800, .agg [.bool q_4801, .int i_4802, .list xs_4803], .list xs_4809]) := by simp only [V.cnt, V.cnts]; omega
  have hB0 := Below.refl w.heap.size w
  refine enter (N := 32) Try.func109 rfl Try.ntmps109 rfl ?_
  refine w_seq ?_
  refine w_region ?_
  refine l_op wn (o_new (x_box (cs := [(Value.int .i64 i_4798), (Value.int .i64 i_4799), (Value.string s_4800), (Value.bool q_4801), (Value.int .i64 i_4802), (Value.slice A_4804 n_4805 c_4806), (Value.slice A_4810 n_4811 c_4812)]) (et (v := (Value.agg #[(Value.int .i64 i_4798), (Value.int .i64 i_4799), (Value.string s_4800), (Value.bool q_4801), (Value.int .i64 i_4802), (Value.slice A_4804 n_4805 c_4806), (Value.slice A_4810 n_4811 c_4812)])) rfl)) ?_)
  intro w_4842 z_4843 k_4844 bx_4845
  have hB_4846 := below_next hB0 k_4844 (by omega)
  refine l_op wn (o_new (x_box (cs := [(Value.int .i64 i_4798), (Value.int .i64 i_4799), (Value.string s_4800), (Value.bool q_4801), (Value.int .i64 i_4802), (Value.slice A_4828 n_4829 c_4830), (Value.slice A_4835 n_4836 c_4837)]) (et (v := (Value.agg #[(Value.int .i64 i_4798), (Value.int .i64 i_4799), (Value.string s_4800), (Value.bool q_4801), (Value.int .i64 i_4802), (Value.slice A_4828 n_4829 c_4830), (Value.slice A_4835 n_4836 c_4837)])) rfl)) ?_)
  intro w_4847 z_4848 k_4849 bx_4850
  have hB_4851 := below_next hB_4846 k_4849 (by omega)
  have bx_4852 := bx_4845.below k_4849
  refine l_op wn (o_val (x_assign ec) ?_)
  refine l_nil ?_
  refine w_seq ?_
  refine w_seq ?_
  refine w_region ?_
  refine l_op wn (o_val (x_field (k := 0) (j := 0) Try.underlying170 rfl Try.sizeOf3 rfl (et (v := (Value.pointer (some ⟨w.heap.size, 0, none⟩))) rfl)) ?_)
  refine l_op wn (o_val (x_load (v := (Value.int .i64 i_4798)) Try.isAgg3 (et (v := (Value.pointer (some ⟨w.heap.size, 0, none⟩))) rfl) ((bx_4852.cell 0).trans rfl)) ?_)
  refine l_op wn (o_val (x_field (k := 0) (j := 0) Try.underlying170 rfl Try.sizeOf3 rfl (et (v := (Value.pointer (some ⟨w_4842.heap.size, 0, none⟩))) rfl)) ?_)
  refine l_op wn (o_val (x_load (v := (Value.int .i64 i_4798)) Try.isAgg3 (et (v := (Value.pointer (some ⟨w_4842.heap.size, 0, none⟩))) rfl) ((bx_4850.cell 0).trans rfl)) ?_)
  have h_4853 : i_4798 = i_4798 := rfl
  refine l_op wn (o_val (x_neq (r := false) (et (v := (Value.int .i64 i_4798)) rfl) (et (v := (Value.int .i64 i_4798)) rfl) (dec_t h_4853)) ?_)
  refine l_nil ?_
  refine w_if_f (et (v := (Value.bool false)) rfl) ?_
  refine w_skip ?_
  refine w_seq ?_
  refine w_seq ?_
  refine w_region ?_
  refine l_op wn (o_val (x_field (k := 0) (j := 1) Try.underlying170 rfl Try.sizeOf3 rfl (et (v := (Value.pointer (some ⟨w.heap.size, 0, none⟩))) rfl)) ?_)
  refine l_op wn (o_val (x_load (v := (Value.int .i64 i_4799)) Try.isAgg3 (et (v := (Value.pointer (some ⟨w.heap.size, 1, none⟩))) rfl) ((bx_4852.cell 1).trans rfl)) ?_)
  refine l_op wn (o_val (x_field (k := 0) (j := 1) Try.underlying170 rfl Try.sizeOf3 rfl (et (v := (Value.pointer (some ⟨w_4842.heap.size, 0, none⟩))) rfl)) ?_)
  refine l_op wn (o_val (x_load (v := (Value.int .i64 i_4799)) Try.isAgg3 (et (v := (Value.pointer (some ⟨w_4842.heap.size, 1, none⟩))) rfl) ((bx_4850.cell 1).trans rfl)) ?_)
  have h_4854 : i_4799 = i_4799 := rfl
  refine l_op wn (o_val (x_neq (r := false) (et (v := (Value.int .i64 i_4799)) rfl) (et (v := (Value.int .i64 i_4799)) rfl) (dec_t h_4854)) ?_)
  refine l_nil ?_
  refine w_if_f (et (v := (Value.bool false)) rfl) ?_
  refine w_skip ?_
  refine w_seq ?_
  refine w_seq ?_
  refine w_region ?_
  refine l_op wn (o_val (x_field (k := 0) (j := 2) Try.underlying170 rfl Try.sizeOf9 rfl (et (v := (Value.pointer (some ⟨w.heap.size, 0, none⟩))) rfl)) ?_)
  refine l_op wn (o_val (x_load (v := (Value.string s_4800)) Try.isAgg9 (et (v := (Value.pointer (some ⟨w.heap.size, 2, none⟩))) rfl) ((bx_4852.cell 2).trans rfl)) ?_)
  refine l_op wn (o_val (x_field (k := 0) (j := 2) Try.underlying170 rfl Try.sizeOf9 rfl (et (v := (Value.pointer (some ⟨w_4842.heap.size, 0, none⟩))) rfl)) ?_)
  refine l_op wn (o_val (x_load (v := (Value.string s_4800)) Try.isAgg9 (et (v := (Value.pointer (some ⟨w_4842.heap.size, 2, none⟩))) rfl) ((bx_4850.cell 2).trans rfl)) ?_)
  have h_4855 : s_4800 = s_4800 := rfl
  refine l_op wn (o_val (x_sneq (r := false) (et (v := (Value.string s_4800)) rfl) (et (v := (Value.string s_4800)) rfl) (dec_t h_4855)) ?_)
  refine l_nil ?_
  refine w_if_f (et (v := (Value.bool false)) rfl) ?_
  refine w_skip ?_
  refine w_seq ?_
  refine w_seq ?_
  refine w_region ?_
  refine l_op wn (o_val (x_field (k := 2) (j := 3) Try.underlying170 rfl Try.sizeOf168 rfl (et (v := (Value.pointer (some ⟨w.heap.size, 0, none⟩))) rfl)) ?_)
  refine l_op wn (o_val (x_loadN (cs := [(Value.bool q_4801), (Value.int .i64 i_4802), (Value.slice A_4804 n_4805 c_4806)]) Try.isAgg168 Try.sizeOf168 (et (v := (Value.pointer (some ⟨w.heap.size, 3, none⟩))) rfl) rfl (bx_4852.lies.sub 3 3)) ?_)
  refine l_op wn (o_val (x_field (k := 2) (j := 3) Try.underlying170 rfl Try.sizeOf168 rfl (et (v := (Value.pointer (some ⟨w_4842.heap.size, 0, none⟩))) rfl)) ?_)
  refine l_op wn (o_val (x_loadN (cs := [(Value.bool q_4801), (Value.int .i64 i_4802), (Value.slice A_4828 n_4829 c_4830)]) Try.isAgg168 Try.sizeOf168 (et (v := (Value.pointer (some ⟨w_4842.heap.size, 3, none⟩))) rfl) rfl (bx_4850.lies.sub 3 3)) ?_)
  have rr_4858 := (ragg (rcons (rbool (w := w_4847) (n := q_4801)) (rcons (rint (w := w_4847) (n := i_4802) bd_4821) (rcons (hr_4823.below hB_4851) (rnil (w := w_4847))))))
  have rr_4859 := (ragg (rcons (rbool (w := w_4847) (n := q_4801)) (rcons (rint (w := w_4847) (n := i_4802) bd_4821) (rcons (hr_4833.below hB_4851) (rnil (w := w_4847))))))
  refine l_op wn (o_call (x_call Try.call114 ef (a2 (et (v := (Value.agg #[(Value.bool q_4801), (Value.int .i64 i_4802), (Value.slice A_4804 n_4805 c_4806)])) rfl) (et (v := (Value.agg #[(Value.bool q_4801), (Value.int .i64 i_4802), (Value.slice A_4828 n_4829 c_4830)])) rfl))) (eq_Path w_4847 (.agg [.bool q_4801, .int i_4802, .list xs_4803]) [(Value.bool q_4801), (Value.int .i64 i_4802), (Value.slice A_4804 n_4805 c_4806)] _ [(Value.bool q_4801), (Value.int .i64 i_4802), (Value.slice A_4828 n_4829 c_4830)] _ (ok_agg rfl (okz_cons (ok_bool rfl) (okz_cons (ok_int rfl) (okz_cons (ok_list rfl ok_4822) okz_nil)))) rr_4858 rr_4859) ?_)
  rintro _ w_4856 ⟨rfl, k_4857⟩
  refine ⟨_, rfl, ?_⟩
  have hB_4860 := below_next hB_4851 k_4857 (by omega)
  have z_4861 := k_4857.size
  have bx_4862 := bx_4852.below k_4857
  have bx_4863 := bx_4850.below k_4857
  refine l_op wn (o_val (x_not (et (v := (Value.bool true)) rfl)) ?_)
  refine l_nil ?_
  refine w_if_f (et (v := (Value.bool false)) rfl) ?_
  refine w_skip ?_
  refine w_seq ?_
  refine w_seq ?_
  refine w_region ?_
  refine l_op wn (o_val (x_field (k := 0) (j := 6) Try.underlying170 rfl Try.sizeOf133 rfl (et (v := (Value.pointer (some ⟨w.heap.size, 0, none⟩))) rfl)) ?_)
  refine l_op wn (o_val (x_load (v := (Value.slice A_4810 n_4811 c_4812)) Try.isAgg133 (et (v := (Value.pointer (some ⟨w.heap.size, 6, none⟩))) rfl) ((bx_4862.cell 6).trans rfl)) ?_)
  refine l_op wn (o_val (x_field (k := 0) (j := 6) Try.underlying170 rfl Try.sizeOf133 rfl (et (v := (Value.pointer (some ⟨w_4842.heap.size, 0, none⟩))) rfl)) ?_)
  refine l_op wn (o_val (x_load (v := (Value.slice A_4835 n_4836 c_4837)) Try.isAgg133 (et (v := (Value.pointer (some ⟨w_4842.heap.size, 6, none⟩))) rfl) ((bx_4863.cell 6).trans rfl)) ?_)
  refine l_op wn (o_call (x_call Try.call100 ef (a2 (et (v := (Value.slice A_4810 n_4811 c_4812)) rfl) (et (v := (Value.slice A_4835 n_4836 c_4837)) rfl))) (ih w_4856 xs_4809 A_4810 n_4811 c_4812 _ A_4835 n_4836 c_4837 _ ok_4825 (hr_4826.below hB_4860) (hr_4840.below hB_4860) (by omega)) ?_)
  rintro _ w_4864 ⟨rfl, k_4865⟩
  refine ⟨_, rfl, ?_⟩
  have hB_4866 := below_next hB_4860 k_4865 (by omega)
  have z_4867 := k_4865.size
  have bx_4868 := bx_4862.below k_4865
  have bx_4869 := bx_4863.below k_4865
  refine l_op wn (o_val (x_not (et (v := (Value.bool true)) rfl)) ?_)
  refine l_nil ?_
  refine w_if_f (et (v := (Value.bool false)) rfl) ?_
  refine w_skip ?_
  refine w_seq ?_
  refine w_region ?_
  refine l_op wn (o_val (x_assign ec) ?_)
  refine l_nil ?_
  refine w_ret ?_
  exact ⟨_, r_tmp (v := (Value.bool true)) Try.results109 rfl, rfl, hB_4866⟩

set_option maxHeartbeats 200000 in
theorem eq_ExprS_of (k : Nat) (ih : Eq_Expr k) : Eq_ExprS k := by
  intro w xs A n c F A' n' c' F' ok hr hr' hc
  have hB0 := Below.refl w.heap.size w
  obtain ⟨ln, lc, lm⟩ := hr.len
  obtain ⟨ln', lc', lm'⟩ := hr'.len
  refine enter (N := 27) Try.func100 rfl Try.ntmps100 rfl ?_
  refine w_seq ?_
  refine w_region ?_
  refine l_op wn (o_val (x_assign ec) ?_)
  refine l_nil ?_
  refine w_seq ?_
  refine w_seq ?_
  refine w_region ?_
  refine l_op wn (o_val (x_move (et (v := (Value.slice A n c)) rfl)) ?_)
  refine l_op wn (o_val (x_len Try.underlying133 (et (v := (Value.slice A n c)) rfl)) ?_)
  refine l_op wn (o_val (x_move (et (v := (Value.slice A' n' c')) rfl)) ?_)
  refine l_op wn (o_val (x_len Try.underlying133 (et (v := (Value.slice A' n' c')) rfl)) ?_)
  have h_4870 : (n : Int) = (n' : Int) := by omega
  refine l_op wn (o_val (x_neq (r := false) (et (v := (Value.int .i64 (n : Int))) rfl) (et (v := (Value.int .i64 (n' : Int))) rfl) (dec_t h_4870)) ?_)
  refine l_nil ?_
  refine w_if_f (et (v := (Value.bool false)) rfl) ?_
  refine w_skip ?_
  refine w_seq ?_
  refine w_seq ?_
  refine w_region ?_
  refine l_op wn (o_val (x_assign ec) ?_)
  refine l_nil ?_
  refine w_block ?_
  refine w_loop (fun μ f w' => ∃ (i : Nat), f 0 = (Value.slice A n c) ∧ f 1 = (Value.slice A' n' c') ∧ f 5 = (Value.int .i64 (i : Int)) ∧ Below w.heap.size w w' ∧ (i ≤ n) ∧ μ = n - i) (n - 0) ?_ ?_
  · exact ⟨0, rfl, rfl, vint (a := 0) (by omega), hB0, (by omega), rfl⟩
  rintro m_4873 f_4871 w_4872 ⟨i, hs_4875, hs_4876, hs_4877, hB_4874, hi, rfl⟩
  have z_4878 := hB_4874.size
  refine w_seq ?_
  refine w_seq ?_
  refine w_region ?_
  refine l_op wn (o_val (x_move (et (v := (Value.int .i64 (i : Int))) hs_4877)) ?_)
  refine l_op wn (o_val (x_move (et (v := (Value.slice A n c)) hs_4875)) ?_)
  refine l_op wn (o_val (x_len Try.underlying133 (et (v := (Value.slice A n c)) rfl)) ?_)
  by_cases h_4879 : (i : Int) < (n : Int)
  rotate_left
  · refine l_op wn (o_val (x_lss (r := false) (et (v := (Value.int .i64 (i : Int))) rfl) (et (v := (Value.int .i64 (n : Int))) rfl) (dec_f h_4879)) ?_)
    refine l_nil ?_
    refine w_if_f (et (v := (Value.bool false)) rfl) ?_
    refine w_exit ?_
    refine Eq.mpr (if_pos rfl) ?_
    refine w_seq ?_
    refine w_region ?_
    refine l_op wn (o_val (x_assign ec) ?_)
    refine l_nil ?_
    refine w_ret ?_
    exact ⟨_, r_tmp (v := (Value.bool true)) Try.results100 rfl, rfl, hB_4874⟩
  refine l_op wn (o_val (x_lss (r := true) (et (v := (Value.int .i64 (i : Int))) rfl) (et (v := (Value.int .i64 (n : Int))) rfl) (dec_t h_4879)) ?_)
  refine l_nil ?_
  refine w_if_t (et (v := (Value.bool true)) rfl) ?_
  refine w_skip ?_
  refine w_seq ?_
  refine w_block ?_
  refine w_seq ?_
  obtain ⟨b_4881, o_4882, x_4883, cs_4884, G_4885, hA_4886, hbF_4887, hlt_4888, hx_4889, hrx_4890, hG_4891, hl_4892, hcl_4893⟩ := hr.elem (k := 7) (fun y hy => wd_Expr (ok.mem y hy)) (i := i) (by omega)
  obtain ⟨i_4894, i_4895, s_4896, q_4897, i_4898, xs_4899, A_4900, n_4901, c_4902, F_4903, xs_4905, A_4906, n_4907, c_4908, F_4909, rfl, rfl, rfl, bd_4914, bd_4915, bd_4916, bd_4917, ok_4918, hr_4919, ln_4920, ok_4921, hr_4922, ln_4923⟩ := open_Expr (ok.get hx_4889) hrx_4890
  obtain ⟨b_4924, o_4925, cs_4926, G_4927, hA_4928, hbF_4929, hlt_4930, hrx_4931, hG_4932, hl_4933, hcl_4934⟩ := hr'.elemx (k := 7) (fun y hy => wd_Expr (ok.mem y hy)) hx_4889
  obtain ⟨A_4935, n_4936, c_4937, F_4938, A_4942, n_4943, c_4944, F_4945, rfl, hr_4940, ln_4941, hr_4947, ln_4948⟩ := cellr_Expr hrx_4931
  have hS_4949 := Sm.start [b_4881, b_4924] w_4872
  refine w_draw (Sm [b_4881, b_4924] w_4872) [(0, true), (1, true), (2, true), (3, true), (4, true), (5, true), (6, true), (7, true), (8, false), (9, true)] (by kernel_rfl) (by kernel_rfl) rfl (by kernel_rfl) ?_
  have hB_4950 := hB_4874.drew
  have z_4951 : w_4872.drew.heap.size = w_4872.heap.size := rfl
  refine d_q rfl rfl wn (fun w' hS' => (x_move (et (v := (Value.slice A n c)) hs_4875))) hS_4949 ?_
  refine d_q rfl rfl wn (fun w' hS' => (x_move (et (v := (Value.int .i64 (i : Int))) hs_4877))) hS_4949 ?_
  refine d_q rfl rfl wn (fun w' hS' => (x_index' (i := i) Try.underlying133 Try.sizeOf170 (et (v := (Value.slice A n c)) rfl) hA_4886 (et (v := (Value.int .i64 (i : Int))) rfl) (by omega) (by omega))) hS_4949 ?_
  refine d_q rfl rfl wn (fun w' hS' => (x_loadN (cs := [(Value.int .i64 i_4894), (Value.int .i64 i_4895), (Value.string s_4896), (Value.bool q_4897), (Value.int .i64 i_4898), (Value.slice A_4900 n_4901 c_4902), (Value.slice A_4906 n_4907 c_4908)]) Try.isAgg170 Try.sizeOf170 (et (v := (Value.pointer (some ⟨b_4881, o_4882 + i * 7, none⟩))) rfl) rfl (((hl_4892.keep (hB_4874.block _ hlt_4888)).keep (hS' _ (by simp)))))) hS_4949 ?_
  refine d_q rfl rfl wn (fun w' hS' => (x_move (et (v := (Value.slice A' n' c')) hs_4876))) hS_4949 ?_
  refine d_q rfl rfl wn (fun w' hS' => (x_move (et (v := (Value.int .i64 (i : Int))) hs_4877))) hS_4949 ?_
  refine d_q rfl rfl wn (fun w' hS' => (x_index' (i := i) Try.underlying133 Try.sizeOf170 (et (v := (Value.slice A' n' c')) rfl) hA_4928 (et (v := (Value.int .i64 (i : Int))) rfl) (by omega) (by omega))) hS_4949 ?_
  refine d_q rfl rfl wn (fun w' hS' => (x_loadN (cs := [(Value.int .i64 i_4894), (Value.int .i64 i_4895), (Value.string s_4896), (Value.bool q_4897), (Value.int .i64 i_4898), (Value.slice A_4935 n_4936 c_4937), (Value.slice A_4942 n_4943 c_4944)]) Try.isAgg170 Try.sizeOf170 (et (v := (Value.pointer (some ⟨b_4924, o_4925 + i * 7, none⟩))) rfl) rfl (((hl_4933.keep (hB_4874.block _ hlt_4930)).keep (hS' _ (by simp)))))) hS_4949 ?_
  have rr_4954 := (ragg (rcons (rint (w := w_4872.drew) (n := i_4894) bd_4914) (rcons (rint (w := w_4872.drew) (n := i_4895) bd_4915) (rcons (rstr (w := w_4872.drew) (n := s_4896) bd_4916) (rcons (ragg (rcons (rbool (w := w_4872.drew) (n := q_4897)) (rcons (rint (w := w_4872.drew) (n := i_4898) bd_4917) (rcons (hr_4919.below hB_4950) (rnil (w := w_4872.drew)))))) (rcons (hr_4922.below hB_4950) (rnil (w := w_4872.drew))))))))
  have rr_4955 := (ragg (rcons (rint (w := w_4872.drew) (n := i_4894) bd_4914) (rcons (rint (w := w_4872.drew) (n := i_4895) bd_4915) (rcons (rstr (w := w_4872.drew) (n := s_4896) bd_4916) (rcons (ragg (rcons (rbool (w := w_4872.drew) (n := q_4897)) (rcons (rint (w := w_4872.drew) (n := i_4898) bd_4917) (rcons (hr_4940.below hB_4950) (rnil (w := w_4872.drew)))))) (rcons (hr_4947.below hB_4950) (rnil (w := w_4872.drew))))))))
  refine d_op rfl wn (o_call (x_call Try.call109 ef (a2 (et (v := (Value.agg #[(Value.int .i64 i_4894), (Value.int .i64 i_4895), (Value.string s_4896), (Value.bool q_4897), (Value.int .i64 i_4898), (Value.slice A_4900 n_4901 c_4902), (Value.slice A_4906 n_4907 c_4908)])) rfl) (et (v := (Value.agg #[(Value.int .i64 i_4894), (Value.int .i64 i_4895), (Value.string s_4896), (Value.bool q_4897), (Value.int .i64 i_4898), (Value.slice A_4935 n_4936 c_4937), (Value.slice A_4942 n_4943 c_4944)])) rfl))) (ih w_4872.drew (.agg [.int i_4894, .int i_4895, .str s_4896, .agg [.bool q_4897, .int i_4898, .list xs_4899], .list xs_4905]) [(Value.int .i64 i_4894), (Value.int .i64 i_4895), (Value.string s_4896), (Value.bool q_4897), (Value.int .i64 i_4898), (Value.slice A_4900 n_4901 c_4902), (Value.slice A_4906 n_4907 c_4908)] _ [(Value.int .i64 i_4894), (Value.int .i64 i_4895), (Value.string s_4896), (Value.bool q_4897), (Value.int .i64 i_4898), (Value.slice A_4935 n_4936 c_4937), (Value.slice A_4942 n_4943 c_4944)] _ (ok_agg rfl (okz_cons (ok_int rfl) (okz_cons (ok_int rfl) (okz_cons (ok_str rfl) (okz_cons (ok_agg rfl (okz_cons (ok_bool rfl) (okz_cons (ok_int rfl) (okz_cons (ok_list rfl ok_4918) okz_nil)))) (okz_cons (ok_list rfl ok_4921) okz_nil)))))) rr_4954 rr_4955 (by have := cnt_mem hx_4889; omega)) ?_)
  rintro _ w_4952 ⟨rfl, k_4953⟩
  refine ⟨_, rfl, ?_⟩
  have hB_4956 := below_next hB_4950 k_4953 (by omega)
  have z_4957 := k_4953.size
  have hS_4958 := hS_4949.next k_4953 (by simp; omega)
  refine ⟨hS_4958, ?_⟩
  refine d_q rfl rfl wn (fun w' hS' => (x_not (et (v := (Value.bool true)) rfl))) hS_4958 ?_
  refine d_nil ?_
  refine w_if_f (et (v := (Value.bool false)) rfl) ?_
  refine w_skip ?_
  refine w_region ?_
  refine l_op wn (o_val (x_move (et (v := (Value.int .i64 (i : Int))) hs_4877)) ?_)
  refine l_op wn (o_val (x_add (et (v := (Value.int .i64 (i : Int))) rfl) ec (by omega)) ?_)
  refine l_op wn (o_val (x_assign (et (v := (Value.int .i64 ((i : Int) + 1))) rfl)) ?_)
  refine l_nil ?_
  exact ⟨n - (i + 1), by omega, ⟨i + 1, hs_4875, hs_4876, vint (a := ((i : Int) + 1)) (by omega), hB_4956, (by omega), rfl⟩⟩
theorem eq_Expr_all : ∀ k, Eq_Expr k
  | 0 => fun w x cs F cs' F' ok hr hr' hc => absurd hc (by have := cnt_pos x; omega)
  | k + 1 => eq_Expr_of k (eq_ExprS_of k (eq_Expr_all k))
theorem eq_ExprS (w : World) (xs : List V) (A : Option Addr) (n c : Nat) (F : List Nat) (A' : Option Addr) (n' c' : Nat) (F' : List Nat) (ok : Oks xs tExpr) (hr : Rep w (.list xs) [.slice A n c] F) (hr' : Rep w (.list xs) [.slice A' n' c'] F') : Calls Try.prog 100 #[.slice A n c, .slice A' n' c'] w (Rets w (.bool true)) := eq_ExprS_of _ (eq_Expr_all _) w xs A n c F A' n' c' F' ok hr hr' (Nat.le_refl _)
theorem eq_Expr (w : World) (x : V) (cs : List Value) (F : List Nat) (cs' : List Value) (F' : List Nat) (ok : Ok x tExpr) (hr : Rep w x cs F) (hr' : Rep w x cs' F') : Calls Try.prog 109 #[.agg cs.toArray, .agg cs'.toArray] w (Rets w (.bool true)) := eq_Expr_all _ w x cs F cs' F' ok hr hr' (Nat.le_refl _)

def Eq_SchemaS (k : Nat) : Prop := ∀ (w : World) (xs : List V) (A : Option Addr) (n c : Nat) (F : List Nat) (A' : Option Addr) (n' c' : Nat) (F' : List Nat) (ok : Oks xs tSchema) (hr : Rep w (.list xs) [.slice A n c] F) (hr' : Rep w (.list xs) [.slice A' n' c'] F') (hc : V.cnts xs ≤ k), Calls Try.prog 72 #[.slice A n c, .slice A' n' c'] w (Rets w (.bool true))
def Eq_Schema (k : Nat) : Prop := ∀ (w : World) (x : V) (cs : List Value) (F : List Nat) (cs' : List Value) (F' : List Nat) (ok : Ok x tSchema) (hr : Rep w x cs F) (hr' : Rep w x cs' F') (hc : V.cnt x ≤ k), Calls Try.prog 89 #[.agg cs.toArray, .agg cs'.toArray] w (Rets w (.bool true))
set_option maxHeartbeats 1000000 in
theorem eq_Schema_of (k : Nat) (ih : Eq_SchemaS k) : Eq_Schema (k + 1) := by
  intro w x cs F cs' F' ok hr hr' hc
  obtain ⟨i_4959, s_4960, i_4961, xs_4962, A_4963, n_4964, c_4965, F_4966, xs_4968, A_4969, n_4970, c_4971, F_4972, s_4974, s_4975, xs_4976, A_4977, n_4978, c_4979, F_4980, xs_4982, A_4983, n_4984, c_4985, F_4986, s_4988, q_4989, q_4990, q_4991, q_4992, i_4993, i_4994, xs_4995, A_4996, n_4997, c_4998, F_4999, xs_5001, A_5002, n_5003, c_5004, F_5005, xs_5007, A_5008, n_5009, c_5010, F_5011, rfl, rfl, rfl, bd_5016, bd_5017, bd_5018, ok_5019, hr_5020, ln_5021, ok_5022, hr_5023, ln_5024, bd_5025, bd_5026, ok_5027, hr_5028, ln_5029, ok_5030, hr_5031, ln_5032, bd_5033, bd_5034, bd_5035, ok_5036, hr_5037, ln_5038, ok_5039, hr_5040, ln_5041, ok_5042, hr_5043, ln_5044⟩ := open_Schema ok hr
  obtain ⟨A_5045, n_5046, c_5047, F_5048, A_5052, n_5053, c_5054, F_5055, A_5059, n_5060, c_5061, F_5062, A_5066, n_5067, c_5068, F_5069, A_5073, n_5074, c_5075, F_5076, A_5080, n_5081, c_5082, F_5083, A_5087, n_5088, c_5089, F_5090, rfl, hr_5050, ln_5051, hr_5057, ln_5058, hr_5064, ln_5065, hr_5071, ln_5072, hr_5078, ln_5079, hr_5085, ln_5086, hr_5092, ln_5093⟩ := cellr_Schema hr'
  have hck : V.cnts xs_5007 < V.cnt (.agg [.int i_4959, .str s_4960, .agg [.int i_4961, .list xs_4962, .list xs_4968, .str s_4974, .str s_4975], .list xs_4976, .list xs_4982, .str s_4988, .bool q_4989, .bool q_4990, .bool q_4991, .bool q_4992, .int i_4993, .int i_4994, .list xs_4995, .list xs_5001, .list xs_5007]) := by simp only [V.cnt, V.cnts]; omega
  have hB0 := Below.refl w.heap.size w
  refine enter (N := 86) Try.func89 rfl Try.ntmps89 rfl ?_
  refine w_seq ?_
  refine w_region ?_
  refine l_op wn (o_new (x_box (cs := [(Value.int .i64 i_4959), (Value.string s_4960), (Value.int .i64 i_4961), (Value.slice A_4963 n_4964 c_4965), (Value.slice A_4969 n_4970 c_4971), (Value.string s_4974), (Value.string s_4975), (Value.slice A_4977 n_4978 c_4979), (Value.slice A_4983 n_4984 c_4985), (Value.string s_4988), (Value.bool q_4989), (Value.bool q_4990), (Value.bool q_4991), (Value.bool q_4992), (Value.int .i64 i_4993), (Value.int .i64 i_4994), (Value.slice A_4996 n_4997 c_4998), (Value.slice A_5002 n_5003 c_5004), (Value.slice A_5008 n_5009 c_5010)]) (et (v := (Value.agg #[(Value.int .i64 i_4959), (Value.string s_4960), (Value.int .i64 i_4961), (Value.slice A_4963 n_4964 c_4965), (Value.slice A_4969 n_4970 c_4971), (Value.string s_4974), (Value.string s_4975), (Value.slice A_4977 n_4978 c_4979), (Value.slice A_4983 n_4984 c_4985), (Value.string s_4988), (Value.bool q_4989), (Value.bool q_4990), (Value.bool q_4991), (Value.bool q_4992), (Value.int .i64 i_4993), (Value.int .i64 i_4994), (Value.slice A_4996 n_4997 c_4998), (Value.slice A_5002 n_5003 c_5004), (Value.slice A_5008 n_5009 c_5010)])) rfl)) ?_)
  intro w_5094 z_5095 k_5096 bx_5097
  have hB_5098 := below_next hB0 k_5096 (by omega)
  refine l_op wn (o_new (x_box (cs := [(Value.int .i64 i_4959), (Value.string s_4960), (Value.int .i64 i_4961), (Value.slice A_5045 n_5046 c_5047), (Value.slice A_5052 n_5053 c_5054), (Value.string s_4974), (Value.string s_4975), (Value.slice A_5059 n_5060 c_5061), (Value.slice A_5066 n_5067 c_5068), (Value.string s_4988), (Value.bool q_4989), (Value.bool q_4990), (Value.bool q_4991), (Value.bool q_4992), (Value.int .i64 i_4993), (Value.int .i64 i_4994), (Value.slice A_5073 n_5074 c_5075), (Value.slice A_5080 n_5081 c_5082), (Value.slice A_5087 n_5088 c_5089)]) (et (v := (Value.agg #[(Value.int .i64 i_4959), (Value.string s_4960), (Value.int .i64 i_4961), (Value.slice A_5045 n_5046 c_5047), (Value.slice A_5052 n_5053 c_5054), (Value.string s_4974), (Value.string s_4975), (Value.slice A_5059 n_5060 c_5061), (Value.slice A_5066 n_5067 c_5068), (Value.string s_4988), (Value.bool q_4989), (Value.bool q_4990), (Value.bool q_4991), (Value.bool q_4992), (Value.int .i64 i_4993), (Value.int .i64 i_4994), (Value.slice A_5073 n_5074 c_5075), (Value.slice A_5080 n_5081 c_5082), (Value.slice A_5087 n_5088 c_5089)])) rfl)) ?_)
  intro w_5099 z_5100 k_5101 bx_5102
  have hB_5103 := below_next hB_5098 k_5101 (by omega)
  have bx_5104 := bx_5097.below k_5101
  refine l_op wn (o_val (x_assign ec) ?_)
  refine l_nil ?_
  refine w_seq ?_
  refine w_seq ?_
  refine w_region ?_
  refine l_op wn (o_val (x_field (k := 0) (j := 0) Try.underlying135 rfl Try.sizeOf3 rfl (et (v := (Value.pointer (some ⟨w.heap.size, 0, none⟩))) rfl)) ?_)
  refine l_op wn (o_val (x_load (v := (Value.int .i64 i_4959)) Try.isAgg3 (et (v := (Value.pointer (some ⟨w.heap.size, 0, none⟩))) rfl) ((bx_5104.cell 0).trans rfl)) ?_)
  refine l_op wn (o_val (x_field (k := 0) (j := 0) Try.underlying135 rfl Try.sizeOf3 rfl (et (v := (Value.pointer (some ⟨w_5094.heap.size, 0, none⟩))) rfl)) ?_)
  refine l_op wn (o_val (x_load (v := (Value.int .i64 i_4959)) Try.isAgg3 (et (v := (Value.pointer (some ⟨w_5094.heap.size, 0, none⟩))) rfl) ((bx_5102.cell 0).trans rfl)) ?_)
  have h_5105 : i_4959 = i_4959 := rfl
  refine l_op wn (o_val (x_neq (r := false) (et (v := (Value.int .i64 i_4959)) rfl) (et (v := (Value.int .i64 i_4959)) rfl) (dec_t h_5105)) ?_)
  refine l_nil ?_
  refine w_if_f (et (v := (Value.bool false)) rfl) ?_
  refine w_skip ?_
  refine w_seq ?_
  refine w_seq ?_
  refine w_region ?_
  refine l_op wn (o_val (x_field (k := 0) (j := 1) Try.underlying135 rfl Try.sizeOf9 rfl (et (v := (Value.pointer (some ⟨w.heap.size, 0, none⟩))) rfl)) ?_)
  refine l_op wn (o_val (x_load (v := (Value.string s_4960)) Try.isAgg9 (et (v := (Value.pointer (some ⟨w.heap.size, 1, none⟩))) rfl) ((bx_5104.cell 1).trans rfl)) ?_)
  refine l_op wn (o_val (x_field (k := 0) (j := 1) Try.underlying135 rfl Try.sizeOf9 rfl (et (v := (Value.pointer (some ⟨w_5094.heap.size, 0, none⟩))) rfl)) ?_)
  refine l_op wn (o_val (x_load (v := (Value.string s_4960)) Try.isAgg9 (et (v := (Value.pointer (some ⟨w_5094.heap.size, 1, none⟩))) rfl) ((bx_5102.cell 1).trans rfl)) ?_)
  have h_5106 : s_4960 = s_4960 := rfl
  refine l_op wn (o_val (x_sneq (r := false) (et (v := (Value.string s_4960)) rfl) (et (v := (Value.string s_4960)) rfl) (dec_t h_5106)) ?_)
  refine l_nil ?_
  refine w_if_f (et (v := (Value.bool false)) rfl) ?_
  refine w_skip ?_
  refine w_seq ?_
  refine w_seq ?_
  refine w_region ?_
  refine l_op wn (o_val (x_field (k := 4) (j := 2) Try.underlying135 rfl Try.sizeOf132 rfl (et (v := (Value.pointer (some ⟨w.heap.size, 0, none⟩))) rfl)) ?_)
  refine l_op wn (o_val (x_loadN (cs := [(Value.int .i64 i_4961), (Value.slice A_4963 n_4964 c_4965), (Value.slice A_4969 n_4970 c_4971), (Value.string s_4974), (Value.string s_4975)]) Try.isAgg132 Try.sizeOf132 (et (v := (Value.pointer (some ⟨w.heap.size, 2, none⟩))) rfl) rfl (bx_5104.lies.sub 2 5)) ?_)
  refine l_op wn (o_val (x_field (k := 4) (j := 2) Try.underlying135 rfl Try.sizeOf132 rfl (et (v := (Value.pointer (some ⟨w_5094.heap.size, 0, none⟩))) rfl)) ?_)
  refine l_op wn (o_val (x_loadN (cs := [(Value.int .i64 i_4961), (Value.slice A_5045 n_5046 c_5047), (Value.slice A_5052 n_5053 c_5054), (Value.string s_4974), (Value.string s_4975)]) Try.isAgg132 Try.sizeOf132 (et (v := (Value.pointer (some ⟨w_5094.heap.size, 2, none⟩))) rfl) rfl (bx_5102.lies.sub 2 5)) ?_)
  have rr_5109 := (ragg (rcons (rint (w := w_5099) (n := i_4961) bd_5018) (rcons (hr_5020.below hB_5103) (rcons (hr_5023.below hB_5103) (rcons (rstr (w := w_5099) (n := s_4974) bd_5025) (rcons (rstr (w := w_5099) (n := s_4975) bd_5026) (rnil (w := w_5099))))))))
  have rr_5110 := (ragg (rcons (rint (w := w_5099) (n := i_4961) bd_5018) (rcons (hr_5050.below hB_5103) (rcons (hr_5057.below hB_5103) (rcons (rstr (w := w_5099) (n := s_4974) bd_5025) (rcons (rstr (w := w_5099) (n := s_4975) bd_5026) (rnil (w := w_5099))))))))
  refine l_op wn (o_call (x_call Try.call99 ef (a2 (et (v := (Value.agg #[(Value.int .i64 i_4961), (Value.slice A_4963 n_4964 c_4965), (Value.slice A_4969 n_4970 c_4971), (Value.string s_4974), (Value.string s_4975)])) rfl) (et (v := (Value.agg #[(Value.int .i64 i_4961), (Value.slice A_5045 n_5046 c_5047), (Value.slice A_5052 n_5053 c_5054), (Value.string s_4974), (Value.string s_4975)])) rfl))) (eq_Type w_5099 (.agg [.int i_4961, .list xs_4962, .list xs_4968, .str s_4974, .str s_4975]) [(Value.int .i64 i_4961), (Value.slice A_4963 n_4964 c_4965), (Value.slice A_4969 n_4970 c_4971), (Value.string s_4974), (Value.string s_4975)] _ [(Value.int .i64 i_4961), (Value.slice A_5045 n_5046 c_5047), (Value.slice A_5052 n_5053 c_5054), (Value.string s_4974), (Value.string s_4975)] _ (ok_agg rfl (okz_cons (ok_int rfl) (okz_cons (ok_list rfl ok_5019) (okz_cons (ok_list rfl ok_5022) (okz_cons (ok_str rfl) (okz_cons (ok_str rfl) okz_nil)))))) rr_5109 rr_5110) ?_)
  rintro _ w_5107 ⟨rfl, k_5108⟩
  refine ⟨_, rfl, ?_⟩
  have hB_5111 := below_next hB_5103 k_5108 (by omega)
  have z_5112 := k_5108.size
  have bx_5113 := bx_5104.below k_5108
  have bx_5114 := bx_5102.below k_5108
  refine l_op wn (o_val (x_not (et (v := (Value.bool true)) rfl)) ?_)
  refine l_nil ?_
  refine w_if_f (et (v := (Value.bool false)) rfl) ?_
  refine w_skip ?_
  refine w_seq ?_
  refine w_seq ?_
  refine w_region ?_
  refine l_op wn (o_val (x_field (k := 0) (j := 7) Try.underlying135 rfl Try.sizeOf29 rfl (et (v := (Value.pointer (some ⟨w.heap.size, 0, none⟩))) rfl)) ?_)
  refine l_op wn (o_val (x_load (v := (Value.slice A_4977 n_4978 c_4979)) Try.isAgg29 (et (v := (Value.pointer (some ⟨w.heap.size, 7, none⟩))) rfl) ((bx_5113.cell 7).trans rfl)) ?_)
  refine l_op wn (o_val (x_field (k := 0) (j := 7) Try.underlying135 rfl Try.sizeOf29 rfl (et (v := (Value.pointer (some ⟨w_5094.heap.size, 0, none⟩))) rfl)) ?_)
  refine l_op wn (o_val (x_load (v := (Value.slice A_5059 n_5060 c_5061)) Try.isAgg29 (et (v := (Value.pointer (some ⟨w_5094.heap.size, 7, none⟩))) rfl) ((bx_5114.cell 7).trans rfl)) ?_)
  refine l_op wn (o_call (x_call Try.call18 ef (a2 (et (v := (Value.slice A_4977 n_4978 c_4979)) rfl) (et (v := (Value.slice A_5059 n_5060 c_5061)) rfl))) (eq_StrS w_5107 xs_4976 A_4977 n_4978 c_4979 _ A_5059 n_5060 c_5061 _ ok_5027 (hr_5028.below hB_5111) (hr_5064.below hB_5111)) ?_)
  rintro _ w_5115 ⟨rfl, k_5116⟩
  refine ⟨_, rfl, ?_⟩
  have hB_5117 := below_next hB_5111 k_5116 (by omega)
  have z_5118 := k_5116.size
  have bx_5119 := bx_5113.below k_5116
  have bx_5120 := bx_5114.below k_5116
  refine l_op wn (o_val (x_not (et (v := (Value.bool true)) rfl)) ?_)
  refine l_nil ?_
  refine w_if_f (et (v := (Value.bool false)) rfl) ?_
  refine w_skip ?_
  refine w_seq ?_
  refine w_seq ?_
  refine w_region ?_
  refine l_op wn (o_val (x_field (k := 0) (j := 8) Try.underlying135 rfl Try.sizeOf29 rfl (et (v := (Value.pointer (some ⟨w.heap.size, 0, none⟩))) rfl)) ?_)
  refine l_op wn (o_val (x_load (v := (Value.slice A_4983 n_4984 c_4985)) Try.isAgg29 (et (v := (Value.pointer (some ⟨w.heap.size, 8, none⟩))) rfl) ((bx_5119.cell 8).trans rfl)) ?_)
  refine l_op wn (o_val (x_field (k := 0) (j := 8) Try.underlying135 rfl Try.sizeOf29 rfl (et (v := (Value.pointer (some ⟨w_5094.heap.size, 0, none⟩))) rfl)) ?_)
  refine l_op wn (o_val (x_load (v := (Value.slice A_5066 n_5067 c_5068)) Try.isAgg29 (et (v := (Value.pointer (some ⟨w_5094.heap.size, 8, none⟩))) rfl) ((bx_5120.cell 8).trans rfl)) ?_)
  refine l_op wn (o_call (x_call Try.call18 ef (a2 (et (v := (Value.slice A_4983 n_4984 c_4985)) rfl) (et (v := (Value.slice A_5066 n_5067 c_5068)) rfl))) (eq_StrS w_5115 xs_4982 A_4983 n_4984 c_4985 _ A_5066 n_5067 c_5068 _ ok_5030 (hr_5031.below hB_5117) (hr_5071.below hB_5117)) ?_)
  rintro _ w_5121 ⟨rfl, k_5122⟩
  refine ⟨_, rfl, ?_⟩
  have hB_5123 := below_next hB_5117 k_5122 (by omega)
  have z_5124 := k_5122.size
  have bx_5125 := bx_5119.below k_5122
  have bx_5126 := bx_5120.below k_5122
  refine l_op wn (o_val (x_not (et (v := (Value.bool true)) rfl)) ?_)
  refine l_nil ?_
  refine w_if_f (et (v := (Value.bool false)) rfl) ?_
  refine w_skip ?_
  refine w_seq ?_
  refine w_seq ?_
  refine w_region ?_
  refine l_op wn (o_val (x_field (k := 0) (j := 9) Try.underlying135 rfl Try.sizeOf9 rfl (et (v := (Value.pointer (some ⟨w.heap.size, 0, none⟩))) rfl)) ?_)
  refine l_op wn (o_val (x_load (v := (Value.string s_4988)) Try.isAgg9 (et (v := (Value.pointer (some ⟨w.heap.size, 9, none⟩))) rfl) ((bx_5125.cell 9).trans rfl)) ?_)
  refine l_op wn (o_val (x_field (k := 0) (j := 9) Try.underlying135 rfl Try.sizeOf9 rfl (et (v := (Value.pointer (some ⟨w_5094.heap.size, 0, none⟩))) rfl)) ?_)
  refine l_op wn (o_val (x_load (v := (Value.string s_4988)) Try.isAgg9 (et (v := (Value.pointer (some ⟨w_5094.heap.size, 9, none⟩))) rfl) ((bx_5126.cell 9).trans rfl)) ?_)
  have h_5127 : s_4988 = s_4988 := rfl
  refine l_op wn (o_val (x_sneq (r := false) (et (v := (Value.string s_4988)) rfl) (et (v := (Value.string s_4988)) rfl) (dec_t h_5127)) ?_)
  refine l_nil ?_
  refine w_if_f (et (v := (Value.bool false)) rfl) ?_
  refine w_skip ?_
  refine w_seq ?_
  refine w_seq ?_
  refine w_region ?_
  refine l_op wn (o_val (x_field (k := 0) (j := 10) Try.underlying135 rfl Try.sizeOf4 rfl (et (v := (Value.pointer (some ⟨w.heap.size, 0, none⟩))) rfl)) ?_)
  refine l_op wn (o_val (x_load (v := (Value.bool q_4989)) Try.isAgg4 (et (v := (Value.pointer (some ⟨w.heap.size, 10, none⟩))) rfl) ((bx_5125.cell 10).trans rfl)) ?_)
  refine l_op wn (o_val (x_field (k := 0) (j := 10) Try.underlying135 rfl Try.sizeOf4 rfl (et (v := (Value.pointer (some ⟨w_5094.heap.size, 0, none⟩))) rfl)) ?_)
  refine l_op wn (o_val (x_load (v := (Value.bool q_4989)) Try.isAgg4 (et (v := (Value.pointer (some ⟨w_5094.heap.size, 10, none⟩))) rfl) ((bx_5126.cell 10).trans rfl)) ?_)
  have h_5128 : q_4989 = q_4989 := rfl
  refine l_op wn (o_val (x_bneq Try.underlying4 (r := false) (et (v := (Value.bool q_4989)) rfl) (et (v := (Value.bool q_4989)) rfl) (dec_t h_5128)) ?_)
  refine l_nil ?_
  refine w_if_f (et (v := (Value.bool false)) rfl) ?_
  refine w_skip ?_
  refine w_seq ?_
  refine w_seq ?_
  refine w_region ?_
  refine l_op wn (o_val (x_field (k := 0) (j := 11) Try.underlying135 rfl Try.sizeOf4 rfl (et (v := (Value.pointer (some ⟨w.heap.size, 0, none⟩))) rfl)) ?_)
  refine l_op wn (o_val (x_load (v := (Value.bool q_4990)) Try.isAgg4 (et (v := (Value.pointer (some ⟨w.heap.size, 11, none⟩))) rfl) ((bx_5125.cell 11).trans rfl)) ?_)
  refine l_op wn (o_val (x_field (k := 0) (j := 11) Try.underlying135 rfl Try.sizeOf4 rfl (et (v := (Value.pointer (some ⟨w_5094.heap.size, 0, none⟩))) rfl)) ?_)
  refine l_op wn (o_val (x_load (v := (Value.bool q_4990)) Try.isAgg4 (et (v := (Value.pointer (some ⟨w_5094.heap.size, 11, none⟩))) rfl) ((bx_5126.cell 11).trans rfl)) ?_)
  have h_5129 : q_4990 = q_4990 := rfl
  refine l_op wn (o_val (x_bneq Try.underlying4 (r := false) (et (v := (Value.bool q_4990)) rfl) (et (v := (Value.bool q_4990)) rfl) (dec_t h_5129)) ?_)
  refine l_nil ?_
  refine w_if_f (et (v := (Value.bool false)) rfl) ?_
  refine w_skip ?_
  refine w_seq ?_
  refine w_seq ?_
  refine w_region ?_
  refine l_op wn (o_val (x_field (k := 0) (j := 12) Try.underlying135 rfl Try.sizeOf4 rfl (et (v := (Value.pointer (some ⟨w.heap.size, 0, none⟩))) rfl)) ?_)
  refine l_op wn (o_val (x_load (v := (Value.bool q_4991)) Try.isAgg4 (et (v := (Value.pointer (some ⟨w.heap.size, 12, none⟩))) rfl) ((bx_5125.cell 12).trans rfl)) ?_)
  refine l_op wn (o_val (x_field (k := 0) (j := 12) Try.underlying135 rfl Try.sizeOf4 rfl (et (v := (Value.pointer (some ⟨w_5094.heap.size, 0, none⟩))) rfl)) ?_)
  refine l_op wn (o_val (x_load (v := (Value.bool q_4991)) Try.isAgg4 (et (v := (Value.pointer (some ⟨w_5094.heap.size, 12, none⟩))) rfl) ((bx_5126.cell 12).trans rfl)) ?_)
  have h_5130 : q_4991 = q_4991 := rfl
  refine l_op wn (o_val (x_bneq Try.underlying4 (r := false) (et (v := (Value.bool q_4991)) rfl) (et (v := (Value.bool q_4991)) rfl) (dec_t h_5130)) ?_)
  refine l_nil ?_
  refine w_if_f (et (v := (Value.bool false)) rfl) ?_
  refine w_skip ?_
  refine w_seq ?_
  refine w_seq ?_
  refine w_region ?_
  refine l_op wn (o_val (x_field (k := 0) (j := 13) Try.underlying135 rfl Try.sizeOf4 rfl (et (v := (Value.pointer (some ⟨w.heap.size, 0, none⟩))) rfl)) ?_)
  refine l_op wn (o_val (x_load (v := (Value.bool q_4992)) Try.isAgg4 (et (v := (Value.pointer (some ⟨w.heap.size, 13, none⟩))) rfl) ((bx_5125.cell 13).trans rfl)) ?_)
  refine l_op wn (o_val (x_field (k := 0) (j := 13) Try.underlying135 rfl Try.sizeOf4 rfl (et (v := (Value.pointer (some ⟨w_5094.heap.size, 0, none⟩))) rfl)) ?_)
  refine l_op wn (o_val (x_load (v := (Value.bool q_4992)) Try.isAgg4 (et (v := (Value.pointer (some ⟨w_5094.heap.size, 13, none⟩))) rfl) ((bx_5126.cell 13).trans rfl)) ?_)
  have h_5131 : q_4992 = q_4992 := rfl
  refine l_op wn (o_val (x_bneq Try.underlying4 (r := false) (et (v := (Value.bool q_4992)) rfl) (et (v := (Value.bool q_4992)) rfl) (dec_t h_5131)) ?_)
  refine l_nil ?_
  refine w_if_f (et (v := (Value.bool false)) rfl) ?_
  refine w_skip ?_
  refine w_seq ?_
  refine w_seq ?_
  refine w_region ?_
  refine l_op wn (o_val (x_field (k := 0) (j := 14) Try.underlying135 rfl Try.sizeOf3 rfl (et (v := (Value.pointer (some ⟨w.heap.size, 0, none⟩))) rfl)) ?_)
  refine l_op wn (o_val (x_load (v := (Value.int .i64 i_4993)) Try.isAgg3 (et (v := (Value.pointer (some ⟨w.heap.size, 14, none⟩))) rfl) ((bx_5125.cell 14).trans rfl)) ?_)
  refine l_op wn (o_val (x_field (k := 0) (j := 14) Try.underlying135 rfl Try.sizeOf3 rfl (et (v := (Value.pointer (some ⟨w_5094.heap.size, 0, none⟩))) rfl)) ?_)
  refine l_op wn (o_val (x_load (v := (Value.int .i64 i_4993)) Try.isAgg3 (et (v := (Value.pointer (some ⟨w_5094.heap.size, 14, none⟩))) rfl) ((bx_5126.cell 14).trans rfl)) ?_)
  have h_5132 : i_4993 = i_4993 := rfl
  refine l_op wn (o_val (x_neq (r := false) (et (v := (Value.int .i64 i_4993)) rfl) (et (v := (Value.int .i64 i_4993)) rfl) (dec_t h_5132)) ?_)
  refine l_nil ?_
  refine w_if_f (et (v := (Value.bool false)) rfl) ?_
  refine w_skip ?_
  refine w_seq ?_
  refine w_seq ?_
  refine w_region ?_
  refine l_op wn (o_val (x_field (k := 0) (j := 15) Try.underlying135 rfl Try.sizeOf3 rfl (et (v := (Value.pointer (some ⟨w.heap.size, 0, none⟩))) rfl)) ?_)
  refine l_op wn (o_val (x_load (v := (Value.int .i64 i_4994)) Try.isAgg3 (et (v := (Value.pointer (some ⟨w.heap.size, 15, none⟩))) rfl) ((bx_5125.cell 15).trans rfl)) ?_)
  refine l_op wn (o_val (x_field (k := 0) (j := 15) Try.underlying135 rfl Try.sizeOf3 rfl (et (v := (Value.pointer (some ⟨w_5094.heap.size, 0, none⟩))) rfl)) ?_)
  refine l_op wn (o_val (x_load (v := (Value.int .i64 i_4994)) Try.isAgg3 (et (v := (Value.pointer (some ⟨w_5094.heap.size, 15, none⟩))) rfl) ((bx_5126.cell 15).trans rfl)) ?_)
  have h_5133 : i_4994 = i_4994 := rfl
  refine l_op wn (o_val (x_neq (r := false) (et (v := (Value.int .i64 i_4994)) rfl) (et (v := (Value.int .i64 i_4994)) rfl) (dec_t h_5133)) ?_)
  refine l_nil ?_
  refine w_if_f (et (v := (Value.bool false)) rfl) ?_
  refine w_skip ?_
  refine w_seq ?_
  refine w_seq ?_
  refine w_region ?_
  refine l_op wn (o_val (x_field (k := 0) (j := 16) Try.underlying135 rfl Try.sizeOf133 rfl (et (v := (Value.pointer (some ⟨w.heap.size, 0, none⟩))) rfl)) ?_)
  refine l_op wn (o_val (x_load (v := (Value.slice A_4996 n_4997 c_4998)) Try.isAgg133 (et (v := (Value.pointer (some ⟨w.heap.size, 16, none⟩))) rfl) ((bx_5125.cell 16).trans rfl)) ?_)
  refine l_op wn (o_val (x_field (k := 0) (j := 16) Try.underlying135 rfl Try.sizeOf133 rfl (et (v := (Value.pointer (some ⟨w_5094.heap.size, 0, none⟩))) rfl)) ?_)
  refine l_op wn (o_val (x_load (v := (Value.slice A_5073 n_5074 c_5075)) Try.isAgg133 (et (v := (Value.pointer (some ⟨w_5094.heap.size, 16, none⟩))) rfl) ((bx_5126.cell 16).trans rfl)) ?_)
  refine l_op wn (o_call (x_call Try.call100 ef (a2 (et (v := (Value.slice A_4996 n_4997 c_4998)) rfl) (et (v := (Value.slice A_5073 n_5074 c_5075)) rfl))) (eq_ExprS w_5121 xs_4995 A_4996 n_4997 c_4998 _ A_5073 n_5074 c_5075 _ ok_5036 (hr_5037.below hB_5123) (hr_5078.below hB_5123)) ?_)
  rintro _ w_5134 ⟨rfl, k_5135⟩
  refine ⟨_, rfl, ?_⟩
  have hB_5136 := below_next hB_5123 k_5135 (by omega)
  have z_5137 := k_5135.size
  have bx_5138 := bx_5125.below k_5135
  have bx_5139 := bx_5126.below k_5135
  refine l_op wn (o_val (x_not (et (v := (Value.bool true)) rfl)) ?_)
  refine l_nil ?_
  refine w_if_f (et (v := (Value.bool false)) rfl) ?_
  refine w_skip ?_
  refine w_seq ?_
  refine w_seq ?_
  refine w_region ?_
  refine l_op wn (o_val (x_field (k := 0) (j := 17) Try.underlying135 rfl Try.sizeOf133 rfl (et (v := (Value.pointer (some ⟨w.heap.size, 0, none⟩))) rfl)) ?_)
  refine l_op wn (o_val (x_load (v := (Value.slice A_5002 n_5003 c_5004)) Try.isAgg133 (et (v := (Value.pointer (some ⟨w.heap.size, 17, none⟩))) rfl) ((bx_5138.cell 17).trans rfl)) ?_)
  refine l_op wn (o_val (x_field (k := 0) (j := 17) Try.underlying135 rfl Try.sizeOf133 rfl (et (v := (Value.pointer (some ⟨w_5094.heap.size, 0, none⟩))) rfl)) ?_)
  refine l_op wn (o_val (x_load (v := (Value.slice A_5080 n_5081 c_5082)) Try.isAgg133 (et (v := (Value.pointer (some ⟨w_5094.heap.size, 17, none⟩))) rfl) ((bx_5139.cell 17).trans rfl)) ?_)
  refine l_op wn (o_call (x_call Try.call100 ef (a2 (et (v := (Value.slice A_5002 n_5003 c_5004)) rfl) (et (v := (Value.slice A_5080 n_5081 c_5082)) rfl))) (eq_ExprS w_5134 xs_5001 A_5002 n_5003 c_5004 _ A_5080 n_5081 c_5082 _ ok_5039 (hr_5040.below hB_5136) (hr_5085.below hB_5136)) ?_)
  rintro _ w_5140 ⟨rfl, k_5141⟩
  refine ⟨_, rfl, ?_⟩
  have hB_5142 := below_next hB_5136 k_5141 (by omega)
  have z_5143 := k_5141.size
  have bx_5144 := bx_5138.below k_5141
  have bx_5145 := bx_5139.below k_5141
  refine l_op wn (o_val (x_not (et (v := (Value.bool true)) rfl)) ?_)
  refine l_nil ?_
  refine w_if_f (et (v := (Value.bool false)) rfl) ?_
  refine w_skip ?_
  refine w_seq ?_
  refine w_seq ?_
  refine w_region ?_
  refine l_op wn (o_val (x_field (k := 0) (j := 18) Try.underlying135 rfl Try.sizeOf63 rfl (et (v := (Value.pointer (some ⟨w.heap.size, 0, none⟩))) rfl)) ?_)
  refine l_op wn (o_val (x_load (v := (Value.slice A_5008 n_5009 c_5010)) Try.isAgg63 (et (v := (Value.pointer (some ⟨w.heap.size, 18, none⟩))) rfl) ((bx_5144.cell 18).trans rfl)) ?_)
  refine l_op wn (o_val (x_field (k := 0) (j := 18) Try.underlying135 rfl Try.sizeOf63 rfl (et (v := (Value.pointer (some ⟨w_5094.heap.size, 0, none⟩))) rfl)) ?_)
  refine l_op wn (o_val (x_load (v := (Value.slice A_5087 n_5088 c_5089)) Try.isAgg63 (et (v := (Value.pointer (some ⟨w_5094.heap.size, 18, none⟩))) rfl) ((bx_5145.cell 18).trans rfl)) ?_)
  refine l_op wn (o_call (x_call Try.call72 ef (a2 (et (v := (Value.slice A_5008 n_5009 c_5010)) rfl) (et (v := (Value.slice A_5087 n_5088 c_5089)) rfl))) (ih w_5140 xs_5007 A_5008 n_5009 c_5010 _ A_5087 n_5088 c_5089 _ ok_5042 (hr_5043.below hB_5142) (hr_5092.below hB_5142) (by omega)) ?_)
  rintro _ w_5146 ⟨rfl, k_5147⟩
  refine ⟨_, rfl, ?_⟩
  have hB_5148 := below_next hB_5142 k_5147 (by omega)
  have z_5149 := k_5147.size
  have bx_5150 := bx_5144.below k_5147
  have bx_5151 := bx_5145.below k_5147
  refine l_op wn (o_val (x_not (et (v := (Value.bool true)) rfl)) ?_)
  refine l_nil ?_
  refine w_if_f (et (v := (Value.bool false)) rfl) ?_
  refine w_skip ?_
  refine w_seq ?_
  refine w_region ?_
  refine l_op wn (o_val (x_assign ec) ?_)
  refine l_nil ?_
  refine w_ret ?_
  exact ⟨_, r_tmp (v := (Value.bool true)) Try.results89 rfl, rfl, hB_5148⟩

set_option maxHeartbeats 1000000 in
theorem eq_SchemaS_of (k : Nat) (ih : Eq_Schema k) : Eq_SchemaS k := by
  intro w xs A n c F A' n' c' F' ok hr hr' hc
  have hB0 := Below.refl w.heap.size w
  obtain ⟨ln, lc, lm⟩ := hr.len
  obtain ⟨ln', lc', lm'⟩ := hr'.len
  refine enter (N := 27) Try.func72 rfl Try.ntmps72 rfl ?_
  refine w_seq ?_
  refine w_region ?_
  refine l_op wn (o_val (x_assign ec) ?_)
  refine l_nil ?_
  refine w_seq ?_
  refine w_seq ?_
  refine w_region ?_
  refine l_op wn (o_val (x_move (et (v := (Value.slice A n c)) rfl)) ?_)
  refine l_op wn (o_val (x_len Try.underlying63 (et (v := (Value.slice A n c)) rfl)) ?_)
  refine l_op wn (o_val (x_move (et (v := (Value.slice A' n' c')) rfl)) ?_)
  refine l_op wn (o_val (x_len Try.underlying63 (et (v := (Value.slice A' n' c')) rfl)) ?_)
  have h_5152 : (n : Int) = (n' : Int) := by omega
  refine l_op wn (o_val (x_neq (r := false) (et (v := (Value.int .i64 (n : Int))) rfl) (et (v := (Value.int .i64 (n' : Int))) rfl) (dec_t h_5152)) ?_)
  refine l_nil ?_
  refine w_if_f (et (v := (Value.bool false)) rfl) ?_
  refine w_skip ?_
  refine w_seq ?_
  refine w_seq ?_
  refine w_region ?_
  refine l_op wn (o_val (x_assign ec) ?_)
  refine l_nil ?_
  refine w_block ?_
  refine w_loop (fun μ f w' => ∃ (i : Nat), f 0 = (Value.slice A n c) ∧ f 1 = (Value.slice A' n' c') ∧ f 5 = (Value.int .i64 (i : Int)) ∧ Below w.heap.size w w' ∧ (i ≤ n) ∧ μ = n - i) (n - 0) ?_ ?_
  · exact ⟨0, rfl, rfl, vint (a := 0) (by omega), hB0, (by omega), rfl⟩
  rintro m_5155 f_5153 w_5154 ⟨i, hs_5157, hs_5158, hs_5159, hB_5156, hi, rfl⟩
  have z_5160 := hB_5156.size
  refine w_seq ?_
  refine w_seq ?_
  refine w_region ?_
  refine l_op wn (o_val (x_move (et (v := (Value.int .i64 (i : Int))) hs_5159)) ?_)
  refine l_op wn (o_val (x_move (et (v := (Value.slice A n c)) hs_5157)) ?_)
  refine l_op wn (o_val (x_len Try.underlying63 (et (v := (Value.slice A n c)) rfl)) ?_)
  by_cases h_5161 : (i : Int) < (n : Int)
  rotate_left
  · refine l_op wn (o_val (x_lss (r := false) (et (v := (Value.int .i64 (i : Int))) rfl) (et (v := (Value.int .i64 (n : Int))) rfl) (dec_f h_5161)) ?_)
    refine l_nil ?_
    refine w_if_f (et (v := (Value.bool false)) rfl) ?_
    refine w_exit ?_
    refine Eq.mpr (if_pos rfl) ?_
    refine w_seq ?_
    refine w_region ?_
    refine l_op wn (o_val (x_assign ec) ?_)
    refine l_nil ?_
    refine w_ret ?_
    exact ⟨_, r_tmp (v := (Value.bool true)) Try.results72 rfl, rfl, hB_5156⟩
  refine l_op wn (o_val (x_lss (r := true) (et (v := (Value.int .i64 (i : Int))) rfl) (et (v := (Value.int .i64 (n : Int))) rfl) (dec_t h_5161)) ?_)
  refine l_nil ?_
  refine w_if_t (et (v := (Value.bool true)) rfl) ?_
  refine w_skip ?_
  refine w_seq ?_
  refine w_block ?_
  refine w_seq ?_
  obtain ⟨b_5163, o_5164, x_5165, cs_5166, G_5167, hA_5168, hbF_5169, hlt_5170, hx_5171, hrx_5172, hG_5173, hl_5174, hcl_5175⟩ := hr.elem (k := 19) (fun y hy => wd_Schema (ok.mem y hy)) (i := i) (by omega)
  obtain ⟨i_5176, s_5177, i_5178, xs_5179, A_5180, n_5181, c_5182, F_5183, xs_5185, A_5186, n_5187, c_5188, F_5189, s_5191, s_5192, xs_5193, A_5194, n_5195, c_5196, F_5197, xs_5199, A_5200, n_5201, c_5202, F_5203, s_5205, q_5206, q_5207, q_5208, q_5209, i_5210, i_5211, xs_5212, A_5213, n_5214, c_5215, F_5216, xs_5218, A_5219, n_5220, c_5221, F_5222, xs_5224, A_5225, n_5226, c_5227, F_5228, rfl, rfl, rfl, bd_5233, bd_5234, bd_5235, ok_5236, hr_5237, ln_5238, ok_5239, hr_5240, ln_5241, bd_5242, bd_5243, ok_5244, hr_5245, ln_5246, ok_5247, hr_5248, ln_5249, bd_5250, bd_5251, bd_5252, ok_5253, hr_5254, ln_5255, ok_5256, hr_5257, ln_5258, ok_5259, hr_5260, ln_5261⟩ := open_Schema (ok.get hx_5171) hrx_5172
  obtain ⟨b_5262, o_5263, cs_5264, G_5265, hA_5266, hbF_5267, hlt_5268, hrx_5269, hG_5270, hl_5271, hcl_5272⟩ := hr'.elemx (k := 19) (fun y hy => wd_Schema (ok.mem y hy)) hx_5171
  obtain ⟨A_5273, n_5274, c_5275, F_5276, A_5280, n_5281, c_5282, F_5283, A_5287, n_5288, c_5289, F_5290, A_5294, n_5295, c_5296, F_5297, A_5301, n_5302, c_5303, F_5304, A_5308, n_5309, c_5310, F_5311, A_5315, n_5316, c_5317, F_5318, rfl, hr_5278, ln_5279, hr_5285, ln_5286, hr_5292, ln_5293, hr_5299, ln_5300, hr_5306, ln_5307, hr_5313, ln_5314, hr_5320, ln_5321⟩ := cellr_Schema hrx_5269
  have hS_5322 := Sm.start [b_5163, b_5262] w_5154
  refine w_draw (Sm [b_5163, b_5262] w_5154) [(0, true), (1, true), (2, true), (3, true), (4, true), (5, true), (6, true), (7, true), (8, false), (9, true)] (by kernel_rfl) (by kernel_rfl) rfl (by kernel_rfl) ?_
  have hB_5323 := hB_5156.drew
  have z_5324 : w_5154.drew.heap.size = w_5154.heap.size := rfl
  refine d_q rfl rfl wn (fun w' hS' => (x_move (et (v := (Value.slice A n c)) hs_5157))) hS_5322 ?_
  refine d_q rfl rfl wn (fun w' hS' => (x_move (et (v := (Value.int .i64 (i : Int))) hs_5159))) hS_5322 ?_
  refine d_q rfl rfl wn (fun w' hS' => (x_index' (i := i) Try.underlying63 Try.sizeOf135 (et (v := (Value.slice A n c)) rfl) hA_5168 (et (v := (Value.int .i64 (i : Int))) rfl) (by omega) (by omega))) hS_5322 ?_
  refine d_q rfl rfl wn (fun w' hS' => (x_loadN (cs := [(Value.int .i64 i_5176), (Value.string s_5177), (Value.int .i64 i_5178), (Value.slice A_5180 n_5181 c_5182), (Value.slice A_5186 n_5187 c_5188), (Value.string s_5191), (Value.string s_5192), (Value.slice A_5194 n_5195 c_5196), (Value.slice A_5200 n_5201 c_5202), (Value.string s_5205), (Value.bool q_5206), (Value.bool q_5207), (Value.bool q_5208), (Value.bool q_5209), (Value.int .i64 i_5210), (Value.int .i64 i_5211), (Value.slice A_5213 n_5214 c_5215), (Value.slice A_5219 n_5220 c_5221), (Value.slice A_5225 n_5226 c_5227)]) Try.isAgg135 Try.sizeOf135 (et (v := (Value.pointer (some ⟨b_5163, o_5164 + i * 19, none⟩))) rfl) rfl (((hl_5174.keep (hB_5156.block _ hlt_5170)).keep (hS' _ (by simp)))))) hS_5322 ?_
  refine d_q rfl rfl wn (fun w' hS' => (x_move (et (v := (Value.slice A' n' c')) hs_5158))) hS_5322 ?_
  refine d_q rfl rfl wn (fun w' hS' => (x_move (et (v := (Value.int .i64 (i : Int))) hs_5159))) hS_5322 ?_
  refine d_q rfl rfl wn (fun w' hS' => (x_index' (i := i) Try.underlying63 Try.sizeOf135 (et (v := (Value.slice A' n' c')) rfl) hA_5266 (et (v := (Value.int .i64 (i : Int))) rfl) (by omega) (by omega))) hS_5322 ?_
  refine d_q rfl rfl wn (fun w' hS' => (x_loadN (cs := [(Value.int .i64 i_5176), (Value.string s_5177), (Value.int .i64 i_5178), (Value.slice A_5273 n_5274 c_5275), (Value.slice A_5280 n_5281 c_5282), (Value.string s_5191), (Value.string s_5192), (Value.slice A_5287 n_5288 c_5289), (Value.slice A_5294 n_5295 c_5296), (Value.string s_5205), (Value.bool q_5206), (Value.bool q_5207), (Value.bool q_5208), (Value.bool q_5209), (Value.int .i64 i_5210), (Value.int .i64 i_5211), (Value.slice A_5301 n_5302 c_5303), (Value.slice A_5308 n_5309 c_5310), (Value.slice A_5315 n_5316 c_5317)]) Try.isAgg135 Try.sizeOf135 (et (v := (Value.pointer (some ⟨b_5262, o_5263 + i * 19, none⟩))) rfl) rfl (((hl_5271.keep (hB_5156.block _ hlt_5268)).keep (hS' _ (by simp)))))) hS_5322 ?_
  have rr_5327 := (ragg (rcons (rint (w := w_5154.drew) (n := i_5176) bd_5233) (rcons (rstr (w := w_5154.drew) (n := s_5177) bd_5234) (rcons (ragg (rcons (rint (w := w_5154.drew) (n := i_5178) bd_5235) (rcons (hr_5237.below hB_5323) (rcons (hr_5240.below hB_5323) (rcons (rstr (w := w_5154.drew) (n := s_5191) bd_5242) (rcons (rstr (w := w_5154.drew) (n := s_5192) bd_5243) (rnil (w := w_5154.drew)))))))) (rcons (hr_5245.below hB_5323) (rcons (hr_5248.below hB_5323) (rcons (rstr (w := w_5154.drew) (n := s_5205) bd_5250) (rcons (rbool (w := w_5154.drew) (n := q_5206)) (rcons (rbool (w := w_5154.drew) (n := q_5207)) (rcons (rbool (w := w_5154.drew) (n := q_5208)) (rcons (rbool (w := w_5154.drew) (n := q_5209)) (rcons (rint (w := w_5154.drew) (n := i_5210) bd_5251) (rcons (rint (w := w_5154.drew) (n := i_5211) bd_5252) (rcons (hr_5254.below hB_5323) (rcons (hr_5257.below hB_5323) (rcons (hr_5260.below hB_5323) (rnil (w := w_5154.drew))))))))))))))))))
  have rr_5328 := (ragg (rcons (rint (w := w_5154.drew) (n := i_5176) bd_5233) (rcons (rstr (w := w_5154.drew) (n := s_5177) bd_5234) (rcons (ragg (rcons (rint (w := w_5154.drew) (n := i_5178) bd_5235) (rcons (hr_5278.below hB_5323) (rcons (hr_5285.below hB_5323) (rcons (rstr (w := w_5154.drew) (n := s_5191) bd_5242) (rcons (rstr (w := w_5154.drew) (n := s_5192) bd_5243) (rnil (w := w_5154.drew)))))))) (rcons (hr_5292.below hB_5323) (rcons (hr_5299.below hB_5323) (rcons (rstr (w := w_5154.drew) (n := s_5205) bd_5250) (rcons (rbool (w := w_5154.drew) (n := q_5206)) (rcons (rbool (w := w_5154.drew) (n := q_5207)) (rcons (rbool (w := w_5154.drew) (n := q_5208)) (rcons (rbool (w := w_5154.drew) (n := q_5209)) (rcons (rint (w := w_5154.drew) (n := i_5210) bd_5251) (rcons (rint (w := w_5154.drew) (n := i_5211) bd_5252) (rcons (hr_5306.below hB_5323) (rcons (hr_5313.below hB_5323) (rcons (hr_5320.below hB_5323) (rnil (w := w_5154.drew))))))))))))))))))
  refine d_op rfl wn (o_call (x_call Try.call89 ef (a2 (et (v := (Value.agg #[(Value.int .i64 i_5176), (Value.string s_5177), (Value.int .i64 i_5178), (Value.slice A_5180 n_5181 c_5182), (Value.slice A_5186 n_5187 c_5188), (Value.string s_5191), (Value.string s_5192), (Value.slice A_5194 n_5195 c_5196), (Value.slice A_5200 n_5201 c_5202), (Value.string s_5205), (Value.bool q_5206), (Value.bool q_5207), (Value.bool q_5208), (Value.bool q_5209), (Value.int .i64 i_5210), (Value.int .i64 i_5211), (Value.slice A_5213 n_5214 c_5215), (Value.slice A_5219 n_5220 c_5221), (Value.slice A_5225 n_5226 c_5227)])) rfl) (et (v := (Value.agg #[(Value.int .i64 i_5176), (Value.string s_5177), (Value.int .i64 i_5178), (Value.slice A_5273 n_5274 c_5275), (Value.slice A_5280 n_5281 c_5282), (Value.string s_5191), (Value.string s_5192), (Value.slice A_5287 n_5288 c_5289), (Value.slice A_5294 n_5295 c_5296), (Value.string s_5205), (Value.bool q_5206), (Value.bool q_5207), (Value.bool q_5208), (Value.bool q_5209), (Value.int .i64 i_5210), (Value.int .i64 i_5211), (Value.slice A_5301 n_5302 c_5303), (Value.slice A_5308 n_5309 c_5310), (Value.slice A_5315 n_5316 c_5317)])) rfl))) (ih w_5154.drew (.agg [.int i_5176, .str s_5177, .agg [.int i_5178, .list xs_5179, .list xs_5185, .str s_5191, .str s_5192], .list xs_5193, .list xs_5199, .str s_5205, .bool q_5206, .bool q_5207, .bool q_5208, .bool q_5209, .int i_5210, .int i_5211, .list xs_5212, .list xs_5218, .list xs_5224]) [(Value.int .i64 i_5176), (Value.string s_5177), (Value.int .i64 i_5178), (Value.slice A_5180 n_5181 c_5182), (Value.slice A_5186 n_5187 c_5188), (Value.string s_5191), (Value.string s_5192), (Value.slice A_5194 n_5195 c_5196), (Value.slice A_5200 n_5201 c_5202), (Value.string s_5205), (Value.bool q_5206), (Value.bool q_5207), (Value.bool q_5208), (Value.bool q_5209), (Value.int .i64 i_5210), (Value.int .i64 i_5211), (Value.slice A_5213 n_5214 c_5215), (Value.slice A_5219 n_5220 c_5221), (Value.slice A_5225 n_5226 c_5227)] _ [(Value.int .i64 i_5176), (Value.string s_5177), (Value.int .i64 i_5178), (Value.slice A_5273 n_5274 c_5275), (Value.slice A_5280 n_5281 c_5282), (Value.string s_5191), (Value.string s_5192), (Value.slice A_5287 n_5288 c_5289), (Value.slice A_5294 n_5295 c_5296), (Value.string s_5205), (Value.bool q_5206), (Value.bool q_5207), (Value.bool q_5208), (Value.bool q_5209), (Value.int .i64 i_5210), (Value.int .i64 i_5211), (Value.slice A_5301 n_5302 c_5303), (Value.slice A_5308 n_5309 c_5310), (Value.slice A_5315 n_5316 c_5317)] _ (ok_agg rfl (okz_cons (ok_int rfl) (okz_cons (ok_str rfl) (okz_cons (ok_agg rfl (okz_cons (ok_int rfl) (okz_cons (ok_list rfl ok_5236) (okz_cons (ok_list rfl ok_5239) (okz_cons (ok_str rfl) (okz_cons (ok_str rfl) okz_nil)))))) (okz_cons (ok_list rfl ok_5244) (okz_cons (ok_list rfl ok_5247) (okz_cons (ok_str rfl) (okz_cons (ok_bool rfl) (okz_cons (ok_bool rfl) (okz_cons (ok_bool rfl) (okz_cons (ok_bool rfl) (okz_cons (ok_int rfl) (okz_cons (ok_int rfl) (okz_cons (ok_list rfl ok_5253) (okz_cons (ok_list rfl ok_5256) (okz_cons (ok_list rfl ok_5259) okz_nil)))))))))))))))) rr_5327 rr_5328 (by have := cnt_mem hx_5171; omega)) ?_)
  rintro _ w_5325 ⟨rfl, k_5326⟩
  refine ⟨_, rfl, ?_⟩
  have hB_5329 := below_next hB_5323 k_5326 (by omega)
  have z_5330 := k_5326.size
  have hS_5331 := hS_5322.next k_5326 (by simp; omega)
  refine ⟨hS_5331, ?_⟩
  refine d_q rfl rfl wn (fun w' hS' => (x_not (et (v := (Value.bool true)) rfl))) hS_5331 ?_
  refine d_nil ?_
  refine w_if_f (et (v := (Value.bool false)) rfl) ?_
  refine w_skip ?_
  refine w_region ?_
  refine l_op wn (o_val (x_move (et (v := (Value.int .i64 (i : Int))) hs_5159)) ?_)
  refine l_op wn (o_val (x_add (et (v := (Value.int .i64 (i : Int))) rfl) ec (by omega)) ?_)
  refine l_op wn (o_val (x_assign (et (v := (Value.int .i64 ((i : Int) + 1))) rfl)) ?_)
  refine l_nil ?_
  exact ⟨n - (i + 1), by omega, ⟨i + 1, hs_5157, hs_5158, vint (a := ((i : Int) + 1)) (by omega), hB_5329, (by omega), rfl⟩⟩
theorem eq_Schema_all : ∀ k, Eq_Schema k
  | 0 => fun w x cs F cs' F' ok hr hr' hc => absurd hc (by have := cnt_pos x; omega)
  | k + 1 => eq_Schema_of k (eq_SchemaS_of k (eq_Schema_all k))
theorem eq_SchemaS (w : World) (xs : List V) (A : Option Addr) (n c : Nat) (F : List Nat) (A' : Option Addr) (n' c' : Nat) (F' : List Nat) (ok : Oks xs tSchema) (hr : Rep w (.list xs) [.slice A n c] F) (hr' : Rep w (.list xs) [.slice A' n' c'] F') : Calls Try.prog 72 #[.slice A n c, .slice A' n' c'] w (Rets w (.bool true)) := eq_SchemaS_of _ (eq_Schema_all _) w xs A n c F A' n' c' F' ok hr hr' (Nat.le_refl _)
theorem eq_Schema (w : World) (x : V) (cs : List Value) (F : List Nat) (cs' : List Value) (F' : List Nat) (ok : Ok x tSchema) (hr : Rep w x cs F) (hr' : Rep w x cs' F') : Calls Try.prog 89 #[.agg cs.toArray, .agg cs'.toArray] w (Rets w (.bool true)) := eq_Schema_all _ w x cs F cs' F' ok hr hr' (Nat.le_refl _)

set_option maxHeartbeats 200000 in
theorem eq_Version (w : World) (x : V) (cs : List Value) (F : List Nat) (cs' : List Value) (F' : List Nat) (ok : Ok x tVersion) (hr : Rep w x cs F) (hr' : Rep w x cs' F') : Calls Try.prog 90 #[.agg cs.toArray, .agg cs'.toArray] w (Rets w (.bool true)) := by
  obtain ⟨xs_5332, A_5333, n_5334, c_5335, F_5336, i_5338, i_5339, rfl, rfl, rfl, ok_5343, hr_5344, ln_5345, bd_5346, bd_5347⟩ := open_Version ok hr
  obtain ⟨A_5348, n_5349, c_5350, F_5351, rfl, hr_5353, ln_5354⟩ := cellr_Version hr'
  have hB0 := Below.refl w.heap.size w
  refine enter (N := 21) Try.func90 rfl Try.ntmps90 rfl ?_
  refine w_seq ?_
  refine w_region ?_
  refine l_op wn (o_new (x_box (cs := [(Value.slice A_5333 n_5334 c_5335), (Value.int .i64 i_5338), (Value.int .i64 i_5339)]) (et (v := (Value.agg #[(Value.slice A_5333 n_5334 c_5335), (Value.int .i64 i_5338), (Value.int .i64 i_5339)])) rfl)) ?_)
  intro w_5355 z_5356 k_5357 bx_5358
  have hB_5359 := below_next hB0 k_5357 (by omega)
  refine l_op wn (o_new (x_box (cs := [(Value.slice A_5348 n_5349 c_5350), (Value.int .i64 i_5338), (Value.int .i64 i_5339)]) (et (v := (Value.agg #[(Value.slice A_5348 n_5349 c_5350), (Value.int .i64 i_5338), (Value.int .i64 i_5339)])) rfl)) ?_)
  intro w_5360 z_5361 k_5362 bx_5363
  have hB_5364 := below_next hB_5359 k_5362 (by omega)
  have bx_5365 := bx_5358.below k_5362
  refine l_op wn (o_val (x_assign ec) ?_)
  refine l_nil ?_
  refine w_seq ?_
  refine w_seq ?_
  refine w_region ?_
  refine l_op wn (o_val (x_field (k := 0) (j := 0) Try.underlying138 rfl Try.sizeOf41 rfl (et (v := (Value.pointer (some ⟨w.heap.size, 0, none⟩))) rfl)) ?_)
  refine l_op wn (o_val (x_load (v := (Value.slice A_5333 n_5334 c_5335)) Try.isAgg41 (et (v := (Value.pointer (some ⟨w.heap.size, 0, none⟩))) rfl) ((bx_5365.cell 0).trans rfl)) ?_)
  refine l_op wn (o_val (x_field (k := 0) (j := 0) Try.underlying138 rfl Try.sizeOf41 rfl (et (v := (Value.pointer (some ⟨w_5355.heap.size, 0, none⟩))) rfl)) ?_)
  refine l_op wn (o_val (x_load (v := (Value.slice A_5348 n_5349 c_5350)) Try.isAgg41 (et (v := (Value.pointer (some ⟨w_5355.heap.size, 0, none⟩))) rfl) ((bx_5363.cell 0).trans rfl)) ?_)
  refine l_op wn (o_call (x_call Try.call28 ef (a2 (et (v := (Value.slice A_5333 n_5334 c_5335)) rfl) (et (v := (Value.slice A_5348 n_5349 c_5350)) rfl))) (eq_NodeS w_5360 xs_5332 A_5333 n_5334 c_5335 _ A_5348 n_5349 c_5350 _ ok_5343 (hr_5344.below hB_5364) (hr_5353.below hB_5364)) ?_)
  rintro _ w_5366 ⟨rfl, k_5367⟩
  refine ⟨_, rfl, ?_⟩
  have hB_5368 := below_next hB_5364 k_5367 (by omega)
  have z_5369 := k_5367.size
  have bx_5370 := bx_5365.below k_5367
  have bx_5371 := bx_5363.below k_5367
  refine l_op wn (o_val (x_not (et (v := (Value.bool true)) rfl)) ?_)
  refine l_nil ?_
  refine w_if_f (et (v := (Value.bool false)) rfl) ?_
  refine w_skip ?_
  refine w_seq ?_
  refine w_seq ?_
  refine w_region ?_
  refine l_op wn (o_val (x_field (k := 0) (j := 1) Try.underlying138 rfl Try.sizeOf3 rfl (et (v := (Value.pointer (some ⟨w.heap.size, 0, none⟩))) rfl)) ?_)
  refine l_op wn (o_val (x_load (v := (Value.int .i64 i_5338)) Try.isAgg3 (et (v := (Value.pointer (some ⟨w.heap.size, 1, none⟩))) rfl) ((bx_5370.cell 1).trans rfl)) ?_)
  refine l_op wn (o_val (x_field (k := 0) (j := 1) Try.underlying138 rfl Try.sizeOf3 rfl (et (v := (Value.pointer (some ⟨w_5355.heap.size, 0, none⟩))) rfl)) ?_)
  refine l_op wn (o_val (x_load (v := (Value.int .i64 i_5338)) Try.isAgg3 (et (v := (Value.pointer (some ⟨w_5355.heap.size, 1, none⟩))) rfl) ((bx_5371.cell 1).trans rfl)) ?_)
  have h_5372 : i_5338 = i_5338 := rfl
  refine l_op wn (o_val (x_neq (r := false) (et (v := (Value.int .i64 i_5338)) rfl) (et (v := (Value.int .i64 i_5338)) rfl) (dec_t h_5372)) ?_)
  refine l_nil ?_
  refine w_if_f (et (v := (Value.bool false)) rfl) ?_
  refine w_skip ?_
  refine w_seq ?_
  refine w_seq ?_
  refine w_region ?_
  refine l_op wn (o_val (x_field (k := 0) (j := 2) Try.underlying138 rfl Try.sizeOf3 rfl (et (v := (Value.pointer (some ⟨w.heap.size, 0, none⟩))) rfl)) ?_)
  refine l_op wn (o_val (x_load (v := (Value.int .i64 i_5339)) Try.isAgg3 (et (v := (Value.pointer (some ⟨w.heap.size, 2, none⟩))) rfl) ((bx_5370.cell 2).trans rfl)) ?_)
  refine l_op wn (o_val (x_field (k := 0) (j := 2) Try.underlying138 rfl Try.sizeOf3 rfl (et (v := (Value.pointer (some ⟨w_5355.heap.size, 0, none⟩))) rfl)) ?_)
  refine l_op wn (o_val (x_load (v := (Value.int .i64 i_5339)) Try.isAgg3 (et (v := (Value.pointer (some ⟨w_5355.heap.size, 2, none⟩))) rfl) ((bx_5371.cell 2).trans rfl)) ?_)
  have h_5373 : i_5339 = i_5339 := rfl
  refine l_op wn (o_val (x_neq (r := false) (et (v := (Value.int .i64 i_5339)) rfl) (et (v := (Value.int .i64 i_5339)) rfl) (dec_t h_5373)) ?_)
  refine l_nil ?_
  refine w_if_f (et (v := (Value.bool false)) rfl) ?_
  refine w_skip ?_
  refine w_seq ?_
  refine w_region ?_
  refine l_op wn (o_val (x_assign ec) ?_)
  refine l_nil ?_
  refine w_ret ?_
  exact ⟨_, r_tmp (v := (Value.bool true)) Try.results90 rfl, rfl, hB_5368⟩

set_option maxHeartbeats 200000 in
theorem eq_VersionS (w : World) (xs : List V) (A : Option Addr) (n c : Nat) (F : List Nat) (A' : Option Addr) (n' c' : Nat) (F' : List Nat) (ok : Oks xs tVersion) (hr : Rep w (.list xs) [.slice A n c] F) (hr' : Rep w (.list xs) [.slice A' n' c'] F') : Calls Try.prog 73 #[.slice A n c, .slice A' n' c'] w (Rets w (.bool true)) := by
  have hB0 := Below.refl w.heap.size w
  obtain ⟨ln, lc, lm⟩ := hr.len
  obtain ⟨ln', lc', lm'⟩ := hr'.len
  refine enter (N := 27) Try.func73 rfl Try.ntmps73 rfl ?_
  refine w_seq ?_
  refine w_region ?_
  refine l_op wn (o_val (x_assign ec) ?_)
  refine l_nil ?_
  refine w_seq ?_
  refine w_seq ?_
  refine w_region ?_
  refine l_op wn (o_val (x_move (et (v := (Value.slice A n c)) rfl)) ?_)
  refine l_op wn (o_val (x_len Try.underlying64 (et (v := (Value.slice A n c)) rfl)) ?_)
  refine l_op wn (o_val (x_move (et (v := (Value.slice A' n' c')) rfl)) ?_)
  refine l_op wn (o_val (x_len Try.underlying64 (et (v := (Value.slice A' n' c')) rfl)) ?_)
  have h_5374 : (n : Int) = (n' : Int) := by omega
  refine l_op wn (o_val (x_neq (r := false) (et (v := (Value.int .i64 (n : Int))) rfl) (et (v := (Value.int .i64 (n' : Int))) rfl) (dec_t h_5374)) ?_)
  refine l_nil ?_
  refine w_if_f (et (v := (Value.bool false)) rfl) ?_
  refine w_skip ?_
  refine w_seq ?_
  refine w_seq ?_
  refine w_region ?_
  refine l_op wn (o_val (x_assign ec) ?_)
  refine l_nil ?_
  refine w_block ?_
  refine w_loop (fun μ f w' => ∃ (i : Nat), f 0 = (Value.slice A n c) ∧ f 1 = (Value.slice A' n' c') ∧ f 5 = (Value.int .i64 (i : Int)) ∧ Below w.heap.size w w' ∧ (i ≤ n) ∧ μ = n - i) (n - 0) ?_ ?_
  · exact ⟨0, rfl, rfl, vint (a := 0) (by omega), hB0, (by omega), rfl⟩
  rintro m_5377 f_5375 w_5376 ⟨i, hs_5379, hs_5380, hs_5381, hB_5378, hi, rfl⟩
  have z_5382 := hB_5378.size
  refine w_seq ?_
  refine w_seq ?_
  refine w_region ?_
  refine l_op wn (o_val (x_move (et (v := (Value.int .i64 (i : Int))) hs_5381)) ?_)
  refine l_op wn (o_val (x_move (et (v := (Value.slice A n c)) hs_5379)) ?_)
  refine l_op wn (o_val (x_len Try.underlying64 (et (v := (Value.slice A n c)) rfl)) ?_)
  by_cases h_5383 : (i : Int) < (n : Int)
  rotate_left
  · refine l_op wn (o_val (x_lss (r := false) (et (v := (Value.int .i64 (i : Int))) rfl) (et (v := (Value.int .i64 (n : Int))) rfl) (dec_f h_5383)) ?_)
    refine l_nil ?_
    refine w_if_f (et (v := (Value.bool false)) rfl) ?_
    refine w_exit ?_
    refine Eq.mpr (if_pos rfl) ?_
    refine w_seq ?_
    refine w_region ?_
    refine l_op wn (o_val (x_assign ec) ?_)
    refine l_nil ?_
    refine w_ret ?_
    exact ⟨_, r_tmp (v := (Value.bool true)) Try.results73 rfl, rfl, hB_5378⟩
  refine l_op wn (o_val (x_lss (r := true) (et (v := (Value.int .i64 (i : Int))) rfl) (et (v := (Value.int .i64 (n : Int))) rfl) (dec_t h_5383)) ?_)
  refine l_nil ?_
  refine w_if_t (et (v := (Value.bool true)) rfl) ?_
  refine w_skip ?_
  refine w_seq ?_
  refine w_block ?_
  refine w_seq ?_
  obtain ⟨b_5385, o_5386, x_5387, cs_5388, G_5389, hA_5390, hbF_5391, hlt_5392, hx_5393, hrx_5394, hG_5395, hl_5396, hcl_5397⟩ := hr.elem (k := 3) (fun y hy => wd_Version (ok.mem y hy)) (i := i) (by omega)
  obtain ⟨xs_5398, A_5399, n_5400, c_5401, F_5402, i_5404, i_5405, rfl, rfl, rfl, ok_5409, hr_5410, ln_5411, bd_5412, bd_5413⟩ := open_Version (ok.get hx_5393) hrx_5394
  obtain ⟨b_5414, o_5415, cs_5416, G_5417, hA_5418, hbF_5419, hlt_5420, hrx_5421, hG_5422, hl_5423, hcl_5424⟩ := hr'.elemx (k := 3) (fun y hy => wd_Version (ok.mem y hy)) hx_5393
  obtain ⟨A_5425, n_5426, c_5427, F_5428, rfl, hr_5430, ln_5431⟩ := cellr_Version hrx_5421
  have hS_5432 := Sm.start [b_5385, b_5414] w_5376
  refine w_draw (Sm [b_5385, b_5414] w_5376) [(0, true), (1, true), (2, true), (3, true), (4, true), (5, true), (6, true), (7, true), (8, false), (9, true)] (by kernel_rfl) (by kernel_rfl) rfl (by kernel_rfl) ?_
  have hB_5433 := hB_5378.drew
  have z_5434 : w_5376.drew.heap.size = w_5376.heap.size := rfl
  refine d_q rfl rfl wn (fun w' hS' => (x_move (et (v := (Value.slice A n c)) hs_5379))) hS_5432 ?_
  refine d_q rfl rfl wn (fun w' hS' => (x_move (et (v := (Value.int .i64 (i : Int))) hs_5381))) hS_5432 ?_
  refine d_q rfl rfl wn (fun w' hS' => (x_index' (i := i) Try.underlying64 Try.sizeOf138 (et (v := (Value.slice A n c)) rfl) hA_5390 (et (v := (Value.int .i64 (i : Int))) rfl) (by omega) (by omega))) hS_5432 ?_
  refine d_q rfl rfl wn (fun w' hS' => (x_loadN (cs := [(Value.slice A_5399 n_5400 c_5401), (Value.int .i64 i_5404), (Value.int .i64 i_5405)]) Try.isAgg138 Try.sizeOf138 (et (v := (Value.pointer (some ⟨b_5385, o_5386 + i * 3, none⟩))) rfl) rfl (((hl_5396.keep (hB_5378.block _ hlt_5392)).keep (hS' _ (by simp)))))) hS_5432 ?_
  refine d_q rfl rfl wn (fun w' hS' => (x_move (et (v := (Value.slice A' n' c')) hs_5380))) hS_5432 ?_
  refine d_q rfl rfl wn (fun w' hS' => (x_move (et (v := (Value.int .i64 (i : Int))) hs_5381))) hS_5432 ?_
  refine d_q rfl rfl wn (fun w' hS' => (x_index' (i := i) Try.underlying64 Try.sizeOf138 (et (v := (Value.slice A' n' c')) rfl) hA_5418 (et (v := (Value.int .i64 (i : Int))) rfl) (by omega) (by omega))) hS_5432 ?_
  refine d_q rfl rfl wn (fun w' hS' => (x_loadN (cs := [(Value.slice A_5425 n_5426 c_5427), (Value.int .i64 i_5404), (Value.int .i64 i_5405)]) Try.isAgg138 Try.sizeOf138 (et (v := (Value.pointer (some ⟨b_5414, o_5415 + i * 3, none⟩))) rfl) rfl (((hl_5423.keep (hB_5378.block _ hlt_5420)).keep (hS' _ (by simp)))))) hS_5432 ?_
  have rr_5437 := (ragg (rcons (hr_5410.below hB_5433) (rcons (rint (w := w_5376.drew) (n := i_5404) bd_5412) (rcons (rint (w := w_5376.drew) (n := i_5405) bd_5413) (rnil (w := w_5376.drew))))))
  have rr_5438 := (ragg (rcons (hr_5430.below hB_5433) (rcons (rint (w := w_5376.drew) (n := i_5404) bd_5412) (rcons (rint (w := w_5376.drew) (n := i_5405) bd_5413) (rnil (w := w_5376.drew))))))
  refine d_op rfl wn (o_call (x_call Try.call90 ef (a2 (et (v := (Value.agg #[(Value.slice A_5399 n_5400 c_5401), (Value.int .i64 i_5404), (Value.int .i64 i_5405)])) rfl) (et (v := (Value.agg #[(Value.slice A_5425 n_5426 c_5427), (Value.int .i64 i_5404), (Value.int .i64 i_5405)])) rfl))) (eq_Version w_5376.drew (.agg [.list xs_5398, .int i_5404, .int i_5405]) [(Value.slice A_5399 n_5400 c_5401), (Value.int .i64 i_5404), (Value.int .i64 i_5405)] _ [(Value.slice A_5425 n_5426 c_5427), (Value.int .i64 i_5404), (Value.int .i64 i_5405)] _ (ok_agg rfl (okz_cons (ok_list rfl ok_5409) (okz_cons (ok_int rfl) (okz_cons (ok_int rfl) okz_nil)))) rr_5437 rr_5438) ?_)
  rintro _ w_5435 ⟨rfl, k_5436⟩
  refine ⟨_, rfl, ?_⟩
  have hB_5439 := below_next hB_5433 k_5436 (by omega)
  have z_5440 := k_5436.size
  have hS_5441 := hS_5432.next k_5436 (by simp; omega)
  refine ⟨hS_5441, ?_⟩
  refine d_q rfl rfl wn (fun w' hS' => (x_not (et (v := (Value.bool true)) rfl))) hS_5441 ?_
  refine d_nil ?_
  refine w_if_f (et (v := (Value.bool false)) rfl) ?_
  refine w_skip ?_
  refine w_region ?_
  refine l_op wn (o_val (x_move (et (v := (Value.int .i64 (i : Int))) hs_5381)) ?_)
  refine l_op wn (o_val (x_add (et (v := (Value.int .i64 (i : Int))) rfl) ec (by omega)) ?_)
  refine l_op wn (o_val (x_assign (et (v := (Value.int .i64 ((i : Int) + 1))) rfl)) ?_)
  refine l_nil ?_
  exact ⟨n - (i + 1), by omega, ⟨i + 1, hs_5379, hs_5380, vint (a := ((i : Int) + 1)) (by omega), hB_5439, (by omega), rfl⟩⟩

set_option maxHeartbeats 200000 in
theorem eq_Pending (w : World) (x : V) (cs : List Value) (F : List Nat) (cs' : List Value) (F' : List Nat) (ok : Ok x tPending) (hr : Rep w x cs F) (hr' : Rep w x cs' F') : Calls Try.prog 74 #[.agg cs.toArray, .agg cs'.toArray] w (Rets w (.bool true)) := by
  obtain ⟨q_5442, i_5443, i_5444, s_5445, xs_5446, A_5447, n_5448, c_5449, F_5450, rfl, rfl, rfl, bd_5455, bd_5456, bd_5457, ok_5458, hr_5459, ln_5460⟩ := open_Pending ok hr
  obtain ⟨A_5461, n_5462, c_5463, F_5464, rfl, hr_5466, ln_5467⟩ := cellr_Pending hr'
  have hB0 := Below.refl w.heap.size w
  refine enter (N := 31) Try.func74 rfl Try.ntmps74 rfl ?_
  refine w_seq ?_
  refine w_region ?_
  refine l_op wn (o_new (x_box (cs := [(Value.bool q_5442), (Value.int .i64 i_5443), (Value.int .i64 i_5444), (Value.string s_5445), (Value.slice A_5447 n_5448 c_5449)]) (et (v := (Value.agg #[(Value.bool q_5442), (Value.int .i64 i_5443), (Value.int .i64 i_5444), (Value.string s_5445), (Value.slice A_5447 n_5448 c_5449)])) rfl)) ?_)
  intro w_5468 z_5469 k_5470 bx_5471
  have hB_5472 := below_next hB0 k_5470 (by omega)
  refine l_op wn (o_new (x_box (cs := [(Value.bool q_5442), (Value.int .i64 i_5443), (Value.int .i64 i_5444), (Value.string s_5445), (Value.slice A_5461 n_5462 c_5463)]) (et (v := (Value.agg #[(Value.bool q_5442), (Value.int .i64 i_5443), (Value.int .i64 i_5444), (Value.string s_5445), (Value.slice A_5461 n_5462 c_5463)])) rfl)) ?_)
  intro w_5473 z_5474 k_5475 bx_5476
  have hB_5477 := below_next hB_5472 k_5475 (by omega)
  have bx_5478 := bx_5471.below k_5475
  refine l_op wn (o_val (x_assign ec) ?_)
  refine l_nil ?_
  refine w_seq ?_
  refine w_seq ?_
  refine w_region ?_
  refine l_op wn (o_val (x_field (k := 0) (j := 0) Try.underlying66 rfl Try.sizeOf4 rfl (et (v := (Value.pointer (some ⟨w.heap.size, 0, none⟩))) rfl)) ?_)
  refine l_op wn (o_val (x_load (v := (Value.bool q_5442)) Try.isAgg4 (et (v := (Value.pointer (some ⟨w.heap.size, 0, none⟩))) rfl) ((bx_5478.cell 0).trans rfl)) ?_)
  refine l_op wn (o_val (x_field (k := 0) (j := 0) Try.underlying66 rfl Try.sizeOf4 rfl (et (v := (Value.pointer (some ⟨w_5468.heap.size, 0, none⟩))) rfl)) ?_)
  refine l_op wn (o_val (x_load (v := (Value.bool q_5442)) Try.isAgg4 (et (v := (Value.pointer (some ⟨w_5468.heap.size, 0, none⟩))) rfl) ((bx_5476.cell 0).trans rfl)) ?_)
  have h_5479 : q_5442 = q_5442 := rfl
  refine l_op wn (o_val (x_bneq Try.underlying4 (r := false) (et (v := (Value.bool q_5442)) rfl) (et (v := (Value.bool q_5442)) rfl) (dec_t h_5479)) ?_)
  refine l_nil ?_
  refine w_if_f (et (v := (Value.bool false)) rfl) ?_
  refine w_skip ?_
  refine w_seq ?_
  refine w_seq ?_
  refine w_region ?_
  refine l_op wn (o_val (x_field (k := 0) (j := 1) Try.underlying66 rfl Try.sizeOf3 rfl (et (v := (Value.pointer (some ⟨w.heap.size, 0, none⟩))) rfl)) ?_)
  refine l_op wn (o_val (x_load (v := (Value.int .i64 i_5443)) Try.isAgg3 (et (v := (Value.pointer (some ⟨w.heap.size, 1, none⟩))) rfl) ((bx_5478.cell 1).trans rfl)) ?_)
  refine l_op wn (o_val (x_field (k := 0) (j := 1) Try.underlying66 rfl Try.sizeOf3 rfl (et (v := (Value.pointer (some ⟨w_5468.heap.size, 0, none⟩))) rfl)) ?_)
  refine l_op wn (o_val (x_load (v := (Value.int .i64 i_5443)) Try.isAgg3 (et (v := (Value.pointer (some ⟨w_5468.heap.size, 1, none⟩))) rfl) ((bx_5476.cell 1).trans rfl)) ?_)
  have h_5480 : i_5443 = i_5443 := rfl
  refine l_op wn (o_val (x_neq (r := false) (et (v := (Value.int .i64 i_5443)) rfl) (et (v := (Value.int .i64 i_5443)) rfl) (dec_t h_5480)) ?_)
  refine l_nil ?_
  refine w_if_f (et (v := (Value.bool false)) rfl) ?_
  refine w_skip ?_
  refine w_seq ?_
  refine w_seq ?_
  refine w_region ?_
  refine l_op wn (o_val (x_field (k := 0) (j := 2) Try.underlying66 rfl Try.sizeOf3 rfl (et (v := (Value.pointer (some ⟨w.heap.size, 0, none⟩))) rfl)) ?_)
  refine l_op wn (o_val (x_load (v := (Value.int .i64 i_5444)) Try.isAgg3 (et (v := (Value.pointer (some ⟨w.heap.size, 2, none⟩))) rfl) ((bx_5478.cell 2).trans rfl)) ?_)
  refine l_op wn (o_val (x_field (k := 0) (j := 2) Try.underlying66 rfl Try.sizeOf3 rfl (et (v := (Value.pointer (some ⟨w_5468.heap.size, 0, none⟩))) rfl)) ?_)
  refine l_op wn (o_val (x_load (v := (Value.int .i64 i_5444)) Try.isAgg3 (et (v := (Value.pointer (some ⟨w_5468.heap.size, 2, none⟩))) rfl) ((bx_5476.cell 2).trans rfl)) ?_)
  have h_5481 : i_5444 = i_5444 := rfl
  refine l_op wn (o_val (x_neq (r := false) (et (v := (Value.int .i64 i_5444)) rfl) (et (v := (Value.int .i64 i_5444)) rfl) (dec_t h_5481)) ?_)
  refine l_nil ?_
  refine w_if_f (et (v := (Value.bool false)) rfl) ?_
  refine w_skip ?_
  refine w_seq ?_
  refine w_seq ?_
  refine w_region ?_
  refine l_op wn (o_val (x_field (k := 0) (j := 3) Try.underlying66 rfl Try.sizeOf9 rfl (et (v := (Value.pointer (some ⟨w.heap.size, 0, none⟩))) rfl)) ?_)
  refine l_op wn (o_val (x_load (v := (Value.string s_5445)) Try.isAgg9 (et (v := (Value.pointer (some ⟨w.heap.size, 3, none⟩))) rfl) ((bx_5478.cell 3).trans rfl)) ?_)
  refine l_op wn (o_val (x_field (k := 0) (j := 3) Try.underlying66 rfl Try.sizeOf9 rfl (et (v := (Value.pointer (some ⟨w_5468.heap.size, 0, none⟩))) rfl)) ?_)
  refine l_op wn (o_val (x_load (v := (Value.string s_5445)) Try.isAgg9 (et (v := (Value.pointer (some ⟨w_5468.heap.size, 3, none⟩))) rfl) ((bx_5476.cell 3).trans rfl)) ?_)
  have h_5482 : s_5445 = s_5445 := rfl
  refine l_op wn (o_val (x_sneq (r := false) (et (v := (Value.string s_5445)) rfl) (et (v := (Value.string s_5445)) rfl) (dec_t h_5482)) ?_)
  refine l_nil ?_
  refine w_if_f (et (v := (Value.bool false)) rfl) ?_
  refine w_skip ?_
  refine w_seq ?_
  refine w_seq ?_
  refine w_region ?_
  refine l_op wn (o_val (x_field (k := 0) (j := 4) Try.underlying66 rfl Try.sizeOf41 rfl (et (v := (Value.pointer (some ⟨w.heap.size, 0, none⟩))) rfl)) ?_)
  refine l_op wn (o_val (x_load (v := (Value.slice A_5447 n_5448 c_5449)) Try.isAgg41 (et (v := (Value.pointer (some ⟨w.heap.size, 4, none⟩))) rfl) ((bx_5478.cell 4).trans rfl)) ?_)
  refine l_op wn (o_val (x_field (k := 0) (j := 4) Try.underlying66 rfl Try.sizeOf41 rfl (et (v := (Value.pointer (some ⟨w_5468.heap.size, 0, none⟩))) rfl)) ?_)
  refine l_op wn (o_val (x_load (v := (Value.slice A_5461 n_5462 c_5463)) Try.isAgg41 (et (v := (Value.pointer (some ⟨w_5468.heap.size, 4, none⟩))) rfl) ((bx_5476.cell 4).trans rfl)) ?_)
  refine l_op wn (o_call (x_call Try.call28 ef (a2 (et (v := (Value.slice A_5447 n_5448 c_5449)) rfl) (et (v := (Value.slice A_5461 n_5462 c_5463)) rfl))) (eq_NodeS w_5473 xs_5446 A_5447 n_5448 c_5449 _ A_5461 n_5462 c_5463 _ ok_5458 (hr_5459.below hB_5477) (hr_5466.below hB_5477)) ?_)
  rintro _ w_5483 ⟨rfl, k_5484⟩
  refine ⟨_, rfl, ?_⟩
  have hB_5485 := below_next hB_5477 k_5484 (by omega)
  have z_5486 := k_5484.size
  have bx_5487 := bx_5478.below k_5484
  have bx_5488 := bx_5476.below k_5484
  refine l_op wn (o_val (x_not (et (v := (Value.bool true)) rfl)) ?_)
  refine l_nil ?_
  refine w_if_f (et (v := (Value.bool false)) rfl) ?_
  refine w_skip ?_
  refine w_seq ?_
  refine w_region ?_
  refine l_op wn (o_val (x_assign ec) ?_)
  refine l_nil ?_
  refine w_ret ?_
  exact ⟨_, r_tmp (v := (Value.bool true)) Try.results74 rfl, rfl, hB_5485⟩

set_option maxHeartbeats 1000000 in
theorem eq_Store (w : World) (x : V) (cs : List Value) (F : List Nat) (cs' : List Value) (F' : List Nat) (ok : Ok x tStore) (hr : Rep w x cs F) (hr' : Rep w x cs' F') : Calls Try.prog 38 #[.agg cs.toArray, .agg cs'.toArray] w (Rets w (.bool true)) := by
  obtain ⟨xs_5489, A_5490, n_5491, c_5492, F_5493, xs_5495, A_5496, n_5497, c_5498, F_5499, xs_5501, A_5502, n_5503, c_5504, F_5505, i_5507, xs_5508, A_5509, n_5510, c_5511, F_5512, q_5514, i_5515, i_5516, s_5517, xs_5518, A_5519, n_5520, c_5521, F_5522, rfl, rfl, rfl, ok_5527, hr_5528, ln_5529, ok_5530, hr_5531, ln_5532, ok_5533, hr_5534, ln_5535, bd_5536, ok_5537, hr_5538, ln_5539, bd_5540, bd_5541, bd_5542, ok_5543, hr_5544, ln_5545⟩ := open_Store ok hr
  obtain ⟨A_5546, n_5547, c_5548, F_5549, A_5553, n_5554, c_5555, F_5556, A_5560, n_5561, c_5562, F_5563, A_5567, n_5568, c_5569, F_5570, A_5574, n_5575, c_5576, F_5577, rfl, hr_5551, ln_5552, hr_5558, ln_5559, hr_5565, ln_5566, hr_5572, ln_5573, hr_5579, ln_5580⟩ := cellr_Store hr'
  have hB0 := Below.refl w.heap.size w
  refine enter (N := 40) Try.func38 rfl Try.ntmps38 rfl ?_
  refine w_seq ?_
  refine w_region ?_
  refine l_op wn (o_new (x_box (cs := [(Value.slice A_5490 n_5491 c_5492), (Value.slice A_5496 n_5497 c_5498), (Value.slice A_5502 n_5503 c_5504), (Value.int .i64 i_5507), (Value.slice A_5509 n_5510 c_5511), (Value.bool q_5514), (Value.int .i64 i_5515), (Value.int .i64 i_5516), (Value.string s_5517), (Value.slice A_5519 n_5520 c_5521)]) (et (v := (Value.agg #[(Value.slice A_5490 n_5491 c_5492), (Value.slice A_5496 n_5497 c_5498), (Value.slice A_5502 n_5503 c_5504), (Value.int .i64 i_5507), (Value.slice A_5509 n_5510 c_5511), (Value.bool q_5514), (Value.int .i64 i_5515), (Value.int .i64 i_5516), (Value.string s_5517), (Value.slice A_5519 n_5520 c_5521)])) rfl)) ?_)
  intro w_5581 z_5582 k_5583 bx_5584
  have hB_5585 := below_next hB0 k_5583 (by omega)
  refine l_op wn (o_new (x_box (cs := [(Value.slice A_5546 n_5547 c_5548), (Value.slice A_5553 n_5554 c_5555), (Value.slice A_5560 n_5561 c_5562), (Value.int .i64 i_5507), (Value.slice A_5567 n_5568 c_5569), (Value.bool q_5514), (Value.int .i64 i_5515), (Value.int .i64 i_5516), (Value.string s_5517), (Value.slice A_5574 n_5575 c_5576)]) (et (v := (Value.agg #[(Value.slice A_5546 n_5547 c_5548), (Value.slice A_5553 n_5554 c_5555), (Value.slice A_5560 n_5561 c_5562), (Value.int .i64 i_5507), (Value.slice A_5567 n_5568 c_5569), (Value.bool q_5514), (Value.int .i64 i_5515), (Value.int .i64 i_5516), (Value.string s_5517), (Value.slice A_5574 n_5575 c_5576)])) rfl)) ?_)
  intro w_5586 z_5587 k_5588 bx_5589
  have hB_5590 := below_next hB_5585 k_5588 (by omega)
  have bx_5591 := bx_5584.below k_5588
  refine l_op wn (o_val (x_assign ec) ?_)
  refine l_nil ?_
  refine w_seq ?_
  refine w_seq ?_
  refine w_region ?_
  refine l_op wn (o_val (x_field (k := 0) (j := 0) Try.underlying68 rfl Try.sizeOf63 rfl (et (v := (Value.pointer (some ⟨w.heap.size, 0, none⟩))) rfl)) ?_)
  refine l_op wn (o_val (x_load (v := (Value.slice A_5490 n_5491 c_5492)) Try.isAgg63 (et (v := (Value.pointer (some ⟨w.heap.size, 0, none⟩))) rfl) ((bx_5591.cell 0).trans rfl)) ?_)
  refine l_op wn (o_val (x_field (k := 0) (j := 0) Try.underlying68 rfl Try.sizeOf63 rfl (et (v := (Value.pointer (some ⟨w_5581.heap.size, 0, none⟩))) rfl)) ?_)
  refine l_op wn (o_val (x_load (v := (Value.slice A_5546 n_5547 c_5548)) Try.isAgg63 (et (v := (Value.pointer (some ⟨w_5581.heap.size, 0, none⟩))) rfl) ((bx_5589.cell 0).trans rfl)) ?_)
  refine l_op wn (o_call (x_call Try.call72 ef (a2 (et (v := (Value.slice A_5490 n_5491 c_5492)) rfl) (et (v := (Value.slice A_5546 n_5547 c_5548)) rfl))) (eq_SchemaS w_5586 xs_5489 A_5490 n_5491 c_5492 _ A_5546 n_5547 c_5548 _ ok_5527 (hr_5528.below hB_5590) (hr_5551.below hB_5590)) ?_)
  rintro _ w_5592 ⟨rfl, k_5593⟩
  refine ⟨_, rfl, ?_⟩
  have hB_5594 := below_next hB_5590 k_5593 (by omega)
  have z_5595 := k_5593.size
  have bx_5596 := bx_5591.below k_5593
  have bx_5597 := bx_5589.below k_5593
  refine l_op wn (o_val (x_not (et (v := (Value.bool true)) rfl)) ?_)
  refine l_nil ?_
  refine w_if_f (et (v := (Value.bool false)) rfl) ?_
  refine w_skip ?_
  refine w_seq ?_
  refine w_seq ?_
  refine w_region ?_
  refine l_op wn (o_val (x_field (k := 0) (j := 1) Try.underlying68 rfl Try.sizeOf41 rfl (et (v := (Value.pointer (some ⟨w.heap.size, 0, none⟩))) rfl)) ?_)
  refine l_op wn (o_val (x_load (v := (Value.slice A_5496 n_5497 c_5498)) Try.isAgg41 (et (v := (Value.pointer (some ⟨w.heap.size, 1, none⟩))) rfl) ((bx_5596.cell 1).trans rfl)) ?_)
  refine l_op wn (o_val (x_field (k := 0) (j := 1) Try.underlying68 rfl Try.sizeOf41 rfl (et (v := (Value.pointer (some ⟨w_5581.heap.size, 0, none⟩))) rfl)) ?_)
  refine l_op wn (o_val (x_load (v := (Value.slice A_5553 n_5554 c_5555)) Try.isAgg41 (et (v := (Value.pointer (some ⟨w_5581.heap.size, 1, none⟩))) rfl) ((bx_5597.cell 1).trans rfl)) ?_)
  refine l_op wn (o_call (x_call Try.call28 ef (a2 (et (v := (Value.slice A_5496 n_5497 c_5498)) rfl) (et (v := (Value.slice A_5553 n_5554 c_5555)) rfl))) (eq_NodeS w_5592 xs_5495 A_5496 n_5497 c_5498 _ A_5553 n_5554 c_5555 _ ok_5530 (hr_5531.below hB_5594) (hr_5558.below hB_5594)) ?_)
  rintro _ w_5598 ⟨rfl, k_5599⟩
  refine ⟨_, rfl, ?_⟩
  have hB_5600 := below_next hB_5594 k_5599 (by omega)
  have z_5601 := k_5599.size
  have bx_5602 := bx_5596.below k_5599
  have bx_5603 := bx_5597.below k_5599
  refine l_op wn (o_val (x_not (et (v := (Value.bool true)) rfl)) ?_)
  refine l_nil ?_
  refine w_if_f (et (v := (Value.bool false)) rfl) ?_
  refine w_skip ?_
  refine w_seq ?_
  refine w_seq ?_
  refine w_region ?_
  refine l_op wn (o_val (x_field (k := 0) (j := 2) Try.underlying68 rfl Try.sizeOf41 rfl (et (v := (Value.pointer (some ⟨w.heap.size, 0, none⟩))) rfl)) ?_)
  refine l_op wn (o_val (x_load (v := (Value.slice A_5502 n_5503 c_5504)) Try.isAgg41 (et (v := (Value.pointer (some ⟨w.heap.size, 2, none⟩))) rfl) ((bx_5602.cell 2).trans rfl)) ?_)
  refine l_op wn (o_val (x_field (k := 0) (j := 2) Try.underlying68 rfl Try.sizeOf41 rfl (et (v := (Value.pointer (some ⟨w_5581.heap.size, 0, none⟩))) rfl)) ?_)
  refine l_op wn (o_val (x_load (v := (Value.slice A_5560 n_5561 c_5562)) Try.isAgg41 (et (v := (Value.pointer (some ⟨w_5581.heap.size, 2, none⟩))) rfl) ((bx_5603.cell 2).trans rfl)) ?_)
  refine l_op wn (o_call (x_call Try.call28 ef (a2 (et (v := (Value.slice A_5502 n_5503 c_5504)) rfl) (et (v := (Value.slice A_5560 n_5561 c_5562)) rfl))) (eq_NodeS w_5598 xs_5501 A_5502 n_5503 c_5504 _ A_5560 n_5561 c_5562 _ ok_5533 (hr_5534.below hB_5600) (hr_5565.below hB_5600)) ?_)
  rintro _ w_5604 ⟨rfl, k_5605⟩
  refine ⟨_, rfl, ?_⟩
  have hB_5606 := below_next hB_5600 k_5605 (by omega)
  have z_5607 := k_5605.size
  have bx_5608 := bx_5602.below k_5605
  have bx_5609 := bx_5603.below k_5605
  refine l_op wn (o_val (x_not (et (v := (Value.bool true)) rfl)) ?_)
  refine l_nil ?_
  refine w_if_f (et (v := (Value.bool false)) rfl) ?_
  refine w_skip ?_
  refine w_seq ?_
  refine w_seq ?_
  refine w_region ?_
  refine l_op wn (o_val (x_field (k := 0) (j := 3) Try.underlying68 rfl Try.sizeOf3 rfl (et (v := (Value.pointer (some ⟨w.heap.size, 0, none⟩))) rfl)) ?_)
  refine l_op wn (o_val (x_load (v := (Value.int .i64 i_5507)) Try.isAgg3 (et (v := (Value.pointer (some ⟨w.heap.size, 3, none⟩))) rfl) ((bx_5608.cell 3).trans rfl)) ?_)
  refine l_op wn (o_val (x_field (k := 0) (j := 3) Try.underlying68 rfl Try.sizeOf3 rfl (et (v := (Value.pointer (some ⟨w_5581.heap.size, 0, none⟩))) rfl)) ?_)
  refine l_op wn (o_val (x_load (v := (Value.int .i64 i_5507)) Try.isAgg3 (et (v := (Value.pointer (some ⟨w_5581.heap.size, 3, none⟩))) rfl) ((bx_5609.cell 3).trans rfl)) ?_)
  have h_5610 : i_5507 = i_5507 := rfl
  refine l_op wn (o_val (x_neq (r := false) (et (v := (Value.int .i64 i_5507)) rfl) (et (v := (Value.int .i64 i_5507)) rfl) (dec_t h_5610)) ?_)
  refine l_nil ?_
  refine w_if_f (et (v := (Value.bool false)) rfl) ?_
  refine w_skip ?_
  refine w_seq ?_
  refine w_seq ?_
  refine w_region ?_
  refine l_op wn (o_val (x_field (k := 0) (j := 4) Try.underlying68 rfl Try.sizeOf64 rfl (et (v := (Value.pointer (some ⟨w.heap.size, 0, none⟩))) rfl)) ?_)
  refine l_op wn (o_val (x_load (v := (Value.slice A_5509 n_5510 c_5511)) Try.isAgg64 (et (v := (Value.pointer (some ⟨w.heap.size, 4, none⟩))) rfl) ((bx_5608.cell 4).trans rfl)) ?_)
  refine l_op wn (o_val (x_field (k := 0) (j := 4) Try.underlying68 rfl Try.sizeOf64 rfl (et (v := (Value.pointer (some ⟨w_5581.heap.size, 0, none⟩))) rfl)) ?_)
  refine l_op wn (o_val (x_load (v := (Value.slice A_5567 n_5568 c_5569)) Try.isAgg64 (et (v := (Value.pointer (some ⟨w_5581.heap.size, 4, none⟩))) rfl) ((bx_5609.cell 4).trans rfl)) ?_)
  refine l_op wn (o_call (x_call Try.call73 ef (a2 (et (v := (Value.slice A_5509 n_5510 c_5511)) rfl) (et (v := (Value.slice A_5567 n_5568 c_5569)) rfl))) (eq_VersionS w_5604 xs_5508 A_5509 n_5510 c_5511 _ A_5567 n_5568 c_5569 _ ok_5537 (hr_5538.below hB_5606) (hr_5572.below hB_5606)) ?_)
  rintro _ w_5611 ⟨rfl, k_5612⟩
  refine ⟨_, rfl, ?_⟩
  have hB_5613 := below_next hB_5606 k_5612 (by omega)
  have z_5614 := k_5612.size
  have bx_5615 := bx_5608.below k_5612
  have bx_5616 := bx_5609.below k_5612
  refine l_op wn (o_val (x_not (et (v := (Value.bool true)) rfl)) ?_)
  refine l_nil ?_
  refine w_if_f (et (v := (Value.bool false)) rfl) ?_
  refine w_skip ?_
  refine w_seq ?_
  refine w_seq ?_
  refine w_region ?_
  refine l_op wn (o_val (x_field (k := 4) (j := 5) Try.underlying68 rfl Try.sizeOf66 rfl (et (v := (Value.pointer (some ⟨w.heap.size, 0, none⟩))) rfl)) ?_)
  refine l_op wn (o_val (x_loadN (cs := [(Value.bool q_5514), (Value.int .i64 i_5515), (Value.int .i64 i_5516), (Value.string s_5517), (Value.slice A_5519 n_5520 c_5521)]) Try.isAgg66 Try.sizeOf66 (et (v := (Value.pointer (some ⟨w.heap.size, 5, none⟩))) rfl) rfl (bx_5615.lies.sub 5 5)) ?_)
  refine l_op wn (o_val (x_field (k := 4) (j := 5) Try.underlying68 rfl Try.sizeOf66 rfl (et (v := (Value.pointer (some ⟨w_5581.heap.size, 0, none⟩))) rfl)) ?_)
  refine l_op wn (o_val (x_loadN (cs := [(Value.bool q_5514), (Value.int .i64 i_5515), (Value.int .i64 i_5516), (Value.string s_5517), (Value.slice A_5574 n_5575 c_5576)]) Try.isAgg66 Try.sizeOf66 (et (v := (Value.pointer (some ⟨w_5581.heap.size, 5, none⟩))) rfl) rfl (bx_5616.lies.sub 5 5)) ?_)
  have rr_5619 := (ragg (rcons (rbool (w := w_5611) (n := q_5514)) (rcons (rint (w := w_5611) (n := i_5515) bd_5540) (rcons (rint (w := w_5611) (n := i_5516) bd_5541) (rcons (rstr (w := w_5611) (n := s_5517) bd_5542) (rcons (hr_5544.below hB_5613) (rnil (w := w_5611))))))))
  have rr_5620 := (ragg (rcons (rbool (w := w_5611) (n := q_5514)) (rcons (rint (w := w_5611) (n := i_5515) bd_5540) (rcons (rint (w := w_5611) (n := i_5516) bd_5541) (rcons (rstr (w := w_5611) (n := s_5517) bd_5542) (rcons (hr_5579.below hB_5613) (rnil (w := w_5611))))))))
  refine l_op wn (o_call (x_call Try.call74 ef (a2 (et (v := (Value.agg #[(Value.bool q_5514), (Value.int .i64 i_5515), (Value.int .i64 i_5516), (Value.string s_5517), (Value.slice A_5519 n_5520 c_5521)])) rfl) (et (v := (Value.agg #[(Value.bool q_5514), (Value.int .i64 i_5515), (Value.int .i64 i_5516), (Value.string s_5517), (Value.slice A_5574 n_5575 c_5576)])) rfl))) (eq_Pending w_5611 (.agg [.bool q_5514, .int i_5515, .int i_5516, .str s_5517, .list xs_5518]) [(Value.bool q_5514), (Value.int .i64 i_5515), (Value.int .i64 i_5516), (Value.string s_5517), (Value.slice A_5519 n_5520 c_5521)] _ [(Value.bool q_5514), (Value.int .i64 i_5515), (Value.int .i64 i_5516), (Value.string s_5517), (Value.slice A_5574 n_5575 c_5576)] _ (ok_agg rfl (okz_cons (ok_bool rfl) (okz_cons (ok_int rfl) (okz_cons (ok_int rfl) (okz_cons (ok_str rfl) (okz_cons (ok_list rfl ok_5543) okz_nil)))))) rr_5619 rr_5620) ?_)
  rintro _ w_5617 ⟨rfl, k_5618⟩
  refine ⟨_, rfl, ?_⟩
  have hB_5621 := below_next hB_5613 k_5618 (by omega)
  have z_5622 := k_5618.size
  have bx_5623 := bx_5615.below k_5618
  have bx_5624 := bx_5616.below k_5618
  refine l_op wn (o_val (x_not (et (v := (Value.bool true)) rfl)) ?_)
  refine l_nil ?_
  refine w_if_f (et (v := (Value.bool false)) rfl) ?_
  refine w_skip ?_
  refine w_seq ?_
  refine w_region ?_
  refine l_op wn (o_val (x_assign ec) ?_)
  refine l_nil ?_
  refine w_ret ?_
  exact ⟨_, r_tmp (v := (Value.bool true)) Try.results38 rfl, rfl, hB_5621⟩


end Go.Proofs.Ytilohpakglpdcaa
