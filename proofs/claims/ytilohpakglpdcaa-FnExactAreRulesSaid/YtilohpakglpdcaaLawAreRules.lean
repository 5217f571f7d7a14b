/-
  The walk of the law on AreRules. Printed by a program of our own.
-/
import Derived.Test.YtilohpakglpdcaaRuleW
import Derived.Test.YtilohpakglpdcaaSzW
import Derived.Test.YtilohpakglpdcaaToW
import Derived.Test.YtilohpakglpdcaaEqW
namespace Go.Proofs.Ytilohpakglpdcaa
open Go.RowKit
set_option linter.unusedVariables false
set_option maxRecDepth 100000

set_option maxHeartbeats 1000000 in
theorem law_AreRules (w : World) (xs : List V) (A : Option Addr) (n c : Nat) (F : List Nat) (ok : Oks xs tRule) (hr : Rep w (.list xs) [.slice A n c] F) : Calls Try.prog 3 #[.slice A n c] w (Rets w (.bool true)) := by
  have hB0 := Below.refl w.heap.size w
  refine enter (N := 27) Try.func3 rfl Try.ntmps3 rfl ?_
  refine w_seq ?_
  refine w_region ?_
  refine l_op wn (o_val (x_assign ec) ?_)
  refine l_nil ?_
  refine w_seq ?_
  refine w_region ?_
  refine l_op wn (o_val (x_assign ec) ?_)
  refine l_nil ?_
  refine w_seq ?_
  refine w_region ?_
  refine l_op wn (o_val (x_move (et (v := (Value.slice A n c)) rfl)) ?_)
  refine l_op wn (o_val (x_move (et (v := (Value.int .i64 1048576)) rfl)) ?_)
  refine l_op wn (o_call (x_call Try.call9 ef (a2 (et (v := (Value.slice A n c)) rfl) (et (v := (Value.int .i64 1048576)) rfl))) (sz_RuleS w xs A n c _ 1048576 ok (hr.below hB0) (by omega) (by omega)) ?_)
  rintro _ w_301 ⟨r_302, rfl, er_303, k_304⟩
  refine ⟨_, rfl, ?_⟩
  have sc_305 := sz_cases er_303
  have hB_306 := below_next hB0 k_304 (by omega)
  have z_307 := k_304.size
  refine l_op wn (o_val (x_assign (et (v := (Value.int .i64 r_302)) rfl)) ?_)
  refine l_nil ?_
  refine w_seq ?_
  refine w_seq ?_
  refine w_region ?_
  refine l_op wn (o_val (x_move (et (v := (Value.int .i64 r_302)) rfl)) ?_)
  by_cases h_308 : r_302 < 0
  · refine l_op wn (o_val (x_lss (r := true) (et (v := (Value.int .i64 r_302)) rfl) ec (dec_t h_308)) ?_)
    refine l_nil ?_
    refine w_if_t (et (v := (Value.bool true)) rfl) ?_
    refine w_seq ?_
    refine w_region ?_
    refine l_op wn (o_val (x_assign ec) ?_)
    refine l_nil ?_
    refine w_ret ?_
    exact ⟨_, r_tmp (v := (Value.bool true)) Try.results3 rfl, rfl, hB_306⟩
  refine l_op wn (o_val (x_lss (r := false) (et (v := (Value.int .i64 r_302)) rfl) ec (dec_f h_308)) ?_)
  refine l_nil ?_
  refine w_if_f (et (v := (Value.bool false)) rfl) ?_
  refine w_skip ?_
  refine w_seq ?_
  refine w_region ?_
  refine l_op wn (o_val (x_move (et (v := (Value.slice A n c)) rfl)) ?_)
  refine l_op wn (o_call (x_call Try.call11 ef (a1 (et (v := (Value.slice A n c)) rfl))) (to_RuleS w_301 xs A n c _ ok (hr.below hB_306) (by omega)) ?_)
  rintro _ w_309 ⟨c_310, F_311, rfl, rp_312, sg_313, k_314⟩
  obtain ⟨A_315, n_316, c_317, e_c_310, ln_318⟩ := rp_312.list_inv
  simp only [List.cons.injEq, and_true] at e_c_310
  subst e_c_310
  have hB_319 := below_next hB_306 k_314 (by omega)
  have z_320 := k_314.size
  refine ⟨_, rfl, ?_⟩
  refine l_op wn (o_call (x_call Try.call10 ef (a1 (et (v := (Value.slice A_315 n_316 c_317)) rfl))) (sAreRules_c w_309 xs A_315 n_316 c_317 _ ok rp_312) ?_)
  rintro _ w_322 ⟨r_323, rfl, hr_324, k_325⟩
  refine ⟨_, rfl, ?_⟩
  have hB_327 := below_next hB_319 k_325 (by omega)
  have z_328 := k_325.size
  have rp_329 := rp_312.below k_325
  cases r_323
  rotate_left
  · have h_326 : RulesP xs := hr_324.1 rfl
    refine l_op wn (o_val (x_assign (et (v := (Value.bool true)) rfl)) ?_)
    refine l_nil ?_
    refine w_seq ?_
    refine w_region ?_
    refine l_op wn (o_val (x_move (et (v := (Value.slice A n c)) rfl)) ?_)
    refine l_op wn (o_call (x_call Try.call11 ef (a1 (et (v := (Value.slice A n c)) rfl))) (to_RuleS w_322 xs A n c _ ok (hr.below hB_327) (by omega)) ?_)
    rintro _ w_377 ⟨c_378, F_379, rfl, rp_380, sg_381, k_382⟩
    obtain ⟨A_383, n_384, c_385, e_c_378, ln_386⟩ := rp_380.list_inv
    simp only [List.cons.injEq, and_true] at e_c_378
    subst e_c_378
    have hB_387 := below_next hB_327 k_382 (by omega)
    have z_388 := k_382.size
    have rp_389 := rp_329.below k_382
    refine ⟨_, rfl, ?_⟩
    refine l_op wn (o_val (x_assign (et (v := (Value.slice A_383 n_384 c_385)) rfl)) ?_)
    refine l_nil ?_
    refine w_seq ?_
    refine w_region ?_
    refine l_op wn (o_val (x_move (et (v := (Value.slice A_383 n_384 c_385)) rfl)) ?_)
    refine l_op wn (o_call (x_call Try.call12 ef (a1 (et (v := (Value.slice A_383 n_384 c_385)) rfl))) (areRules_c w_377 xs A_383 n_384 c_385 _ ok rp_380) ?_)
    rintro _ w_391 ⟨r_392, rfl, hr_393, k_394⟩
    refine ⟨_, rfl, ?_⟩
    have hB_396 := below_next hB_387 k_394 (by omega)
    have z_397 := k_394.size
    have rp_398 := rp_389.below k_394
    have rp_399 := rp_380.below k_394
    cases r_392
    · have h_395 : ¬ (RulesP xs) := not_of_f hr_393
      refine l_op wn (o_val (x_assign (et (v := (Value.bool false)) rfl)) ?_)
      refine l_nil ?_
      refine w_seq ?_
      refine w_seq ?_
      refine w_region ?_
      refine l_op wn (o_val (x_move (et (v := (Value.bool false)) rfl)) ?_)
      refine l_op wn (o_val (x_move (et (v := (Value.bool true)) rfl)) ?_)
      have h_400 : ¬ (false = true) := by decide
      refine l_op wn (o_val (x_bneq Try.underlying4 (r := true) (et (v := (Value.bool false)) rfl) (et (v := (Value.bool true)) rfl) (dec_f h_400)) ?_)
      refine l_nil ?_
      refine w_if_t (et (v := (Value.bool true)) rfl) ?_
      refine w_seq ?_
      refine w_region ?_
      refine l_op wn (o_val (x_assign ec) ?_)
      refine l_nil ?_
      refine w_ret ?_
      exact absurd (by assumption : RulesP xs) (by assumption)
    have h_395 : RulesP xs := hr_393.1 rfl
    refine l_op wn (o_val (x_assign (et (v := (Value.bool true)) rfl)) ?_)
    refine l_nil ?_
    refine w_seq ?_
    refine w_seq ?_
    refine w_region ?_
    refine l_op wn (o_val (x_move (et (v := (Value.bool true)) rfl)) ?_)
    refine l_op wn (o_val (x_move (et (v := (Value.bool true)) rfl)) ?_)
    have h_401 : true = true := rfl
    refine l_op wn (o_val (x_bneq Try.underlying4 (r := false) (et (v := (Value.bool true)) rfl) (et (v := (Value.bool true)) rfl) (dec_t h_401)) ?_)
    refine l_nil ?_
    refine w_if_f (et (v := (Value.bool false)) rfl) ?_
    refine w_skip ?_
    refine w_seq ?_
    refine w_seq ?_
    refine w_region ?_
    refine l_op wn (o_val (x_move (et (v := (Value.slice A_383 n_384 c_385)) rfl)) ?_)
    refine l_op wn (o_val (x_move (et (v := (Value.slice A n c)) rfl)) ?_)
    refine l_op wn (o_call (x_call Try.call11 ef (a1 (et (v := (Value.slice A n c)) rfl))) (to_RuleS w_391 xs A n c _ ok (hr.below hB_396) (by omega)) ?_)
    rintro _ w_402 ⟨c_403, F_404, rfl, rp_405, sg_406, k_407⟩
    obtain ⟨A_408, n_409, c_410, e_c_403, ln_411⟩ := rp_405.list_inv
    simp only [List.cons.injEq, and_true] at e_c_403
    subst e_c_403
    have hB_412 := below_next hB_396 k_407 (by omega)
    have z_413 := k_407.size
    have rp_414 := rp_398.below k_407
    have rp_415 := rp_399.below k_407
    refine ⟨_, rfl, ?_⟩
    refine l_op wn (o_call (x_call Try.call13 ef (a2 (et (v := (Value.slice A_383 n_384 c_385)) rfl) (et (v := (Value.slice A_408 n_409 c_410)) rfl))) (eq_RuleS w_402 xs A_383 n_384 c_385 _ A_408 n_409 c_410 _ ok rp_415 rp_405) ?_)
    rintro _ w_417 ⟨rfl, k_418⟩
    refine ⟨_, rfl, ?_⟩
    have hB_419 := below_next hB_412 k_418 (by omega)
    have z_420 := k_418.size
    have rp_421 := rp_414.below k_418
    have rp_422 := rp_415.below k_418
    have rp_423 := rp_405.below k_418
    refine l_op wn (o_val (x_not (et (v := (Value.bool true)) rfl)) ?_)
    refine l_nil ?_
    refine w_if_f (et (v := (Value.bool false)) rfl) ?_
    refine w_skip ?_
    refine w_seq ?_
    refine w_region ?_
    refine l_op wn (o_val (x_assign ec) ?_)
    refine l_nil ?_
    refine w_ret ?_
    exact ⟨_, r_tmp (v := (Value.bool true)) Try.results3 rfl, rfl, hB_419⟩
  have h_326 : ¬ (RulesP xs) := not_of_f hr_324
  refine l_op wn (o_val (x_assign (et (v := (Value.bool false)) rfl)) ?_)
  refine l_nil ?_
  refine w_seq ?_
  refine w_region ?_
  refine l_op wn (o_val (x_move (et (v := (Value.slice A n c)) rfl)) ?_)
  refine l_op wn (o_call (x_call Try.call11 ef (a1 (et (v := (Value.slice A n c)) rfl))) (to_RuleS w_322 xs A n c _ ok (hr.below hB_327) (by omega)) ?_)
  rintro _ w_330 ⟨c_331, F_332, rfl, rp_333, sg_334, k_335⟩
  obtain ⟨A_336, n_337, c_338, e_c_331, ln_339⟩ := rp_333.list_inv
  simp only [List.cons.injEq, and_true] at e_c_331
  subst e_c_331
  have hB_340 := below_next hB_327 k_335 (by omega)
  have z_341 := k_335.size
  have rp_342 := rp_329.below k_335
  refine ⟨_, rfl, ?_⟩
  refine l_op wn (o_val (x_assign (et (v := (Value.slice A_336 n_337 c_338)) rfl)) ?_)
  refine l_nil ?_
  refine w_seq ?_
  refine w_region ?_
  refine l_op wn (o_val (x_move (et (v := (Value.slice A_336 n_337 c_338)) rfl)) ?_)
  refine l_op wn (o_call (x_call Try.call12 ef (a1 (et (v := (Value.slice A_336 n_337 c_338)) rfl))) (areRules_c w_330 xs A_336 n_337 c_338 _ ok rp_333) ?_)
  rintro _ w_344 ⟨r_345, rfl, hr_346, k_347⟩
  refine ⟨_, rfl, ?_⟩
  have hB_349 := below_next hB_340 k_347 (by omega)
  have z_350 := k_347.size
  have rp_351 := rp_342.below k_347
  have rp_352 := rp_333.below k_347
  cases r_345
  rotate_left
  · have h_348 : RulesP xs := hr_346.1 rfl
    refine l_op wn (o_val (x_assign (et (v := (Value.bool true)) rfl)) ?_)
    refine l_nil ?_
    refine w_seq ?_
    refine w_seq ?_
    refine w_region ?_
    refine l_op wn (o_val (x_move (et (v := (Value.bool true)) rfl)) ?_)
    refine l_op wn (o_val (x_move (et (v := (Value.bool false)) rfl)) ?_)
    have h_376 : ¬ (true = false) := by decide
    refine l_op wn (o_val (x_bneq Try.underlying4 (r := true) (et (v := (Value.bool true)) rfl) (et (v := (Value.bool false)) rfl) (dec_f h_376)) ?_)
    refine l_nil ?_
    refine w_if_t (et (v := (Value.bool true)) rfl) ?_
    refine w_seq ?_
    refine w_region ?_
    refine l_op wn (o_val (x_assign ec) ?_)
    refine l_nil ?_
    refine w_ret ?_
    exact absurd (by assumption : RulesP xs) (by assumption)
  have h_348 : ¬ (RulesP xs) := not_of_f hr_346
  refine l_op wn (o_val (x_assign (et (v := (Value.bool false)) rfl)) ?_)
  refine l_nil ?_
  refine w_seq ?_
  refine w_seq ?_
  refine w_region ?_
  refine l_op wn (o_val (x_move (et (v := (Value.bool false)) rfl)) ?_)
  refine l_op wn (o_val (x_move (et (v := (Value.bool false)) rfl)) ?_)
  have h_353 : false = false := rfl
  refine l_op wn (o_val (x_bneq Try.underlying4 (r := false) (et (v := (Value.bool false)) rfl) (et (v := (Value.bool false)) rfl) (dec_t h_353)) ?_)
  refine l_nil ?_
  refine w_if_f (et (v := (Value.bool false)) rfl) ?_
  refine w_skip ?_
  refine w_seq ?_
  refine w_seq ?_
  refine w_region ?_
  refine l_op wn (o_val (x_move (et (v := (Value.slice A_336 n_337 c_338)) rfl)) ?_)
  refine l_op wn (o_val (x_move (et (v := (Value.slice A n c)) rfl)) ?_)
  refine l_op wn (o_call (x_call Try.call11 ef (a1 (et (v := (Value.slice A n c)) rfl))) (to_RuleS w_344 xs A n c _ ok (hr.below hB_349) (by omega)) ?_)
  rintro _ w_354 ⟨c_355, F_356, rfl, rp_357, sg_358, k_359⟩
  obtain ⟨A_360, n_361, c_362, e_c_355, ln_363⟩ := rp_357.list_inv
  simp only [List.cons.injEq, and_true] at e_c_355
  subst e_c_355
  have hB_364 := below_next hB_349 k_359 (by omega)
  have z_365 := k_359.size
  have rp_366 := rp_351.below k_359
  have rp_367 := rp_352.below k_359
  refine ⟨_, rfl, ?_⟩
  refine l_op wn (o_call (x_call Try.call13 ef (a2 (et (v := (Value.slice A_336 n_337 c_338)) rfl) (et (v := (Value.slice A_360 n_361 c_362)) rfl))) (eq_RuleS w_354 xs A_336 n_337 c_338 _ A_360 n_361 c_362 _ ok rp_367 rp_357) ?_)
  rintro _ w_369 ⟨rfl, k_370⟩
  refine ⟨_, rfl, ?_⟩
  have hB_371 := below_next hB_364 k_370 (by omega)
  have z_372 := k_370.size
  have rp_373 := rp_366.below k_370
  have rp_374 := rp_367.below k_370
  have rp_375 := rp_357.below k_370
  refine l_op wn (o_val (x_not (et (v := (Value.bool true)) rfl)) ?_)
  refine l_nil ?_
  refine w_if_f (et (v := (Value.bool false)) rfl) ?_
  refine w_skip ?_
  refine w_seq ?_
  refine w_region ?_
  refine l_op wn (o_val (x_assign ec) ?_)
  refine l_nil ?_
  refine w_ret ?_
  exact ⟨_, r_tmp (v := (Value.bool true)) Try.results3 rfl, rfl, hB_371⟩


end Go.Proofs.Ytilohpakglpdcaa
