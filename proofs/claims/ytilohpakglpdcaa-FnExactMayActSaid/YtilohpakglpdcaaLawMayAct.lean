/-
  The walk of the law on MayAct. Printed by a program of our own.
-/
import Derived.Test.YtilohpakglpdcaaActW
import Derived.Test.YtilohpakglpdcaaSzW
import Derived.Test.YtilohpakglpdcaaToW
import Derived.Test.YtilohpakglpdcaaEqW
namespace Go.Proofs.Ytilohpakglpdcaa
open Go.RowKit
set_option linter.unusedVariables false
set_option maxRecDepth 100000

set_option maxHeartbeats 1000000 in
theorem law_MayAct (w : World) (xs : List V) (A : Option Addr) (n c : Nat) (F : List Nat) (ok : Oks xs tRule) (hr : Rep w (.list xs) [.slice A n c] F) (gs : List V) (A' : Option Addr) (n' c' : Nat) (F' : List Nat) (ok' : Oks gs tStr) (hr' : Rep w (.list gs) [.slice A' n' c'] F') (ns : List V) (A'' : Option Addr) (n'' c'' : Nat) (F'' : List Nat) (ok'' : Oks ns tStr) (hr'' : Rep w (.list ns) [.slice A'' n'' c''] F'') (act : Int) (hact : -9223372036854775808 ≤ act ∧ act ≤ 9223372036854775807) : Calls Try.prog 4 #[.slice A n c, .slice A' n' c', .slice A'' n'' c'', .int .i64 act] w (Rets w (.bool true)) := by
  have hB0 := Below.refl w.heap.size w
  refine enter (N := 67) Try.func4 rfl Try.ntmps4 rfl ?_
  refine w_seq ?_
  refine w_region ?_
  refine l_op wn (o_val (x_assign ec) ?_)
  refine l_nil ?_
  refine w_seq ?_
  refine w_region ?_
  refine l_op wn (o_val (x_assign ec) ?_)
  refine l_nil ?_
  refine w_seq ?_
  refine w_region ?_
  refine l_op wn (o_val (x_move (et (v := (Value.slice A n c)) rfl)) ?_)
  refine l_op wn (o_val (x_move (et (v := (Value.int .i64 1048576)) rfl)) ?_)
  refine l_op wn (o_call (x_call Try.call9 ef (a2 (et (v := (Value.slice A n c)) rfl) (et (v := (Value.int .i64 1048576)) rfl))) (sz_RuleS w xs A n c _ 1048576 ok (hr.below hB0) (by omega) (by omega)) ?_)
  rintro _ w_1108 ⟨r_1109, rfl, er_1110, k_1111⟩
  refine ⟨_, rfl, ?_⟩
  have sc_1112 := sz_cases er_1110
  have hB_1113 := below_next hB0 k_1111 (by omega)
  have z_1114 := k_1111.size
  refine l_op wn (o_val (x_assign (et (v := (Value.int .i64 r_1109)) rfl)) ?_)
  refine l_nil ?_
  refine w_seq ?_
  refine w_seq ?_
  refine w_region ?_
  refine l_op wn (o_val (x_move (et (v := (Value.int .i64 r_1109)) rfl)) ?_)
  by_cases h_1115 : r_1109 < 0
  · refine l_op wn (o_val (x_lss (r := true) (et (v := (Value.int .i64 r_1109)) rfl) ec (dec_t h_1115)) ?_)
    refine l_nil ?_
    refine w_if_t (et (v := (Value.bool true)) rfl) ?_
    refine w_seq ?_
    refine w_region ?_
    refine l_op wn (o_val (x_assign ec) ?_)
    refine l_nil ?_
    refine w_ret ?_
    exact ⟨_, r_tmp (v := (Value.bool true)) Try.results4 rfl, rfl, hB_1113⟩
  refine l_op wn (o_val (x_lss (r := false) (et (v := (Value.int .i64 r_1109)) rfl) ec (dec_f h_1115)) ?_)
  refine l_nil ?_
  refine w_if_f (et (v := (Value.bool false)) rfl) ?_
  refine w_skip ?_
  refine w_seq ?_
  refine w_region ?_
  refine l_op wn (o_val (x_move (et (v := (Value.slice A' n' c')) rfl)) ?_)
  refine l_op wn (o_val (x_move (et (v := (Value.int .i64 r_1109)) rfl)) ?_)
  refine l_op wn (o_call (x_call Try.call14 ef (a2 (et (v := (Value.slice A' n' c')) rfl) (et (v := (Value.int .i64 r_1109)) rfl))) (sz_StrS w_1108 gs A' n' c' _ r_1109 ok' (hr'.below hB_1113) (by omega) (by omega)) ?_)
  rintro _ w_1116 ⟨r_1117, rfl, er_1118, k_1119⟩
  refine ⟨_, rfl, ?_⟩
  have sc_1120 := sz_cases er_1118
  have hB_1121 := below_next hB_1113 k_1119 (by omega)
  have z_1122 := k_1119.size
  refine l_op wn (o_val (x_assign (et (v := (Value.int .i64 r_1117)) rfl)) ?_)
  refine l_nil ?_
  refine w_seq ?_
  refine w_seq ?_
  refine w_region ?_
  refine l_op wn (o_val (x_move (et (v := (Value.int .i64 r_1117)) rfl)) ?_)
  by_cases h_1123 : r_1117 < 0
  · refine l_op wn (o_val (x_lss (r := true) (et (v := (Value.int .i64 r_1117)) rfl) ec (dec_t h_1123)) ?_)
    refine l_nil ?_
    refine w_if_t (et (v := (Value.bool true)) rfl) ?_
    refine w_seq ?_
    refine w_region ?_
    refine l_op wn (o_val (x_assign ec) ?_)
    refine l_nil ?_
    refine w_ret ?_
    exact ⟨_, r_tmp (v := (Value.bool true)) Try.results4 rfl, rfl, hB_1121⟩
  refine l_op wn (o_val (x_lss (r := false) (et (v := (Value.int .i64 r_1117)) rfl) ec (dec_f h_1123)) ?_)
  refine l_nil ?_
  refine w_if_f (et (v := (Value.bool false)) rfl) ?_
  refine w_skip ?_
  refine w_seq ?_
  refine w_region ?_
  refine l_op wn (o_val (x_move (et (v := (Value.slice A'' n'' c'')) rfl)) ?_)
  refine l_op wn (o_val (x_move (et (v := (Value.int .i64 r_1117)) rfl)) ?_)
  refine l_op wn (o_call (x_call Try.call14 ef (a2 (et (v := (Value.slice A'' n'' c'')) rfl) (et (v := (Value.int .i64 r_1117)) rfl))) (sz_StrS w_1116 ns A'' n'' c'' _ r_1117 ok'' (hr''.below hB_1121) (by omega) (by omega)) ?_)
  rintro _ w_1124 ⟨r_1125, rfl, er_1126, k_1127⟩
  refine ⟨_, rfl, ?_⟩
  have sc_1128 := sz_cases er_1126
  have hB_1129 := below_next hB_1121 k_1127 (by omega)
  have z_1130 := k_1127.size
  refine l_op wn (o_val (x_assign (et (v := (Value.int .i64 r_1125)) rfl)) ?_)
  refine l_nil ?_
  refine w_seq ?_
  refine w_seq ?_
  refine w_region ?_
  refine l_op wn (o_val (x_move (et (v := (Value.int .i64 r_1125)) rfl)) ?_)
  by_cases h_1131 : r_1125 < 0
  · refine l_op wn (o_val (x_lss (r := true) (et (v := (Value.int .i64 r_1125)) rfl) ec (dec_t h_1131)) ?_)
    refine l_nil ?_
    refine w_if_t (et (v := (Value.bool true)) rfl) ?_
    refine w_seq ?_
    refine w_region ?_
    refine l_op wn (o_val (x_assign ec) ?_)
    refine l_nil ?_
    refine w_ret ?_
    exact ⟨_, r_tmp (v := (Value.bool true)) Try.results4 rfl, rfl, hB_1129⟩
  refine l_op wn (o_val (x_lss (r := false) (et (v := (Value.int .i64 r_1125)) rfl) ec (dec_f h_1131)) ?_)
  refine l_nil ?_
  refine w_if_f (et (v := (Value.bool false)) rfl) ?_
  refine w_skip ?_
  refine w_seq ?_
  refine w_region ?_
  refine l_op wn (o_val (x_move (et (v := (Value.slice A n c)) rfl)) ?_)
  refine l_op wn (o_call (x_call Try.call11 ef (a1 (et (v := (Value.slice A n c)) rfl))) (to_RuleS w_1124 xs A n c _ ok (hr.below hB_1129) (by omega)) ?_)
  rintro _ w_1132 ⟨c_1133, F_1134, rfl, rp_1135, sg_1136, k_1137⟩
  obtain ⟨A_1138, n_1139, c_1140, e_c_1133, ln_1141⟩ := rp_1135.list_inv
  simp only [List.cons.injEq, and_true] at e_c_1133
  subst e_c_1133
  have hB_1142 := below_next hB_1129 k_1137 (by omega)
  have z_1143 := k_1137.size
  refine ⟨_, rfl, ?_⟩
  refine l_op wn (o_val (x_move (et (v := (Value.slice A' n' c')) rfl)) ?_)
  refine l_op wn (o_call (x_call Try.call16 ef (a1 (et (v := (Value.slice A' n' c')) rfl))) (to_StrS w_1132 gs A' n' c' _ ok' (hr'.below hB_1142) (by omega)) ?_)
  rintro _ w_1145 ⟨c_1146, F_1147, rfl, rp_1148, sg_1149, k_1150⟩
  obtain ⟨A_1151, n_1152, c_1153, e_c_1146, ln_1154⟩ := rp_1148.list_inv
  simp only [List.cons.injEq, and_true] at e_c_1146
  subst e_c_1146
  have hB_1155 := below_next hB_1142 k_1150 (by omega)
  have z_1156 := k_1150.size
  have rp_1157 := rp_1135.below k_1150
  refine ⟨_, rfl, ?_⟩
  refine l_op wn (o_val (x_move (et (v := (Value.slice A'' n'' c'')) rfl)) ?_)
  refine l_op wn (o_call (x_call Try.call16 ef (a1 (et (v := (Value.slice A'' n'' c'')) rfl))) (to_StrS w_1145 ns A'' n'' c'' _ ok'' (hr''.below hB_1155) (by omega)) ?_)
  rintro _ w_1159 ⟨c_1160, F_1161, rfl, rp_1162, sg_1163, k_1164⟩
  obtain ⟨A_1165, n_1166, c_1167, e_c_1160, ln_1168⟩ := rp_1162.list_inv
  simp only [List.cons.injEq, and_true] at e_c_1160
  subst e_c_1160
  have hB_1169 := below_next hB_1155 k_1164 (by omega)
  have z_1170 := k_1164.size
  have rp_1171 := rp_1157.below k_1164
  have rp_1172 := rp_1148.below k_1164
  refine ⟨_, rfl, ?_⟩
  refine l_op wn (o_val (x_move (et (v := (Value.int .i64 act)) rfl)) ?_)
  refine l_op wn (o_call (x_call Try.call15 ef (a4 (et (v := (Value.slice A_1138 n_1139 c_1140)) rfl) (et (v := (Value.slice A_1151 n_1152 c_1153)) rfl) (et (v := (Value.slice A_1165 n_1166 c_1167)) rfl) (et (v := (Value.int .i64 act)) rfl))) (sMayAct_c w_1159 xs A_1138 n_1139 c_1140 _ ok rp_1171 gs A_1151 n_1152 c_1153 _ ok' rp_1172 ns A_1165 n_1166 c_1167 _ ok'' rp_1162 act (by omega)) ?_)
  rintro _ w_1174 ⟨r_1175, rfl, hr_1176, k_1177⟩
  refine ⟨_, rfl, ?_⟩
  have hB_1179 := below_next hB_1169 k_1177 (by omega)
  have z_1180 := k_1177.size
  have rp_1181 := rp_1171.below k_1177
  have rp_1182 := rp_1172.below k_1177
  have rp_1183 := rp_1162.below k_1177
  cases r_1175
  rotate_left
  · have h_1178 : MayP xs gs ns act := hr_1176.1 rfl
    refine l_op wn (o_val (x_assign (et (v := (Value.bool true)) rfl)) ?_)
    refine l_nil ?_
    refine w_seq ?_
    refine w_region ?_
    refine l_op wn (o_val (x_move (et (v := (Value.slice A n c)) rfl)) ?_)
    refine l_op wn (o_call (x_call Try.call11 ef (a1 (et (v := (Value.slice A n c)) rfl))) (to_RuleS w_1174 xs A n c _ ok (hr.below hB_1179) (by omega)) ?_)
    rintro _ w_1346 ⟨c_1347, F_1348, rfl, rp_1349, sg_1350, k_1351⟩
    obtain ⟨A_1352, n_1353, c_1354, e_c_1347, ln_1355⟩ := rp_1349.list_inv
    simp only [List.cons.injEq, and_true] at e_c_1347
    subst e_c_1347
    have hB_1356 := below_next hB_1179 k_1351 (by omega)
    have z_1357 := k_1351.size
    have rp_1358 := rp_1181.below k_1351
    have rp_1359 := rp_1182.below k_1351
    have rp_1360 := rp_1183.below k_1351
    refine ⟨_, rfl, ?_⟩
    refine l_op wn (o_val (x_assign (et (v := (Value.slice A_1352 n_1353 c_1354)) rfl)) ?_)
    refine l_nil ?_
    refine w_seq ?_
    refine w_region ?_
    refine l_op wn (o_val (x_move (et (v := (Value.slice A' n' c')) rfl)) ?_)
    refine l_op wn (o_call (x_call Try.call16 ef (a1 (et (v := (Value.slice A' n' c')) rfl))) (to_StrS w_1346 gs A' n' c' _ ok' (hr'.below hB_1356) (by omega)) ?_)
    rintro _ w_1362 ⟨c_1363, F_1364, rfl, rp_1365, sg_1366, k_1367⟩
    obtain ⟨A_1368, n_1369, c_1370, e_c_1363, ln_1371⟩ := rp_1365.list_inv
    simp only [List.cons.injEq, and_true] at e_c_1363
    subst e_c_1363
    have hB_1372 := below_next hB_1356 k_1367 (by omega)
    have z_1373 := k_1367.size
    have rp_1374 := rp_1358.below k_1367
    have rp_1375 := rp_1359.below k_1367
    have rp_1376 := rp_1360.below k_1367
    have rp_1377 := rp_1349.below k_1367
    refine ⟨_, rfl, ?_⟩
    refine l_op wn (o_val (x_assign (et (v := (Value.slice A_1368 n_1369 c_1370)) rfl)) ?_)
    refine l_nil ?_
    refine w_seq ?_
    refine w_region ?_
    refine l_op wn (o_val (x_move (et (v := (Value.slice A'' n'' c'')) rfl)) ?_)
    refine l_op wn (o_call (x_call Try.call16 ef (a1 (et (v := (Value.slice A'' n'' c'')) rfl))) (to_StrS w_1362 ns A'' n'' c'' _ ok'' (hr''.below hB_1372) (by omega)) ?_)
    rintro _ w_1379 ⟨c_1380, F_1381, rfl, rp_1382, sg_1383, k_1384⟩
    obtain ⟨A_1385, n_1386, c_1387, e_c_1380, ln_1388⟩ := rp_1382.list_inv
    simp only [List.cons.injEq, and_true] at e_c_1380
    subst e_c_1380
    have hB_1389 := below_next hB_1372 k_1384 (by omega)
    have z_1390 := k_1384.size
    have rp_1391 := rp_1374.below k_1384
    have rp_1392 := rp_1375.below k_1384
    have rp_1393 := rp_1376.below k_1384
    have rp_1394 := rp_1377.below k_1384
    have rp_1395 := rp_1365.below k_1384
    refine ⟨_, rfl, ?_⟩
    refine l_op wn (o_val (x_assign (et (v := (Value.slice A_1385 n_1386 c_1387)) rfl)) ?_)
    refine l_nil ?_
    refine w_seq ?_
    refine w_region ?_
    refine l_op wn (o_val (x_move (et (v := (Value.slice A_1352 n_1353 c_1354)) rfl)) ?_)
    refine l_op wn (o_val (x_move (et (v := (Value.slice A_1368 n_1369 c_1370)) rfl)) ?_)
    refine l_op wn (o_val (x_move (et (v := (Value.slice A_1385 n_1386 c_1387)) rfl)) ?_)
    refine l_op wn (o_val (x_move (et (v := (Value.int .i64 act)) rfl)) ?_)
    refine l_op wn (o_call (x_call Try.call17 ef (a4 (et (v := (Value.slice A_1352 n_1353 c_1354)) rfl) (et (v := (Value.slice A_1368 n_1369 c_1370)) rfl) (et (v := (Value.slice A_1385 n_1386 c_1387)) rfl) (et (v := (Value.int .i64 act)) rfl))) (mayAct_c w_1379 xs A_1352 n_1353 c_1354 _ ok rp_1394 gs A_1368 n_1369 c_1370 _ ok' rp_1395 ns A_1385 n_1386 c_1387 _ ok'' rp_1382 act (by omega)) ?_)
    rintro _ w_1397 ⟨r_1398, rfl, hr_1399, k_1400⟩
    refine ⟨_, rfl, ?_⟩
    have hB_1402 := below_next hB_1389 k_1400 (by omega)
    have z_1403 := k_1400.size
    have rp_1404 := rp_1391.below k_1400
    have rp_1405 := rp_1392.below k_1400
    have rp_1406 := rp_1393.below k_1400
    have rp_1407 := rp_1394.below k_1400
    have rp_1408 := rp_1395.below k_1400
    have rp_1409 := rp_1382.below k_1400
    cases r_1398
    · have h_1401 : ¬ (MayP xs gs ns act) := not_of_f hr_1399
      refine l_op wn (o_val (x_assign (et (v := (Value.bool false)) rfl)) ?_)
      refine l_nil ?_
      refine w_seq ?_
      refine w_seq ?_
      refine w_region ?_
      refine l_op wn (o_val (x_move (et (v := (Value.bool false)) rfl)) ?_)
      refine l_op wn (o_val (x_move (et (v := (Value.bool true)) rfl)) ?_)
      have h_1410 : ¬ (false = true) := by decide
      refine l_op wn (o_val (x_bneq Try.underlying4 (r := true) (et (v := (Value.bool false)) rfl) (et (v := (Value.bool true)) rfl) (dec_f h_1410)) ?_)
      refine l_nil ?_
      refine w_if_t (et (v := (Value.bool true)) rfl) ?_
      refine w_seq ?_
      refine w_region ?_
      refine l_op wn (o_val (x_assign ec) ?_)
      refine l_nil ?_
      refine w_ret ?_
      exact absurd (by assumption : MayP xs gs ns act) (by assumption)
    have h_1401 : MayP xs gs ns act := hr_1399.1 rfl
    refine l_op wn (o_val (x_assign (et (v := (Value.bool true)) rfl)) ?_)
    refine l_nil ?_
    refine w_seq ?_
    refine w_seq ?_
    refine w_region ?_
    refine l_op wn (o_val (x_move (et (v := (Value.bool true)) rfl)) ?_)
    refine l_op wn (o_val (x_move (et (v := (Value.bool true)) rfl)) ?_)
    have h_1411 : true = true := rfl
    refine l_op wn (o_val (x_bneq Try.underlying4 (r := false) (et (v := (Value.bool true)) rfl) (et (v := (Value.bool true)) rfl) (dec_t h_1411)) ?_)
    refine l_nil ?_
    refine w_if_f (et (v := (Value.bool false)) rfl) ?_
    refine w_skip ?_
    refine w_seq ?_
    refine w_seq ?_
    refine w_region ?_
    refine l_op wn (o_val (x_move (et (v := (Value.slice A_1352 n_1353 c_1354)) rfl)) ?_)
    refine l_op wn (o_val (x_move (et (v := (Value.slice A n c)) rfl)) ?_)
    refine l_op wn (o_call (x_call Try.call11 ef (a1 (et (v := (Value.slice A n c)) rfl))) (to_RuleS w_1397 xs A n c _ ok (hr.below hB_1402) (by omega)) ?_)
    rintro _ w_1412 ⟨c_1413, F_1414, rfl, rp_1415, sg_1416, k_1417⟩
    obtain ⟨A_1418, n_1419, c_1420, e_c_1413, ln_1421⟩ := rp_1415.list_inv
    simp only [List.cons.injEq, and_true] at e_c_1413
    subst e_c_1413
    have hB_1422 := below_next hB_1402 k_1417 (by omega)
    have z_1423 := k_1417.size
    have rp_1424 := rp_1404.below k_1417
    have rp_1425 := rp_1405.below k_1417
    have rp_1426 := rp_1406.below k_1417
    have rp_1427 := rp_1407.below k_1417
    have rp_1428 := rp_1408.below k_1417
    have rp_1429 := rp_1409.below k_1417
    refine ⟨_, rfl, ?_⟩
    refine l_op wn (o_call (x_call Try.call13 ef (a2 (et (v := (Value.slice A_1352 n_1353 c_1354)) rfl) (et (v := (Value.slice A_1418 n_1419 c_1420)) rfl))) (eq_RuleS w_1412 xs A_1352 n_1353 c_1354 _ A_1418 n_1419 c_1420 _ ok rp_1427 rp_1415) ?_)
    rintro _ w_1431 ⟨rfl, k_1432⟩
    refine ⟨_, rfl, ?_⟩
    have hB_1433 := below_next hB_1422 k_1432 (by omega)
    have z_1434 := k_1432.size
    have rp_1435 := rp_1424.below k_1432
    have rp_1436 := rp_1425.below k_1432
    have rp_1437 := rp_1426.below k_1432
    have rp_1438 := rp_1427.below k_1432
    have rp_1439 := rp_1428.below k_1432
    have rp_1440 := rp_1429.below k_1432
    have rp_1441 := rp_1415.below k_1432
    refine l_op wn (o_val (x_not (et (v := (Value.bool true)) rfl)) ?_)
    refine l_nil ?_
    refine w_if_f (et (v := (Value.bool false)) rfl) ?_
    refine w_skip ?_
    refine w_seq ?_
    refine w_seq ?_
    refine w_region ?_
    refine l_op wn (o_val (x_move (et (v := (Value.slice A_1368 n_1369 c_1370)) rfl)) ?_)
    refine l_op wn (o_val (x_move (et (v := (Value.slice A' n' c')) rfl)) ?_)
    refine l_op wn (o_call (x_call Try.call16 ef (a1 (et (v := (Value.slice A' n' c')) rfl))) (to_StrS w_1431 gs A' n' c' _ ok' (hr'.below hB_1433) (by omega)) ?_)
    rintro _ w_1442 ⟨c_1443, F_1444, rfl, rp_1445, sg_1446, k_1447⟩
    obtain ⟨A_1448, n_1449, c_1450, e_c_1443, ln_1451⟩ := rp_1445.list_inv
    simp only [List.cons.injEq, and_true] at e_c_1443
    subst e_c_1443
    have hB_1452 := below_next hB_1433 k_1447 (by omega)
    have z_1453 := k_1447.size
    have rp_1454 := rp_1435.below k_1447
    have rp_1455 := rp_1436.below k_1447
    have rp_1456 := rp_1437.below k_1447
    have rp_1457 := rp_1438.below k_1447
    have rp_1458 := rp_1439.below k_1447
    have rp_1459 := rp_1440.below k_1447
    have rp_1460 := rp_1441.below k_1447
    refine ⟨_, rfl, ?_⟩
    refine l_op wn (o_call (x_call Try.call18 ef (a2 (et (v := (Value.slice A_1368 n_1369 c_1370)) rfl) (et (v := (Value.slice A_1448 n_1449 c_1450)) rfl))) (eq_StrS w_1442 gs A_1368 n_1369 c_1370 _ A_1448 n_1449 c_1450 _ ok' rp_1458 rp_1445) ?_)
    rintro _ w_1462 ⟨rfl, k_1463⟩
    refine ⟨_, rfl, ?_⟩
    have hB_1464 := below_next hB_1452 k_1463 (by omega)
    have z_1465 := k_1463.size
    have rp_1466 := rp_1454.below k_1463
    have rp_1467 := rp_1455.below k_1463
    have rp_1468 := rp_1456.below k_1463
    have rp_1469 := rp_1457.below k_1463
    have rp_1470 := rp_1458.below k_1463
    have rp_1471 := rp_1459.below k_1463
    have rp_1472 := rp_1460.below k_1463
    have rp_1473 := rp_1445.below k_1463
    refine l_op wn (o_val (x_not (et (v := (Value.bool true)) rfl)) ?_)
    refine l_nil ?_
    refine w_if_f (et (v := (Value.bool false)) rfl) ?_
    refine w_skip ?_
    refine w_seq ?_
    refine w_seq ?_
    refine w_region ?_
    refine l_op wn (o_val (x_move (et (v := (Value.slice A_1385 n_1386 c_1387)) rfl)) ?_)
    refine l_op wn (o_val (x_move (et (v := (Value.slice A'' n'' c'')) rfl)) ?_)
    refine l_op wn (o_call (x_call Try.call16 ef (a1 (et (v := (Value.slice A'' n'' c'')) rfl))) (to_StrS w_1462 ns A'' n'' c'' _ ok'' (hr''.below hB_1464) (by omega)) ?_)
    rintro _ w_1474 ⟨c_1475, F_1476, rfl, rp_1477, sg_1478, k_1479⟩
    obtain ⟨A_1480, n_1481, c_1482, e_c_1475, ln_1483⟩ := rp_1477.list_inv
    simp only [List.cons.injEq, and_true] at e_c_1475
    subst e_c_1475
    have hB_1484 := below_next hB_1464 k_1479 (by omega)
    have z_1485 := k_1479.size
    have rp_1486 := rp_1466.below k_1479
    have rp_1487 := rp_1467.below k_1479
    have rp_1488 := rp_1468.below k_1479
    have rp_1489 := rp_1469.below k_1479
    have rp_1490 := rp_1470.below k_1479
    have rp_1491 := rp_1471.below k_1479
    have rp_1492 := rp_1472.below k_1479
    have rp_1493 := rp_1473.below k_1479
    refine ⟨_, rfl, ?_⟩
    refine l_op wn (o_call (x_call Try.call18 ef (a2 (et (v := (Value.slice A_1385 n_1386 c_1387)) rfl) (et (v := (Value.slice A_1480 n_1481 c_1482)) rfl))) (eq_StrS w_1474 ns A_1385 n_1386 c_1387 _ A_1480 n_1481 c_1482 _ ok'' rp_1491 rp_1477) ?_)
    rintro _ w_1495 ⟨rfl, k_1496⟩
    refine ⟨_, rfl, ?_⟩
    have hB_1497 := below_next hB_1484 k_1496 (by omega)
    have z_1498 := k_1496.size
    have rp_1499 := rp_1486.below k_1496
    have rp_1500 := rp_1487.below k_1496
    have rp_1501 := rp_1488.below k_1496
    have rp_1502 := rp_1489.below k_1496
    have rp_1503 := rp_1490.below k_1496
    have rp_1504 := rp_1491.below k_1496
    have rp_1505 := rp_1492.below k_1496
    have rp_1506 := rp_1493.below k_1496
    have rp_1507 := rp_1477.below k_1496
    refine l_op wn (o_val (x_not (et (v := (Value.bool true)) rfl)) ?_)
    refine l_nil ?_
    refine w_if_f (et (v := (Value.bool false)) rfl) ?_
    refine w_skip ?_
    refine w_seq ?_
    refine w_region ?_
    refine l_op wn (o_val (x_assign ec) ?_)
    refine l_nil ?_
    refine w_ret ?_
    exact ⟨_, r_tmp (v := (Value.bool true)) Try.results4 rfl, rfl, hB_1497⟩
  have h_1178 : ¬ (MayP xs gs ns act) := not_of_f hr_1176
  refine l_op wn (o_val (x_assign (et (v := (Value.bool false)) rfl)) ?_)
  refine l_nil ?_
  refine w_seq ?_
  refine w_region ?_
  refine l_op wn (o_val (x_move (et (v := (Value.slice A n c)) rfl)) ?_)
  refine l_op wn (o_call (x_call Try.call11 ef (a1 (et (v := (Value.slice A n c)) rfl))) (to_RuleS w_1174 xs A n c _ ok (hr.below hB_1179) (by omega)) ?_)
  rintro _ w_1184 ⟨c_1185, F_1186, rfl, rp_1187, sg_1188, k_1189⟩
  obtain ⟨A_1190, n_1191, c_1192, e_c_1185, ln_1193⟩ := rp_1187.list_inv
  simp only [List.cons.injEq, and_true] at e_c_1185
  subst e_c_1185
  have hB_1194 := below_next hB_1179 k_1189 (by omega)
  have z_1195 := k_1189.size
  have rp_1196 := rp_1181.below k_1189
  have rp_1197 := rp_1182.below k_1189
  have rp_1198 := rp_1183.below k_1189
  refine ⟨_, rfl, ?_⟩
  refine l_op wn (o_val (x_assign (et (v := (Value.slice A_1190 n_1191 c_1192)) rfl)) ?_)
  refine l_nil ?_
  refine w_seq ?_
  refine w_region ?_
  refine l_op wn (o_val (x_move (et (v := (Value.slice A' n' c')) rfl)) ?_)
  refine l_op wn (o_call (x_call Try.call16 ef (a1 (et (v := (Value.slice A' n' c')) rfl))) (to_StrS w_1184 gs A' n' c' _ ok' (hr'.below hB_1194) (by omega)) ?_)
  rintro _ w_1200 ⟨c_1201, F_1202, rfl, rp_1203, sg_1204, k_1205⟩
  obtain ⟨A_1206, n_1207, c_1208, e_c_1201, ln_1209⟩ := rp_1203.list_inv
  simp only [List.cons.injEq, and_true] at e_c_1201
  subst e_c_1201
  have hB_1210 := below_next hB_1194 k_1205 (by omega)
  have z_1211 := k_1205.size
  have rp_1212 := rp_1196.below k_1205
  have rp_1213 := rp_1197.below k_1205
  have rp_1214 := rp_1198.below k_1205
  have rp_1215 := rp_1187.below k_1205
  refine ⟨_, rfl, ?_⟩
  refine l_op wn (o_val (x_assign (et (v := (Value.slice A_1206 n_1207 c_1208)) rfl)) ?_)
  refine l_nil ?_
  refine w_seq ?_
  refine w_region ?_
  refine l_op wn (o_val (x_move (et (v := (Value.slice A'' n'' c'')) rfl)) ?_)
  refine l_op wn (o_call (x_call Try.call16 ef (a1 (et (v := (Value.slice A'' n'' c'')) rfl))) (to_StrS w_1200 ns A'' n'' c'' _ ok'' (hr''.below hB_1210) (by omega)) ?_)
  rintro _ w_1217 ⟨c_1218, F_1219, rfl, rp_1220, sg_1221, k_1222⟩
  obtain ⟨A_1223, n_1224, c_1225, e_c_1218, ln_1226⟩ := rp_1220.list_inv
  simp only [List.cons.injEq, and_true] at e_c_1218
  subst e_c_1218
  have hB_1227 := below_next hB_1210 k_1222 (by omega)
  have z_1228 := k_1222.size
  have rp_1229 := rp_1212.below k_1222
  have rp_1230 := rp_1213.below k_1222
  have rp_1231 := rp_1214.below k_1222
  have rp_1232 := rp_1215.below k_1222
  have rp_1233 := rp_1203.below k_1222
  refine ⟨_, rfl, ?_⟩
  refine l_op wn (o_val (x_assign (et (v := (Value.slice A_1223 n_1224 c_1225)) rfl)) ?_)
  refine l_nil ?_
  refine w_seq ?_
  refine w_region ?_
  refine l_op wn (o_val (x_move (et (v := (Value.slice A_1190 n_1191 c_1192)) rfl)) ?_)
  refine l_op wn (o_val (x_move (et (v := (Value.slice A_1206 n_1207 c_1208)) rfl)) ?_)
  refine l_op wn (o_val (x_move (et (v := (Value.slice A_1223 n_1224 c_1225)) rfl)) ?_)
  refine l_op wn (o_val (x_move (et (v := (Value.int .i64 act)) rfl)) ?_)
  refine l_op wn (o_call (x_call Try.call17 ef (a4 (et (v := (Value.slice A_1190 n_1191 c_1192)) rfl) (et (v := (Value.slice A_1206 n_1207 c_1208)) rfl) (et (v := (Value.slice A_1223 n_1224 c_1225)) rfl) (et (v := (Value.int .i64 act)) rfl))) (mayAct_c w_1217 xs A_1190 n_1191 c_1192 _ ok rp_1232 gs A_1206 n_1207 c_1208 _ ok' rp_1233 ns A_1223 n_1224 c_1225 _ ok'' rp_1220 act (by omega)) ?_)
  rintro _ w_1235 ⟨r_1236, rfl, hr_1237, k_1238⟩
  refine ⟨_, rfl, ?_⟩
  have hB_1240 := below_next hB_1227 k_1238 (by omega)
  have z_1241 := k_1238.size
  have rp_1242 := rp_1229.below k_1238
  have rp_1243 := rp_1230.below k_1238
  have rp_1244 := rp_1231.below k_1238
  have rp_1245 := rp_1232.below k_1238
  have rp_1246 := rp_1233.below k_1238
  have rp_1247 := rp_1220.below k_1238
  cases r_1236
  rotate_left
  · have h_1239 : MayP xs gs ns act := hr_1237.1 rfl
    refine l_op wn (o_val (x_assign (et (v := (Value.bool true)) rfl)) ?_)
    refine l_nil ?_
    refine w_seq ?_
    refine w_seq ?_
    refine w_region ?_
    refine l_op wn (o_val (x_move (et (v := (Value.bool true)) rfl)) ?_)
    refine l_op wn (o_val (x_move (et (v := (Value.bool false)) rfl)) ?_)
    have h_1345 : ¬ (true = false) := by decide
    refine l_op wn (o_val (x_bneq Try.underlying4 (r := true) (et (v := (Value.bool true)) rfl) (et (v := (Value.bool false)) rfl) (dec_f h_1345)) ?_)
    refine l_nil ?_
    refine w_if_t (et (v := (Value.bool true)) rfl) ?_
    refine w_seq ?_
    refine w_region ?_
    refine l_op wn (o_val (x_assign ec) ?_)
    refine l_nil ?_
    refine w_ret ?_
    exact absurd (by assumption : MayP xs gs ns act) (by assumption)
  have h_1239 : ¬ (MayP xs gs ns act) := not_of_f hr_1237
  refine l_op wn (o_val (x_assign (et (v := (Value.bool false)) rfl)) ?_)
  refine l_nil ?_
  refine w_seq ?_
  refine w_seq ?_
  refine w_region ?_
  refine l_op wn (o_val (x_move (et (v := (Value.bool false)) rfl)) ?_)
  refine l_op wn (o_val (x_move (et (v := (Value.bool false)) rfl)) ?_)
  have h_1248 : false = false := rfl
  refine l_op wn (o_val (x_bneq Try.underlying4 (r := false) (et (v := (Value.bool false)) rfl) (et (v := (Value.bool false)) rfl) (dec_t h_1248)) ?_)
  refine l_nil ?_
  refine w_if_f (et (v := (Value.bool false)) rfl) ?_
  refine w_skip ?_
  refine w_seq ?_
  refine w_seq ?_
  refine w_region ?_
  refine l_op wn (o_val (x_move (et (v := (Value.slice A_1190 n_1191 c_1192)) rfl)) ?_)
  refine l_op wn (o_val (x_move (et (v := (Value.slice A n c)) rfl)) ?_)
  refine l_op wn (o_call (x_call Try.call11 ef (a1 (et (v := (Value.slice A n c)) rfl))) (to_RuleS w_1235 xs A n c _ ok (hr.below hB_1240) (by omega)) ?_)
  rintro _ w_1249 ⟨c_1250, F_1251, rfl, rp_1252, sg_1253, k_1254⟩
  obtain ⟨A_1255, n_1256, c_1257, e_c_1250, ln_1258⟩ := rp_1252.list_inv
  simp only [List.cons.injEq, and_true] at e_c_1250
  subst e_c_1250
  have hB_1259 := below_next hB_1240 k_1254 (by omega)
  have z_1260 := k_1254.size
  have rp_1261 := rp_1242.below k_1254
  have rp_1262 := rp_1243.below k_1254
  have rp_1263 := rp_1244.below k_1254
  have rp_1264 := rp_1245.below k_1254
  have rp_1265 := rp_1246.below k_1254
  have rp_1266 := rp_1247.below k_1254
  refine ⟨_, rfl, ?_⟩
  refine l_op wn (o_call (x_call Try.call13 ef (a2 (et (v := (Value.slice A_1190 n_1191 c_1192)) rfl) (et (v := (Value.slice A_1255 n_1256 c_1257)) rfl))) (eq_RuleS w_1249 xs A_1190 n_1191 c_1192 _ A_1255 n_1256 c_1257 _ ok rp_1264 rp_1252) ?_)
  rintro _ w_1268 ⟨rfl, k_1269⟩
  refine ⟨_, rfl, ?_⟩
  have hB_1270 := below_next hB_1259 k_1269 (by omega)
  have z_1271 := k_1269.size
  have rp_1272 := rp_1261.below k_1269
  have rp_1273 := rp_1262.below k_1269
  have rp_1274 := rp_1263.below k_1269
  have rp_1275 := rp_1264.below k_1269
  have rp_1276 := rp_1265.below k_1269
  have rp_1277 := rp_1266.below k_1269
  have rp_1278 := rp_1252.below k_1269
  refine l_op wn (o_val (x_not (et (v := (Value.bool true)) rfl)) ?_)
  refine l_nil ?_
  refine w_if_f (et (v := (Value.bool false)) rfl) ?_
  refine w_skip ?_
  refine w_seq ?_
  refine w_seq ?_
  refine w_region ?_
  refine l_op wn (o_val (x_move (et (v := (Value.slice A_1206 n_1207 c_1208)) rfl)) ?_)
  refine l_op wn (o_val (x_move (et (v := (Value.slice A' n' c')) rfl)) ?_)
  refine l_op wn (o_call (x_call Try.call16 ef (a1 (et (v := (Value.slice A' n' c')) rfl))) (to_StrS w_1268 gs A' n' c' _ ok' (hr'.below hB_1270) (by omega)) ?_)
  rintro _ w_1279 ⟨c_1280, F_1281, rfl, rp_1282, sg_1283, k_1284⟩
  obtain ⟨A_1285, n_1286, c_1287, e_c_1280, ln_1288⟩ := rp_1282.list_inv
  simp only [List.cons.injEq, and_true] at e_c_1280
  subst e_c_1280
  have hB_1289 := below_next hB_1270 k_1284 (by omega)
  have z_1290 := k_1284.size
  have rp_1291 := rp_1272.below k_1284
  have rp_1292 := rp_1273.below k_1284
  have rp_1293 := rp_1274.below k_1284
  have rp_1294 := rp_1275.below k_1284
  have rp_1295 := rp_1276.below k_1284
  have rp_1296 := rp_1277.below k_1284
  have rp_1297 := rp_1278.below k_1284
  refine ⟨_, rfl, ?_⟩
  refine l_op wn (o_call (x_call Try.call18 ef (a2 (et (v := (Value.slice A_1206 n_1207 c_1208)) rfl) (et (v := (Value.slice A_1285 n_1286 c_1287)) rfl))) (eq_StrS w_1279 gs A_1206 n_1207 c_1208 _ A_1285 n_1286 c_1287 _ ok' rp_1295 rp_1282) ?_)
  rintro _ w_1299 ⟨rfl, k_1300⟩
  refine ⟨_, rfl, ?_⟩
  have hB_1301 := below_next hB_1289 k_1300 (by omega)
  have z_1302 := k_1300.size
  have rp_1303 := rp_1291.below k_1300
  have rp_1304 := rp_1292.below k_1300
  have rp_1305 := rp_1293.below k_1300
  have rp_1306 := rp_1294.below k_1300
  have rp_1307 := rp_1295.below k_1300
  have rp_1308 := rp_1296.below k_1300
  have rp_1309 := rp_1297.below k_1300
  have rp_1310 := rp_1282.below k_1300
  refine l_op wn (o_val (x_not (et (v := (Value.bool true)) rfl)) ?_)
  refine l_nil ?_
  refine w_if_f (et (v := (Value.bool false)) rfl) ?_
  refine w_skip ?_
  refine w_seq ?_
  refine w_seq ?_
  refine w_region ?_
  refine l_op wn (o_val (x_move (et (v := (Value.slice A_1223 n_1224 c_1225)) rfl)) ?_)
  refine l_op wn (o_val (x_move (et (v := (Value.slice A'' n'' c'')) rfl)) ?_)
  refine l_op wn (o_call (x_call Try.call16 ef (a1 (et (v := (Value.slice A'' n'' c'')) rfl))) (to_StrS w_1299 ns A'' n'' c'' _ ok'' (hr''.below hB_1301) (by omega)) ?_)
  rintro _ w_1311 ⟨c_1312, F_1313, rfl, rp_1314, sg_1315, k_1316⟩
  obtain ⟨A_1317, n_1318, c_1319, e_c_1312, ln_1320⟩ := rp_1314.list_inv
  simp only [List.cons.injEq, and_true] at e_c_1312
  subst e_c_1312
  have hB_1321 := below_next hB_1301 k_1316 (by omega)
  have z_1322 := k_1316.size
  have rp_1323 := rp_1303.below k_1316
  have rp_1324 := rp_1304.below k_1316
  have rp_1325 := rp_1305.below k_1316
  have rp_1326 := rp_1306.below k_1316
  have rp_1327 := rp_1307.below k_1316
  have rp_1328 := rp_1308.below k_1316
  have rp_1329 := rp_1309.below k_1316
  have rp_1330 := rp_1310.below k_1316
  refine ⟨_, rfl, ?_⟩
  refine l_op wn (o_call (x_call Try.call18 ef (a2 (et (v := (Value.slice A_1223 n_1224 c_1225)) rfl) (et (v := (Value.slice A_1317 n_1318 c_1319)) rfl))) (eq_StrS w_1311 ns A_1223 n_1224 c_1225 _ A_1317 n_1318 c_1319 _ ok'' rp_1328 rp_1314) ?_)
  rintro _ w_1332 ⟨rfl, k_1333⟩
  refine ⟨_, rfl, ?_⟩
  have hB_1334 := below_next hB_1321 k_1333 (by omega)
  have z_1335 := k_1333.size
  have rp_1336 := rp_1323.below k_1333
  have rp_1337 := rp_1324.below k_1333
  have rp_1338 := rp_1325.below k_1333
  have rp_1339 := rp_1326.below k_1333
  have rp_1340 := rp_1327.below k_1333
  have rp_1341 := rp_1328.below k_1333
  have rp_1342 := rp_1329.below k_1333
  have rp_1343 := rp_1330.below k_1333
  have rp_1344 := rp_1314.below k_1333
  refine l_op wn (o_val (x_not (et (v := (Value.bool true)) rfl)) ?_)
  refine l_nil ?_
  refine w_if_f (et (v := (Value.bool false)) rfl) ?_
  refine w_skip ?_
  refine w_seq ?_
  refine w_region ?_
  refine l_op wn (o_val (x_assign ec) ?_)
  refine l_nil ?_
  refine w_ret ?_
  exact ⟨_, r_tmp (v := (Value.bool true)) Try.results4 rfl, rfl, hB_1334⟩


end Go.Proofs.Ytilohpakglpdcaa
