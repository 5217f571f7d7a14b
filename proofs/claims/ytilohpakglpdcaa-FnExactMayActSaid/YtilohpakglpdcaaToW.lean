/-
  The laws turn their own data into the program's. Printed by a program of our own.
-/
import Derived.Test.YtilohpakglpdcaaSz
import Derived.Test.YtilohpakglpdcaaProg
namespace Go.Proofs.Ytilohpakglpdcaa
open Go.RowKit
set_option linter.unusedVariables false
set_option maxRecDepth 100000

theorem info9 : (Try.prog.info? 9).map (fun i => (i.zero, i.size, i.bytes)) = some (some (Value.string (⟨#[]⟩)), 1, 16) := by kernel_rfl
theorem info75 : (Try.prog.info? 75).map (fun i => (i.zero, i.size, i.bytes)) = some (some (Value.agg #[(Value.string (⟨#[]⟩)), (Value.slice none 0 0), (Value.int .i64 0), (Value.bool false)]), 4, 56) := by kernel_rfl
theorem info85 : (Try.prog.info? 85).map (fun i => (i.zero, i.size, i.bytes)) = some (some (Value.agg #[(Value.int .i64 0), (Value.int .i64 0), (Value.slice none 0 0)]), 3, 40) := by kernel_rfl
theorem info93 : (Try.prog.info? 93).map (fun i => (i.zero, i.size, i.bytes)) = some (some (Value.agg #[(Value.string (⟨#[]⟩)), (Value.string (⟨#[]⟩)), (Value.slice none 0 0)]), 3, 56) := by kernel_rfl
theorem info135 : (Try.prog.info? 135).map (fun i => (i.zero, i.size, i.bytes)) = some (some (Value.agg #[(Value.int .i64 0), (Value.string (⟨#[]⟩)), (Value.int .i64 0), (Value.slice none 0 0), (Value.slice none 0 0), (Value.string (⟨#[]⟩)), (Value.string (⟨#[]⟩)), (Value.slice none 0 0), (Value.slice none 0 0), (Value.string (⟨#[]⟩)), (Value.bool false), (Value.bool false), (Value.bool false), (Value.bool false), (Value.int .i64 0), (Value.int .i64 0), (Value.slice none 0 0), (Value.slice none 0 0), (Value.slice none 0 0)]), 19, 272) := by kernel_rfl
theorem info138 : (Try.prog.info? 138).map (fun i => (i.zero, i.size, i.bytes)) = some (some (Value.agg #[(Value.slice none 0 0), (Value.int .i64 0), (Value.int .i64 0)]), 3, 40) := by kernel_rfl
theorem info146 : (Try.prog.info? 146).map (fun i => (i.zero, i.size, i.bytes)) = some (some (Value.agg #[(Value.int .i64 0), (Value.string (⟨#[]⟩)), (Value.string (⟨#[]⟩)), (Value.slice none 0 0)]), 4, 64) := by kernel_rfl
theorem info170 : (Try.prog.info? 170).map (fun i => (i.zero, i.size, i.bytes)) = some (some (Value.agg #[(Value.int .i64 0), (Value.int .i64 0), (Value.string (⟨#[]⟩)), (Value.bool false), (Value.int .i64 0), (Value.slice none 0 0), (Value.slice none 0 0)]), 7, 96) := by kernel_rfl
theorem info176 : (Try.prog.info? 176).map (fun i => (i.zero, i.size, i.bytes)) = some (some (Value.agg #[(Value.int .i64 0), (Value.int .i64 0)]), 2, 16) := by kernel_rfl
theorem info191 : (Try.prog.info? 191).map (fun i => (i.zero, i.size, i.bytes)) = some (some (Value.agg #[(Value.string (⟨#[]⟩)), (Value.slice none 0 0)]), 2, 40) := by kernel_rfl
theorem info200 : (Try.prog.info? 200).map (fun i => (i.zero, i.size, i.bytes)) = some (some (Value.agg #[(Value.string (⟨#[]⟩)), (Value.string (⟨#[]⟩))]), 2, 32) := by kernel_rfl

set_option maxHeartbeats 200000 in
theorem to_StrS (w : World) (xs : List V) (A : Option Addr) (n c : Nat) (F : List Nat) (ok : Oks xs tStr) (hr : Rep w (.list xs) [.slice A n c] F) (hb : V.bulk (.list xs) ≤ 1048576) : Calls Try.prog 16 #[.slice A n c] w (Ret1 w (.list xs)) := by
  have hB0 := Below.refl w.heap.size w
  obtain ⟨ln, lc, lm⟩ := hr.len
  have hn20 : n ≤ 1048576 := by have := bulk_list xs; omega
  refine enter (N := 22) Try.func16 rfl Try.ntmps16 rfl ?_
  refine w_seq ?_
  refine w_region ?_
  refine l_op wn (o_val (x_assign ec) ?_)
  refine l_nil ?_
  refine w_seq ?_
  refine w_region ?_
  refine l_op wn (o_val (x_move (et (v := (Value.slice A n c)) rfl)) ?_)
  refine l_op wn (o_val (x_len Try.underlying29 (et (v := (Value.slice A n c)) rfl)) ?_)
  refine l_op wn (o_make Try.underlying29 info9 (et (v := (Value.int .i64 (n : Int))) rfl) (by omega) (by omega) ?_)
  intro w_1210 cs_1211 z_1212 k_1213 bx_1214 ln_1215
  have hB_1216 := below_next hB0 k_1213 (by omega)
  refine l_op wn (o_val (x_assign (et (v := (Value.slice (some ⟨w.heap.size, 0, none⟩) n n)) rfl)) ?_)
  refine l_nil ?_
  refine w_seq ?_
  refine w_seq ?_
  refine w_region ?_
  refine l_op wn (o_val (x_assign ec) ?_)
  refine l_nil ?_
  refine w_block ?_
  refine w_loop (fun μ f w' => ∃ (i : Nat), ∃ (ds : List Value), ∃ (G : List Nat), f 0 = (Value.slice A n c) ∧ f 3 = (Value.slice (some ⟨w.heap.size, 0, none⟩) n n) ∧ f 4 = (Value.int .i64 (i : Int)) ∧ Below w.heap.size w w' ∧ (i ≤ n) ∧ (Blk w' w.heap.size 9 ds) ∧ (ds.length = n * 1) ∧ (RepFs w' (xs.take i) (ds.take (i * 1)) G) ∧ (Seg G (w.heap.size + 1) (w').heap.size) ∧ μ = n - i) (n - 0) ?_ ?_
  · exact ⟨0, cs_1211, [], rfl, rfl, vint (a := 0) (by omega), hB_1216, (by omega), (bx_1214), (ln_1215), (by simp [RepFs]), (seg_nil (by omega)), rfl⟩
  rintro m_1219 f_1217 w_1218 ⟨i, ds, G, hs_1221, hs_1222, hs_1223, hB_1220, hi, hrow, hdl, hfs, hsg, rfl⟩
  have z_1224 := hB_1220.size
  have zrow := hrow.lt
  refine w_seq ?_
  refine w_seq ?_
  refine w_region ?_
  refine l_op wn (o_val (x_move (et (v := (Value.int .i64 (i : Int))) hs_1223)) ?_)
  refine l_op wn (o_val (x_move (et (v := (Value.slice A n c)) hs_1221)) ?_)
  refine l_op wn (o_val (x_len Try.underlying29 (et (v := (Value.slice A n c)) rfl)) ?_)
  by_cases h_1225 : (i : Int) < (n : Int)
  rotate_left
  · refine l_op wn (o_val (x_lss (r := false) (et (v := (Value.int .i64 (i : Int))) rfl) (et (v := (Value.int .i64 (n : Int))) rfl) (dec_f h_1225)) ?_)
    refine l_nil ?_
    refine w_if_f (et (v := (Value.bool false)) rfl) ?_
    refine w_exit ?_
    refine Eq.mpr (if_pos rfl) ?_
    refine w_seq ?_
    refine w_region ?_
    refine l_op wn (o_val (x_move (et (v := (Value.slice (some ⟨w.heap.size, 0, none⟩) n n)) hs_1222)) ?_)
    refine l_op wn (o_val (x_assign (et (v := (Value.slice (some ⟨w.heap.size, 0, none⟩) n n)) rfl)) ?_)
    refine l_nil ?_
    refine w_ret ?_
    have en : n = i := by omega
    subst en
    have hf4 := hfs
    rw [ln, List.take_length, ← ln, List.take_of_length_le (by omega)] at hf4
    exact ⟨_, r_tmp (v := (Value.slice (some ⟨w.heap.size, 0, none⟩) n n)) Try.results16 rfl, _, _, rfl, row_rep hrow hf4 ln (Nat.le_refl _) (by omega), row_seg hsg (by omega), hB_1220⟩
  refine l_op wn (o_val (x_lss (r := true) (et (v := (Value.int .i64 (i : Int))) rfl) (et (v := (Value.int .i64 (n : Int))) rfl) (dec_t h_1225)) ?_)
  refine l_nil ?_
  refine w_if_t (et (v := (Value.bool true)) rfl) ?_
  refine w_skip ?_
  refine w_seq ?_
  refine w_block ?_
  refine w_region ?_
  refine l_op wn (o_val (x_move (et (v := (Value.slice (some ⟨w.heap.size, 0, none⟩) n n)) hs_1222)) ?_)
  refine l_op wn (o_val (x_move (et (v := (Value.int .i64 (i : Int))) hs_1223)) ?_)
  refine l_op wn (o_val (x_move (et (v := (Value.slice A n c)) hs_1221)) ?_)
  refine l_op wn (o_val (x_move (et (v := (Value.int .i64 (i : Int))) hs_1223)) ?_)
  obtain ⟨b_1226, o_1227, x_1228, cs_1229, G_1230, hA_1231, hbF_1232, hlt_1233, hx_1234, hrx_1235, hG_1236, hl_1237, hcl_1238⟩ := hr.elem (k := 1) (fun y hy => wd_str (ok.mem y hy)) (i := i) (by omega)
  obtain ⟨s_1239, rfl, rfl, rfl, bd_1243⟩ := open_str (ok.get hx_1234) hrx_1235
  refine l_op wn (o_val (x_index' (i := i) Try.underlying29 Try.sizeOf9 (et (v := (Value.slice A n c)) rfl) hA_1231 (et (v := (Value.int .i64 (i : Int))) rfl) (by omega) (by omega)) ?_)
  refine l_op wn (o_val (x_load (v := (Value.string s_1239)) Try.isAgg9 (et (v := (Value.pointer (some ⟨b_1226, o_1227 + i * 1, none⟩))) rfl) ((hl_1237.keep (hB_1220.block _ hlt_1233)) 0 _ rfl)) ?_)
  refine l_op wn (o_val (x_index (i := i) Try.underlying29 Try.sizeOf9 (et (v := (Value.slice (some ⟨w.heap.size, 0, none⟩) n n)) rfl) (et (v := (Value.int .i64 (i : Int))) rfl) (by omega) (by omega)) ?_)
  have lt_1248 : i * 1 + 1 ≤ (ds).length := by rw [hdl]; omega
  refine l_op wn (o_store' Try.sizeOf9 (et (v := (Value.pointer (some ⟨w.heap.size, 0 + i * 1, none⟩))) rfl) (et (v := (Value.string s_1239)) rfl) rfl hrow (by omega) ?_)
  intro w_1244 of_1245 bx_1246
  rw [set_splice (by omega)] at bx_1246
  have hB_1249 := below_off hB_1220 of_1245 (by omega)
  have z_1250 := of_1245.size
  have rp_1251 := hfs.off of_1245 (fun hm => by have := hsg.bd _ hm; omega)
  have ln_1247 : (splice ds (0 + i * 1) [(Value.string s_1239)]).length = n * 1 := (len_splice (by simp; omega)).trans hdl
  refine l_nil ?_
  refine w_region ?_
  refine l_op wn (o_val (x_move (et (v := (Value.int .i64 (i : Int))) hs_1223)) ?_)
  refine l_op wn (o_val (x_add (et (v := (Value.int .i64 (i : Int))) rfl) ec (by omega)) ?_)
  refine l_op wn (o_val (x_assign (et (v := (Value.int .i64 ((i : Int) + 1))) rfl)) ?_)
  refine l_nil ?_
  have rr_1252 := (rstr (w := w_1244) (n := s_1239) bd_1243)
  have ht := take_splice (k := 1) (vs := [(Value.string s_1239)]) lt_1248 rfl
  have hf2 := RepFs.snoc _ rp_1251 rr_1252
  rw [← take_snoc hx_1234] at hf2
  rw [← ht] at hf2
  exact ⟨n - (i + 1), by omega, ⟨i + 1, (splice ds (0 + i * 1) [(Value.string s_1239)]), _, hs_1221, hs_1222, vint (a := ((i : Int) + 1)) (by omega), hB_1249, (by omega), (bx_1246), (ln_1247), (hf2), ((seg_app hsg (seg_nil (lo := w_1244.heap.size) (Nat.le_refl _)) (by omega))), rfl⟩⟩

set_option maxHeartbeats 200000 in
theorem to_Rule (w : World) (x : V) (cs : List Value) (F : List Nat) (ok : Ok x tRule) (hr : Rep w x cs F) (hb : V.bulk x ≤ 1048576) : Calls Try.prog 42 #[.agg cs.toArray] w (RetS w x) := by
  obtain ⟨s_1253, xs_1254, A_1255, n_1256, c_1257, F_1258, i_1260, q_1261, rfl, rfl, rfl, bd_1265, ok_1266, hr_1267, ln_1268, bd_1269⟩ := open_Rule ok hr
  have hbk : V.bulk (.agg [.str s_1253, .list xs_1254, .int i_1260, .bool q_1261]) = s_1253.size + V.bulk (.list xs_1254) := by simp only [V.bulk, V.bulks] <;> omega
  have hB0 := Below.refl w.heap.size w
  refine enter (N := 18) Try.func42 rfl Try.ntmps42 rfl ?_
  refine w_seq ?_
  refine w_region ?_
  refine l_op wn (o_new (x_box (cs := [(Value.string s_1253), (Value.slice A_1255 n_1256 c_1257), (Value.int .i64 i_1260), (Value.bool q_1261)]) (et (v := (Value.agg #[(Value.string s_1253), (Value.slice A_1255 n_1256 c_1257), (Value.int .i64 i_1260), (Value.bool q_1261)])) rfl)) ?_)
  intro w_1270 z_1271 k_1272 bx_1273
  have hB_1274 := below_next hB0 k_1272 (by omega)
  refine l_op wn (o_new (x_alloc (cs := [(Value.string (⟨#[]⟩)), (Value.slice none 0 0), (Value.int .i64 0), (Value.bool false)]) Try.zeroValue75) ?_)
  intro w_1275 z_1276 k_1277 bx_1278
  have hB_1279 := below_next hB_1274 k_1277 (by omega)
  have bx_1280 := bx_1273.below k_1277
  refine l_nil ?_
  refine w_seq ?_
  refine w_region ?_
  refine l_op wn (o_new (x_alloc (cs := [(Value.string (⟨#[]⟩)), (Value.slice none 0 0), (Value.int .i64 0), (Value.bool false)]) Try.zeroValue75) ?_)
  intro w_1281 z_1282 k_1283 bx_1284
  have hB_1285 := below_next hB_1279 k_1283 (by omega)
  have bx_1286 := bx_1280.below k_1283
  have bx_1287 := bx_1278.below k_1283
  refine l_nil ?_
  refine w_seq ?_
  refine w_region ?_
  refine l_op wn (o_val (x_field (k := 0) (j := 0) Try.underlying74 rfl Try.sizeOf9 rfl (et (v := (Value.pointer (some ⟨w.heap.size, 0, none⟩))) rfl)) ?_)
  refine l_op wn (o_val (x_load (v := (Value.string s_1253)) Try.isAgg9 (et (v := (Value.pointer (some ⟨w.heap.size, 0, none⟩))) rfl) ((bx_1286.cell 0).trans rfl)) ?_)
  refine l_op wn (o_val (x_field (k := 0) (j := 0) Try.underlying75 rfl Try.sizeOf9 rfl (et (v := (Value.pointer (some ⟨w_1275.heap.size, 0, none⟩))) rfl)) ?_)
  refine l_op wn (o_store Try.sizeOf9 (et (v := (Value.pointer (some ⟨w_1275.heap.size, 0, none⟩))) rfl) (et (v := (Value.string s_1253)) rfl) rfl bx_1284 rfl ?_)
  intro w_1288 of_1289 bx_1290
  have bx_1291 : Blk w_1288 w_1275.heap.size 75 [(Value.string s_1253), (Value.slice none 0 0), (Value.int .i64 0), (Value.bool false)] := bx_1290
  have hB_1292 := below_off hB_1285 of_1289 (by omega)
  have z_1293 := of_1289.size
  have bx_1294 := bx_1286.off of_1289 (by omega)
  have bx_1295 := bx_1287.off of_1289 (by omega)
  refine l_nil ?_
  refine w_seq ?_
  refine w_region ?_
  refine l_op wn (o_val (x_field (k := 0) (j := 1) Try.underlying74 rfl Try.sizeOf29 rfl (et (v := (Value.pointer (some ⟨w.heap.size, 0, none⟩))) rfl)) ?_)
  refine l_op wn (o_val (x_load (v := (Value.slice A_1255 n_1256 c_1257)) Try.isAgg29 (et (v := (Value.pointer (some ⟨w.heap.size, 1, none⟩))) rfl) ((bx_1294.cell 1).trans rfl)) ?_)
  refine l_op wn (o_call (x_call Try.call16 ef (a1 (et (v := (Value.slice A_1255 n_1256 c_1257)) rfl))) (to_StrS w_1288 xs_1254 A_1255 n_1256 c_1257 _ ok_1266 (hr_1267.below hB_1292) (by omega)) ?_)
  rintro _ w_1296 ⟨c_1297, F_1298, rfl, rp_1299, sg_1300, k_1301⟩
  obtain ⟨A_1302, n_1303, c_1304, e_c_1297, ln_1305⟩ := rp_1299.list_inv
  simp only [List.cons.injEq, and_true] at e_c_1297
  subst e_c_1297
  have hB_1306 := below_next hB_1292 k_1301 (by omega)
  have z_1307 := k_1301.size
  have bx_1308 := bx_1294.below k_1301
  have bx_1309 := bx_1295.below k_1301
  have bx_1310 := bx_1291.below k_1301
  refine ⟨_, rfl, ?_⟩
  refine l_op wn (o_val (x_field (k := 0) (j := 1) Try.underlying75 rfl Try.sizeOf29 rfl (et (v := (Value.pointer (some ⟨w_1275.heap.size, 0, none⟩))) rfl)) ?_)
  refine l_op wn (o_store Try.sizeOf29 (et (v := (Value.pointer (some ⟨w_1275.heap.size, 1, none⟩))) rfl) (et (v := (Value.slice A_1302 n_1303 c_1304)) rfl) rfl bx_1310 rfl ?_)
  intro w_1312 of_1313 bx_1314
  have bx_1315 : Blk w_1312 w_1275.heap.size 75 [(Value.string s_1253), (Value.slice A_1302 n_1303 c_1304), (Value.int .i64 0), (Value.bool false)] := bx_1314
  have hB_1316 := below_off hB_1306 of_1313 (by omega)
  have z_1317 := of_1313.size
  have bx_1318 := bx_1308.off of_1313 (by omega)
  have bx_1319 := bx_1309.off of_1313 (by omega)
  have rp_1320 := rp_1299.off of_1313 (fun hm => by have := sg_1300.bd _ hm; omega)
  refine l_nil ?_
  refine w_seq ?_
  refine w_region ?_
  refine l_op wn (o_val (x_field (k := 0) (j := 2) Try.underlying74 rfl Try.sizeOf3 rfl (et (v := (Value.pointer (some ⟨w.heap.size, 0, none⟩))) rfl)) ?_)
  refine l_op wn (o_val (x_load (v := (Value.int .i64 i_1260)) Try.isAgg3 (et (v := (Value.pointer (some ⟨w.heap.size, 2, none⟩))) rfl) ((bx_1318.cell 2).trans rfl)) ?_)
  refine l_op wn (o_val (x_field (k := 0) (j := 2) Try.underlying75 rfl Try.sizeOf3 rfl (et (v := (Value.pointer (some ⟨w_1275.heap.size, 0, none⟩))) rfl)) ?_)
  refine l_op wn (o_store Try.sizeOf3 (et (v := (Value.pointer (some ⟨w_1275.heap.size, 2, none⟩))) rfl) (et (v := (Value.int .i64 i_1260)) rfl) rfl bx_1315 rfl ?_)
  intro w_1321 of_1322 bx_1323
  have bx_1324 : Blk w_1321 w_1275.heap.size 75 [(Value.string s_1253), (Value.slice A_1302 n_1303 c_1304), (Value.int .i64 i_1260), (Value.bool false)] := bx_1323
  have hB_1325 := below_off hB_1316 of_1322 (by omega)
  have z_1326 := of_1322.size
  have bx_1327 := bx_1318.off of_1322 (by omega)
  have bx_1328 := bx_1319.off of_1322 (by omega)
  have rp_1329 := rp_1320.off of_1322 (fun hm => by have := sg_1300.bd _ hm; omega)
  refine l_nil ?_
  refine w_seq ?_
  refine w_region ?_
  refine l_op wn (o_val (x_field (k := 0) (j := 3) Try.underlying74 rfl Try.sizeOf4 rfl (et (v := (Value.pointer (some ⟨w.heap.size, 0, none⟩))) rfl)) ?_)
  refine l_op wn (o_val (x_load (v := (Value.bool q_1261)) Try.isAgg4 (et (v := (Value.pointer (some ⟨w.heap.size, 3, none⟩))) rfl) ((bx_1327.cell 3).trans rfl)) ?_)
  refine l_op wn (o_val (x_field (k := 0) (j := 3) Try.underlying75 rfl Try.sizeOf4 rfl (et (v := (Value.pointer (some ⟨w_1275.heap.size, 0, none⟩))) rfl)) ?_)
  refine l_op wn (o_store Try.sizeOf4 (et (v := (Value.pointer (some ⟨w_1275.heap.size, 3, none⟩))) rfl) (et (v := (Value.bool q_1261)) rfl) rfl bx_1324 rfl ?_)
  intro w_1330 of_1331 bx_1332
  have bx_1333 : Blk w_1330 w_1275.heap.size 75 [(Value.string s_1253), (Value.slice A_1302 n_1303 c_1304), (Value.int .i64 i_1260), (Value.bool q_1261)] := bx_1332
  have hB_1334 := below_off hB_1325 of_1331 (by omega)
  have z_1335 := of_1331.size
  have bx_1336 := bx_1327.off of_1331 (by omega)
  have bx_1337 := bx_1328.off of_1331 (by omega)
  have rp_1338 := rp_1329.off of_1331 (fun hm => by have := sg_1300.bd _ hm; omega)
  refine l_nil ?_
  refine w_seq ?_
  refine w_region ?_
  refine l_op wn (o_val (x_loadN (cs := [(Value.string s_1253), (Value.slice A_1302 n_1303 c_1304), (Value.int .i64 i_1260), (Value.bool q_1261)]) Try.isAgg75 Try.sizeOf75 (et (v := (Value.pointer (some ⟨w_1275.heap.size, 0, none⟩))) rfl) rfl (bx_1333.lies)) ?_)
  refine l_op wn (o_storeN (vs := [(Value.string s_1253), (Value.slice A_1302 n_1303 c_1304), (Value.int .i64 i_1260), (Value.bool q_1261)]) Try.sizeOf75 (et (v := (Value.pointer (some ⟨w_1270.heap.size, 0, none⟩))) rfl) (et (v := (Value.agg #[(Value.string s_1253), (Value.slice A_1302 n_1303 c_1304), (Value.int .i64 i_1260), (Value.bool q_1261)])) rfl) rfl (by simp [one]) bx_1337 (by simp) ?_)
  intro w_1339 of_1340 bx_1341
  have bx_1342 : Blk w_1339 w_1270.heap.size 75 [(Value.string s_1253), (Value.slice A_1302 n_1303 c_1304), (Value.int .i64 i_1260), (Value.bool q_1261)] := bx_1341
  have hB_1343 := below_off hB_1334 of_1340 (by omega)
  have z_1344 := of_1340.size
  have bx_1345 := bx_1336.off of_1340 (by omega)
  have bx_1346 := bx_1333.off of_1340 (by omega)
  have rp_1347 := rp_1338.off of_1340 (fun hm => by have := sg_1300.bd _ hm; omega)
  refine l_nil ?_
  refine w_ret ?_
  have rr_1348 := (ragg (rcons (rstr (w := w_1339) (n := s_1253) bd_1265) (rcons rp_1347 (rcons (rint (w := w_1339) (n := i_1260) bd_1269) (rcons (rbool (w := w_1339) (n := q_1261)) (rnil (w := w_1339)))))))
  exact ⟨_, r_cell Try.results42 rfl Try.isAgg75 Try.sizeOf75 rfl bx_1342, _, _, rfl, rr_1348, ((seg_skip (seg_app sg_1300 (seg_skip (seg_skip (seg_nil (lo := w_1339.heap.size) (hi := w_1339.heap.size) (Nat.le_refl _)))) (by omega)))).mono (by omega) (by omega), hB_1343⟩

set_option maxHeartbeats 200000 in
theorem to_RuleS (w : World) (xs : List V) (A : Option Addr) (n c : Nat) (F : List Nat) (ok : Oks xs tRule) (hr : Rep w (.list xs) [.slice A n c] F) (hb : V.bulk (.list xs) ≤ 1048576) : Calls Try.prog 11 #[.slice A n c] w (Ret1 w (.list xs)) := by
  have hB0 := Below.refl w.heap.size w
  obtain ⟨ln, lc, lm⟩ := hr.len
  have hn20 : n ≤ 1048576 := by have := bulk_list xs; omega
  refine enter (N := 23) Try.func11 rfl Try.ntmps11 rfl ?_
  refine w_seq ?_
  refine w_region ?_
  refine l_op wn (o_val (x_assign ec) ?_)
  refine l_nil ?_
  refine w_seq ?_
  refine w_region ?_
  refine l_op wn (o_val (x_move (et (v := (Value.slice A n c)) rfl)) ?_)
  refine l_op wn (o_val (x_len Try.underlying22 (et (v := (Value.slice A n c)) rfl)) ?_)
  refine l_op wn (o_make Try.underlying25 info75 (et (v := (Value.int .i64 (n : Int))) rfl) (by omega) (by omega) ?_)
  intro w_1349 cs_1350 z_1351 k_1352 bx_1353 ln_1354
  have hB_1355 := below_next hB0 k_1352 (by omega)
  refine l_op wn (o_val (x_assign (et (v := (Value.slice (some ⟨w.heap.size, 0, none⟩) n n)) rfl)) ?_)
  refine l_nil ?_
  refine w_seq ?_
  refine w_seq ?_
  refine w_region ?_
  refine l_op wn (o_val (x_assign ec) ?_)
  refine l_nil ?_
  refine w_block ?_
  refine w_loop (fun μ f w' => ∃ (i : Nat), ∃ (ds : List Value), ∃ (G : List Nat), f 0 = (Value.slice A n c) ∧ f 3 = (Value.slice (some ⟨w.heap.size, 0, none⟩) n n) ∧ f 4 = (Value.int .i64 (i : Int)) ∧ Below w.heap.size w w' ∧ (i ≤ n) ∧ (Blk w' w.heap.size 75 ds) ∧ (ds.length = n * 4) ∧ (RepFs w' (xs.take i) (ds.take (i * 4)) G) ∧ (Seg G (w.heap.size + 1) (w').heap.size) ∧ μ = n - i) (n - 0) ?_ ?_
  · exact ⟨0, cs_1350, [], rfl, rfl, vint (a := 0) (by omega), hB_1355, (by omega), (bx_1353), (ln_1354), (by simp [RepFs]), (seg_nil (by omega)), rfl⟩
  rintro m_1358 f_1356 w_1357 ⟨i, ds, G, hs_1360, hs_1361, hs_1362, hB_1359, hi, hrow, hdl, hfs, hsg, rfl⟩
  have z_1363 := hB_1359.size
  have zrow := hrow.lt
  refine w_seq ?_
  refine w_seq ?_
  refine w_region ?_
  refine l_op wn (o_val (x_move (et (v := (Value.int .i64 (i : Int))) hs_1362)) ?_)
  refine l_op wn (o_val (x_move (et (v := (Value.slice A n c)) hs_1360)) ?_)
  refine l_op wn (o_val (x_len Try.underlying22 (et (v := (Value.slice A n c)) rfl)) ?_)
  by_cases h_1364 : (i : Int) < (n : Int)
  rotate_left
  · refine l_op wn (o_val (x_lss (r := false) (et (v := (Value.int .i64 (i : Int))) rfl) (et (v := (Value.int .i64 (n : Int))) rfl) (dec_f h_1364)) ?_)
    refine l_nil ?_
    refine w_if_f (et (v := (Value.bool false)) rfl) ?_
    refine w_exit ?_
    refine Eq.mpr (if_pos rfl) ?_
    refine w_seq ?_
    refine w_region ?_
    refine l_op wn (o_val (x_move (et (v := (Value.slice (some ⟨w.heap.size, 0, none⟩) n n)) hs_1361)) ?_)
    refine l_op wn (o_val (x_assign (et (v := (Value.slice (some ⟨w.heap.size, 0, none⟩) n n)) rfl)) ?_)
    refine l_nil ?_
    refine w_ret ?_
    have en : n = i := by omega
    subst en
    have hf4 := hfs
    rw [ln, List.take_length, ← ln, List.take_of_length_le (by omega)] at hf4
    exact ⟨_, r_tmp (v := (Value.slice (some ⟨w.heap.size, 0, none⟩) n n)) Try.results11 rfl, _, _, rfl, row_rep hrow hf4 ln (Nat.le_refl _) (by omega), row_seg hsg (by omega), hB_1359⟩
  refine l_op wn (o_val (x_lss (r := true) (et (v := (Value.int .i64 (i : Int))) rfl) (et (v := (Value.int .i64 (n : Int))) rfl) (dec_t h_1364)) ?_)
  refine l_nil ?_
  refine w_if_t (et (v := (Value.bool true)) rfl) ?_
  refine w_skip ?_
  refine w_seq ?_
  refine w_block ?_
  refine w_region ?_
  refine l_op wn (o_val (x_move (et (v := (Value.slice (some ⟨w.heap.size, 0, none⟩) n n)) hs_1361)) ?_)
  refine l_op wn (o_val (x_move (et (v := (Value.int .i64 (i : Int))) hs_1362)) ?_)
  refine l_op wn (o_val (x_move (et (v := (Value.slice A n c)) hs_1360)) ?_)
  refine l_op wn (o_val (x_move (et (v := (Value.int .i64 (i : Int))) hs_1362)) ?_)
  obtain ⟨b_1365, o_1366, x_1367, cs_1368, G_1369, hA_1370, hbF_1371, hlt_1372, hx_1373, hrx_1374, hG_1375, hl_1376, hcl_1377⟩ := hr.elem (k := 4) (fun y hy => wd_Rule (ok.mem y hy)) (i := i) (by omega)
  obtain ⟨s_1378, xs_1379, A_1380, n_1381, c_1382, F_1383, i_1385, q_1386, rfl, rfl, rfl, bd_1390, ok_1391, hr_1392, ln_1393, bd_1394⟩ := open_Rule (ok.get hx_1373) hrx_1374
  refine l_op wn (o_val (x_index' (i := i) Try.underlying22 Try.sizeOf74 (et (v := (Value.slice A n c)) rfl) hA_1370 (et (v := (Value.int .i64 (i : Int))) rfl) (by omega) (by omega)) ?_)
  refine l_op wn (o_val (x_loadN (cs := [(Value.string s_1378), (Value.slice A_1380 n_1381 c_1382), (Value.int .i64 i_1385), (Value.bool q_1386)]) Try.isAgg74 Try.sizeOf74 (et (v := (Value.pointer (some ⟨b_1365, o_1366 + i * 4, none⟩))) rfl) rfl ((hl_1376.keep (hB_1359.block _ hlt_1372)))) ?_)
  have rr_1402 := (ragg (rcons (rstr (w := w_1357) (n := s_1378) bd_1390) (rcons (hr_1392.below hB_1359) (rcons (rint (w := w_1357) (n := i_1385) bd_1394) (rcons (rbool (w := w_1357) (n := q_1386)) (rnil (w := w_1357)))))))
  refine l_op wn (o_call (x_call Try.call42 ef (a1 (et (v := (Value.agg #[(Value.string s_1378), (Value.slice A_1380 n_1381 c_1382), (Value.int .i64 i_1385), (Value.bool q_1386)])) rfl))) (to_Rule w_1357 (.agg [.str s_1378, .list xs_1379, .int i_1385, .bool q_1386]) [(Value.string s_1378), (Value.slice A_1380 n_1381 c_1382), (Value.int .i64 i_1385), (Value.bool q_1386)] _ (ok_agg rfl (okz_cons (ok_str rfl) (okz_cons (ok_list rfl ok_1391) (okz_cons (ok_int rfl) (okz_cons (ok_bool rfl) okz_nil))))) rr_1402 (by have bs := bulks_step hx_1373; have := bulk_list xs; omega)) ?_)
  rintro _ w_1395 ⟨cs_1401, F_1397, rfl, rp_1398, sg_1399, k_1400⟩
  have hB_1403 := below_next hB_1359 k_1400 (by omega)
  have z_1404 := k_1400.size
  have bx_1405 := hrow.below k_1400
  have rp_1406 := hfs.below k_1400
  obtain ⟨A_1408, n_1409, c_1410, F_1411, rfl⟩ := cells_Rule rp_1398
  refine ⟨_, rfl, ?_⟩
  refine l_op wn (o_val (x_index (i := i) Try.underlying25 Try.sizeOf75 (et (v := (Value.slice (some ⟨w.heap.size, 0, none⟩) n n)) rfl) (et (v := (Value.int .i64 (i : Int))) rfl) (by omega) (by omega)) ?_)
  have lt_1416 : i * 4 + 4 ≤ (ds).length := by rw [hdl]; omega
  refine l_op wn (o_storeN (vs := [(Value.string s_1378), (Value.slice A_1408 n_1409 c_1410), (Value.int .i64 i_1385), (Value.bool q_1386)]) Try.sizeOf75 (et (v := (Value.pointer (some ⟨w.heap.size, 0 + i * 4, none⟩))) rfl) (et (v := (Value.agg #[(Value.string s_1378), (Value.slice A_1408 n_1409 c_1410), (Value.int .i64 i_1385), (Value.bool q_1386)])) rfl) rfl (by simp [one]) bx_1405 (by omega) ?_)
  intro w_1412 of_1413 bx_1414
  have hB_1417 := below_off hB_1403 of_1413 (by omega)
  have z_1418 := of_1413.size
  have rp_1419 := rp_1406.off of_1413 (fun hm => by have := hsg.bd _ hm; omega)
  have rp_1420 := rp_1398.off of_1413 (fun hm => by have := sg_1399.bd _ hm; omega)
  have ln_1415 : (splice ds (0 + i * 4) [(Value.string s_1378), (Value.slice A_1408 n_1409 c_1410), (Value.int .i64 i_1385), (Value.bool q_1386)]).length = n * 4 := (len_splice (by simp; omega)).trans hdl
  refine l_nil ?_
  refine w_region ?_
  refine l_op wn (o_val (x_move (et (v := (Value.int .i64 (i : Int))) hs_1362)) ?_)
  refine l_op wn (o_val (x_add (et (v := (Value.int .i64 (i : Int))) rfl) ec (by omega)) ?_)
  refine l_op wn (o_val (x_assign (et (v := (Value.int .i64 ((i : Int) + 1))) rfl)) ?_)
  refine l_nil ?_
  have rr_1421 := rp_1420
  have ht := take_splice (k := 4) (vs := [(Value.string s_1378), (Value.slice A_1408 n_1409 c_1410), (Value.int .i64 i_1385), (Value.bool q_1386)]) lt_1416 rfl
  have hf2 := RepFs.snoc _ rp_1419 rr_1421
  rw [← take_snoc hx_1373] at hf2
  rw [← ht] at hf2
  exact ⟨n - (i + 1), by omega, ⟨i + 1, (splice ds (0 + i * 4) [(Value.string s_1378), (Value.slice A_1408 n_1409 c_1410), (Value.int .i64 i_1385), (Value.bool q_1386)]), _, hs_1360, hs_1361, vint (a := ((i : Int) + 1)) (by omega), hB_1417, (by omega), (bx_1414), (ln_1415), (hf2), ((seg_app hsg sg_1399 (by omega)).mono (by omega) (by omega)), rfl⟩⟩

def To_NodeS (k : Nat) : Prop := ∀ (w : World) (xs : List V) (A : Option Addr) (n c : Nat) (F : List Nat) (ok : Oks xs tNode) (hr : Rep w (.list xs) [.slice A n c] F) (hb : V.bulk (.list xs) ≤ 1048576) (hc : V.cnts xs ≤ k), Calls Try.prog 26 #[.slice A n c] w (Ret1 w (.list xs))
def To_Node (k : Nat) : Prop := ∀ (w : World) (x : V) (cs : List Value) (F : List Nat) (ok : Ok x tNode) (hr : Rep w x cs F) (hb : V.bulk x ≤ 1048576) (hc : V.cnt x ≤ k), Calls Try.prog 55 #[.agg cs.toArray] w (RetS w x)
set_option maxHeartbeats 200000 in
theorem to_Node_of (k : Nat) (ih : To_NodeS k) : To_Node (k + 1) := by
  intro w x cs F ok hr hb hc
  obtain ⟨s_1422, s_1423, xs_1424, A_1425, n_1426, c_1427, F_1428, rfl, rfl, rfl, bd_1433, bd_1434, ok_1435, hr_1436, ln_1437⟩ := open_Node ok hr
  have hbk : V.bulk (.agg [.str s_1422, .str s_1423, .list xs_1424]) = s_1422.size + s_1423.size + V.bulk (.list xs_1424) := by simp only [V.bulk, V.bulks] <;> omega
  have hck : V.cnts xs_1424 < V.cnt (.agg [.str s_1422, .str s_1423, .list xs_1424]) := by simp only [V.cnt, V.cnts]; omega
  have hB0 := Below.refl w.heap.size w
  refine enter (N := 15) Try.func55 rfl Try.ntmps55 rfl ?_
  refine w_seq ?_
  refine w_region ?_
  refine l_op wn (o_new (x_box (cs := [(Value.string s_1422), (Value.string s_1423), (Value.slice A_1425 n_1426 c_1427)]) (et (v := (Value.agg #[(Value.string s_1422), (Value.string s_1423), (Value.slice A_1425 n_1426 c_1427)])) rfl)) ?_)
  intro w_1438 z_1439 k_1440 bx_1441
  have hB_1442 := below_next hB0 k_1440 (by omega)
  refine l_op wn (o_new (x_alloc (cs := [(Value.string (⟨#[]⟩)), (Value.string (⟨#[]⟩)), (Value.slice none 0 0)]) Try.zeroValue93) ?_)
  intro w_1443 z_1444 k_1445 bx_1446
  have hB_1447 := below_next hB_1442 k_1445 (by omega)
  have bx_1448 := bx_1441.below k_1445
  refine l_nil ?_
  refine w_seq ?_
  refine w_region ?_
  refine l_op wn (o_new (x_alloc (cs := [(Value.string (⟨#[]⟩)), (Value.string (⟨#[]⟩)), (Value.slice none 0 0)]) Try.zeroValue93) ?_)
  intro w_1449 z_1450 k_1451 bx_1452
  have hB_1453 := below_next hB_1447 k_1451 (by omega)
  have bx_1454 := bx_1448.below k_1451
  have bx_1455 := bx_1446.below k_1451
  refine l_nil ?_
  refine w_seq ?_
  refine w_region ?_
  refine l_op wn (o_val (x_field (k := 0) (j := 0) Try.underlying90 rfl Try.sizeOf9 rfl (et (v := (Value.pointer (some ⟨w.heap.size, 0, none⟩))) rfl)) ?_)
  refine l_op wn (o_val (x_load (v := (Value.string s_1422)) Try.isAgg9 (et (v := (Value.pointer (some ⟨w.heap.size, 0, none⟩))) rfl) ((bx_1454.cell 0).trans rfl)) ?_)
  refine l_op wn (o_val (x_field (k := 0) (j := 0) Try.underlying93 rfl Try.sizeOf9 rfl (et (v := (Value.pointer (some ⟨w_1443.heap.size, 0, none⟩))) rfl)) ?_)
  refine l_op wn (o_store Try.sizeOf9 (et (v := (Value.pointer (some ⟨w_1443.heap.size, 0, none⟩))) rfl) (et (v := (Value.string s_1422)) rfl) rfl bx_1452 rfl ?_)
  intro w_1456 of_1457 bx_1458
  have bx_1459 : Blk w_1456 w_1443.heap.size 93 [(Value.string s_1422), (Value.string (⟨#[]⟩)), (Value.slice none 0 0)] := bx_1458
  have hB_1460 := below_off hB_1453 of_1457 (by omega)
  have z_1461 := of_1457.size
  have bx_1462 := bx_1454.off of_1457 (by omega)
  have bx_1463 := bx_1455.off of_1457 (by omega)
  refine l_nil ?_
  refine w_seq ?_
  refine w_region ?_
  refine l_op wn (o_val (x_field (k := 0) (j := 1) Try.underlying90 rfl Try.sizeOf9 rfl (et (v := (Value.pointer (some ⟨w.heap.size, 0, none⟩))) rfl)) ?_)
  refine l_op wn (o_val (x_load (v := (Value.string s_1423)) Try.isAgg9 (et (v := (Value.pointer (some ⟨w.heap.size, 1, none⟩))) rfl) ((bx_1462.cell 1).trans rfl)) ?_)
  refine l_op wn (o_val (x_field (k := 0) (j := 1) Try.underlying93 rfl Try.sizeOf9 rfl (et (v := (Value.pointer (some ⟨w_1443.heap.size, 0, none⟩))) rfl)) ?_)
  refine l_op wn (o_store Try.sizeOf9 (et (v := (Value.pointer (some ⟨w_1443.heap.size, 1, none⟩))) rfl) (et (v := (Value.string s_1423)) rfl) rfl bx_1459 rfl ?_)
  intro w_1464 of_1465 bx_1466
  have bx_1467 : Blk w_1464 w_1443.heap.size 93 [(Value.string s_1422), (Value.string s_1423), (Value.slice none 0 0)] := bx_1466
  have hB_1468 := below_off hB_1460 of_1465 (by omega)
  have z_1469 := of_1465.size
  have bx_1470 := bx_1462.off of_1465 (by omega)
  have bx_1471 := bx_1463.off of_1465 (by omega)
  refine l_nil ?_
  refine w_seq ?_
  refine w_region ?_
  refine l_op wn (o_val (x_field (k := 0) (j := 2) Try.underlying90 rfl Try.sizeOf35 rfl (et (v := (Value.pointer (some ⟨w.heap.size, 0, none⟩))) rfl)) ?_)
  refine l_op wn (o_val (x_load (v := (Value.slice A_1425 n_1426 c_1427)) Try.isAgg35 (et (v := (Value.pointer (some ⟨w.heap.size, 2, none⟩))) rfl) ((bx_1470.cell 2).trans rfl)) ?_)
  refine l_op wn (o_call (x_call Try.call26 ef (a1 (et (v := (Value.slice A_1425 n_1426 c_1427)) rfl))) (ih w_1464 xs_1424 A_1425 n_1426 c_1427 _ ok_1435 (hr_1436.below hB_1468) (by omega) (by omega)) ?_)
  rintro _ w_1472 ⟨c_1473, F_1474, rfl, rp_1475, sg_1476, k_1477⟩
  obtain ⟨A_1478, n_1479, c_1480, e_c_1473, ln_1481⟩ := rp_1475.list_inv
  simp only [List.cons.injEq, and_true] at e_c_1473
  subst e_c_1473
  have hB_1482 := below_next hB_1468 k_1477 (by omega)
  have z_1483 := k_1477.size
  have bx_1484 := bx_1470.below k_1477
  have bx_1485 := bx_1471.below k_1477
  have bx_1486 := bx_1467.below k_1477
  refine ⟨_, rfl, ?_⟩
  refine l_op wn (o_val (x_field (k := 0) (j := 2) Try.underlying93 rfl Try.sizeOf41 rfl (et (v := (Value.pointer (some ⟨w_1443.heap.size, 0, none⟩))) rfl)) ?_)
  refine l_op wn (o_store Try.sizeOf41 (et (v := (Value.pointer (some ⟨w_1443.heap.size, 2, none⟩))) rfl) (et (v := (Value.slice A_1478 n_1479 c_1480)) rfl) rfl bx_1486 rfl ?_)
  intro w_1488 of_1489 bx_1490
  have bx_1491 : Blk w_1488 w_1443.heap.size 93 [(Value.string s_1422), (Value.string s_1423), (Value.slice A_1478 n_1479 c_1480)] := bx_1490
  have hB_1492 := below_off hB_1482 of_1489 (by omega)
  have z_1493 := of_1489.size
  have bx_1494 := bx_1484.off of_1489 (by omega)
  have bx_1495 := bx_1485.off of_1489 (by omega)
  have rp_1496 := rp_1475.off of_1489 (fun hm => by have := sg_1476.bd _ hm; omega)
  refine l_nil ?_
  refine w_seq ?_
  refine w_region ?_
  refine l_op wn (o_val (x_loadN (cs := [(Value.string s_1422), (Value.string s_1423), (Value.slice A_1478 n_1479 c_1480)]) Try.isAgg93 Try.sizeOf93 (et (v := (Value.pointer (some ⟨w_1443.heap.size, 0, none⟩))) rfl) rfl (bx_1491.lies)) ?_)
  refine l_op wn (o_storeN (vs := [(Value.string s_1422), (Value.string s_1423), (Value.slice A_1478 n_1479 c_1480)]) Try.sizeOf93 (et (v := (Value.pointer (some ⟨w_1438.heap.size, 0, none⟩))) rfl) (et (v := (Value.agg #[(Value.string s_1422), (Value.string s_1423), (Value.slice A_1478 n_1479 c_1480)])) rfl) rfl (by simp [one]) bx_1495 (by simp) ?_)
  intro w_1497 of_1498 bx_1499
  have bx_1500 : Blk w_1497 w_1438.heap.size 93 [(Value.string s_1422), (Value.string s_1423), (Value.slice A_1478 n_1479 c_1480)] := bx_1499
  have hB_1501 := below_off hB_1492 of_1498 (by omega)
  have z_1502 := of_1498.size
  have bx_1503 := bx_1494.off of_1498 (by omega)
  have bx_1504 := bx_1491.off of_1498 (by omega)
  have rp_1505 := rp_1496.off of_1498 (fun hm => by have := sg_1476.bd _ hm; omega)
  refine l_nil ?_
  refine w_ret ?_
  have rr_1506 := (ragg (rcons (rstr (w := w_1497) (n := s_1422) bd_1433) (rcons (rstr (w := w_1497) (n := s_1423) bd_1434) (rcons rp_1505 (rnil (w := w_1497))))))
  exact ⟨_, r_cell Try.results55 rfl Try.isAgg93 Try.sizeOf93 rfl bx_1500, _, _, rfl, rr_1506, ((seg_skip (seg_skip (seg_app sg_1476 (seg_nil (lo := w_1497.heap.size) (hi := w_1497.heap.size) (Nat.le_refl _)) (by omega))))).mono (by omega) (by omega), hB_1501⟩

set_option maxHeartbeats 200000 in
theorem to_NodeS_of (k : Nat) (ih : To_Node k) : To_NodeS k := by
  intro w xs A n c F ok hr hb hc
  have hB0 := Below.refl w.heap.size w
  obtain ⟨ln, lc, lm⟩ := hr.len
  have hn20 : n ≤ 1048576 := by have := bulk_list xs; omega
  refine enter (N := 23) Try.func26 rfl Try.ntmps26 rfl ?_
  refine w_seq ?_
  refine w_region ?_
  refine l_op wn (o_val (x_assign ec) ?_)
  refine l_nil ?_
  refine w_seq ?_
  refine w_region ?_
  refine l_op wn (o_val (x_move (et (v := (Value.slice A n c)) rfl)) ?_)
  refine l_op wn (o_val (x_len Try.underlying35 (et (v := (Value.slice A n c)) rfl)) ?_)
  refine l_op wn (o_make Try.underlying41 info93 (et (v := (Value.int .i64 (n : Int))) rfl) (by omega) (by omega) ?_)
  intro w_1507 cs_1508 z_1509 k_1510 bx_1511 ln_1512
  have hB_1513 := below_next hB0 k_1510 (by omega)
  refine l_op wn (o_val (x_assign (et (v := (Value.slice (some ⟨w.heap.size, 0, none⟩) n n)) rfl)) ?_)
  refine l_nil ?_
  refine w_seq ?_
  refine w_seq ?_
  refine w_region ?_
  refine l_op wn (o_val (x_assign ec) ?_)
  refine l_nil ?_
  refine w_block ?_
  refine w_loop (fun μ f w' => ∃ (i : Nat), ∃ (ds : List Value), ∃ (G : List Nat), f 0 = (Value.slice A n c) ∧ f 3 = (Value.slice (some ⟨w.heap.size, 0, none⟩) n n) ∧ f 4 = (Value.int .i64 (i : Int)) ∧ Below w.heap.size w w' ∧ (i ≤ n) ∧ (Blk w' w.heap.size 93 ds) ∧ (ds.length = n * 3) ∧ (RepFs w' (xs.take i) (ds.take (i * 3)) G) ∧ (Seg G (w.heap.size + 1) (w').heap.size) ∧ μ = n - i) (n - 0) ?_ ?_
  · exact ⟨0, cs_1508, [], rfl, rfl, vint (a := 0) (by omega), hB_1513, (by omega), (bx_1511), (ln_1512), (by simp [RepFs]), (seg_nil (by omega)), rfl⟩
  rintro m_1516 f_1514 w_1515 ⟨i, ds, G, hs_1518, hs_1519, hs_1520, hB_1517, hi, hrow, hdl, hfs, hsg, rfl⟩
  have z_1521 := hB_1517.size
  have zrow := hrow.lt
  refine w_seq ?_
  refine w_seq ?_
  refine w_region ?_
  refine l_op wn (o_val (x_move (et (v := (Value.int .i64 (i : Int))) hs_1520)) ?_)
  refine l_op wn (o_val (x_move (et (v := (Value.slice A n c)) hs_1518)) ?_)
  refine l_op wn (o_val (x_len Try.underlying35 (et (v := (Value.slice A n c)) rfl)) ?_)
  by_cases h_1522 : (i : Int) < (n : Int)
  rotate_left
  · refine l_op wn (o_val (x_lss (r := false) (et (v := (Value.int .i64 (i : Int))) rfl) (et (v := (Value.int .i64 (n : Int))) rfl) (dec_f h_1522)) ?_)
    refine l_nil ?_
    refine w_if_f (et (v := (Value.bool false)) rfl) ?_
    refine w_exit ?_
    refine Eq.mpr (if_pos rfl) ?_
    refine w_seq ?_
    refine w_region ?_
    refine l_op wn (o_val (x_move (et (v := (Value.slice (some ⟨w.heap.size, 0, none⟩) n n)) hs_1519)) ?_)
    refine l_op wn (o_val (x_assign (et (v := (Value.slice (some ⟨w.heap.size, 0, none⟩) n n)) rfl)) ?_)
    refine l_nil ?_
    refine w_ret ?_
    have en : n = i := by omega
    subst en
    have hf4 := hfs
    rw [ln, List.take_length, ← ln, List.take_of_length_le (by omega)] at hf4
    exact ⟨_, r_tmp (v := (Value.slice (some ⟨w.heap.size, 0, none⟩) n n)) Try.results26 rfl, _, _, rfl, row_rep hrow hf4 ln (Nat.le_refl _) (by omega), row_seg hsg (by omega), hB_1517⟩
  refine l_op wn (o_val (x_lss (r := true) (et (v := (Value.int .i64 (i : Int))) rfl) (et (v := (Value.int .i64 (n : Int))) rfl) (dec_t h_1522)) ?_)
  refine l_nil ?_
  refine w_if_t (et (v := (Value.bool true)) rfl) ?_
  refine w_skip ?_
  refine w_seq ?_
  refine w_block ?_
  refine w_region ?_
  refine l_op wn (o_val (x_move (et (v := (Value.slice (some ⟨w.heap.size, 0, none⟩) n n)) hs_1519)) ?_)
  refine l_op wn (o_val (x_move (et (v := (Value.int .i64 (i : Int))) hs_1520)) ?_)
  refine l_op wn (o_val (x_move (et (v := (Value.slice A n c)) hs_1518)) ?_)
  refine l_op wn (o_val (x_move (et (v := (Value.int .i64 (i : Int))) hs_1520)) ?_)
  obtain ⟨b_1523, o_1524, x_1525, cs_1526, G_1527, hA_1528, hbF_1529, hlt_1530, hx_1531, hrx_1532, hG_1533, hl_1534, hcl_1535⟩ := hr.elem (k := 3) (fun y hy => wd_Node (ok.mem y hy)) (i := i) (by omega)
  obtain ⟨s_1536, s_1537, xs_1538, A_1539, n_1540, c_1541, F_1542, rfl, rfl, rfl, bd_1547, bd_1548, ok_1549, hr_1550, ln_1551⟩ := open_Node (ok.get hx_1531) hrx_1532
  refine l_op wn (o_val (x_index' (i := i) Try.underlying35 Try.sizeOf90 (et (v := (Value.slice A n c)) rfl) hA_1528 (et (v := (Value.int .i64 (i : Int))) rfl) (by omega) (by omega)) ?_)
  refine l_op wn (o_val (x_loadN (cs := [(Value.string s_1536), (Value.string s_1537), (Value.slice A_1539 n_1540 c_1541)]) Try.isAgg90 Try.sizeOf90 (et (v := (Value.pointer (some ⟨b_1523, o_1524 + i * 3, none⟩))) rfl) rfl ((hl_1534.keep (hB_1517.block _ hlt_1530)))) ?_)
  have rr_1559 := (ragg (rcons (rstr (w := w_1515) (n := s_1536) bd_1547) (rcons (rstr (w := w_1515) (n := s_1537) bd_1548) (rcons (hr_1550.below hB_1517) (rnil (w := w_1515))))))
  refine l_op wn (o_call (x_call Try.call55 ef (a1 (et (v := (Value.agg #[(Value.string s_1536), (Value.string s_1537), (Value.slice A_1539 n_1540 c_1541)])) rfl))) (ih w_1515 (.agg [.str s_1536, .str s_1537, .list xs_1538]) [(Value.string s_1536), (Value.string s_1537), (Value.slice A_1539 n_1540 c_1541)] _ (ok_agg rfl (okz_cons (ok_str rfl) (okz_cons (ok_str rfl) (okz_cons (ok_list rfl ok_1549) okz_nil)))) rr_1559 (by have bs := bulks_step hx_1531; have := bulk_list xs; omega) (by have := cnt_mem hx_1531; omega)) ?_)
  rintro _ w_1552 ⟨cs_1558, F_1554, rfl, rp_1555, sg_1556, k_1557⟩
  have hB_1560 := below_next hB_1517 k_1557 (by omega)
  have z_1561 := k_1557.size
  have bx_1562 := hrow.below k_1557
  have rp_1563 := hfs.below k_1557
  obtain ⟨A_1565, n_1566, c_1567, F_1568, rfl⟩ := cells_Node rp_1555
  refine ⟨_, rfl, ?_⟩
  refine l_op wn (o_val (x_index (i := i) Try.underlying41 Try.sizeOf93 (et (v := (Value.slice (some ⟨w.heap.size, 0, none⟩) n n)) rfl) (et (v := (Value.int .i64 (i : Int))) rfl) (by omega) (by omega)) ?_)
  have lt_1573 : i * 3 + 3 ≤ (ds).length := by rw [hdl]; omega
  refine l_op wn (o_storeN (vs := [(Value.string s_1536), (Value.string s_1537), (Value.slice A_1565 n_1566 c_1567)]) Try.sizeOf93 (et (v := (Value.pointer (some ⟨w.heap.size, 0 + i * 3, none⟩))) rfl) (et (v := (Value.agg #[(Value.string s_1536), (Value.string s_1537), (Value.slice A_1565 n_1566 c_1567)])) rfl) rfl (by simp [one]) bx_1562 (by omega) ?_)
  intro w_1569 of_1570 bx_1571
  have hB_1574 := below_off hB_1560 of_1570 (by omega)
  have z_1575 := of_1570.size
  have rp_1576 := rp_1563.off of_1570 (fun hm => by have := hsg.bd _ hm; omega)
  have rp_1577 := rp_1555.off of_1570 (fun hm => by have := sg_1556.bd _ hm; omega)
  have ln_1572 : (splice ds (0 + i * 3) [(Value.string s_1536), (Value.string s_1537), (Value.slice A_1565 n_1566 c_1567)]).length = n * 3 := (len_splice (by simp; omega)).trans hdl
  refine l_nil ?_
  refine w_region ?_
  refine l_op wn (o_val (x_move (et (v := (Value.int .i64 (i : Int))) hs_1520)) ?_)
  refine l_op wn (o_val (x_add (et (v := (Value.int .i64 (i : Int))) rfl) ec (by omega)) ?_)
  refine l_op wn (o_val (x_assign (et (v := (Value.int .i64 ((i : Int) + 1))) rfl)) ?_)
  refine l_nil ?_
  have rr_1578 := rp_1577
  have ht := take_splice (k := 3) (vs := [(Value.string s_1536), (Value.string s_1537), (Value.slice A_1565 n_1566 c_1567)]) lt_1573 rfl
  have hf2 := RepFs.snoc _ rp_1576 rr_1578
  rw [← take_snoc hx_1531] at hf2
  rw [← ht] at hf2
  exact ⟨n - (i + 1), by omega, ⟨i + 1, (splice ds (0 + i * 3) [(Value.string s_1536), (Value.string s_1537), (Value.slice A_1565 n_1566 c_1567)]), _, hs_1518, hs_1519, vint (a := ((i : Int) + 1)) (by omega), hB_1574, (by omega), (bx_1571), (ln_1572), (hf2), ((seg_app hsg sg_1556 (by omega)).mono (by omega) (by omega)), rfl⟩⟩
theorem to_Node_all : ∀ k, To_Node k
  | 0 => fun w x cs F ok hr hb hc => absurd hc (by have := cnt_pos x; omega)
  | k + 1 => to_Node_of k (to_NodeS_of k (to_Node_all k))
theorem to_NodeS (w : World) (xs : List V) (A : Option Addr) (n c : Nat) (F : List Nat) (ok : Oks xs tNode) (hr : Rep w (.list xs) [.slice A n c] F) (hb : V.bulk (.list xs) ≤ 1048576) : Calls Try.prog 26 #[.slice A n c] w (Ret1 w (.list xs)) := to_NodeS_of _ (to_Node_all _) w xs A n c F ok hr hb (Nat.le_refl _)
theorem to_Node (w : World) (x : V) (cs : List Value) (F : List Nat) (ok : Ok x tNode) (hr : Rep w x cs F) (hb : V.bulk x ≤ 1048576) : Calls Try.prog 55 #[.agg cs.toArray] w (RetS w x) := to_Node_all _ w x cs F ok hr hb (Nat.le_refl _)

def To_EditS (k : Nat) : Prop := ∀ (w : World) (xs : List V) (A : Option Addr) (n c : Nat) (F : List Nat) (ok : Oks xs tEdit) (hr : Rep w (.list xs) [.slice A n c] F) (hb : V.bulk (.list xs) ≤ 1048576) (hc : V.cnts xs ≤ k), Calls Try.prog 93 #[.slice A n c] w (Ret1 w (.list xs))
def To_Edit (k : Nat) : Prop := ∀ (w : World) (x : V) (cs : List Value) (F : List Nat) (ok : Ok x tEdit) (hr : Rep w x cs F) (hb : V.bulk x ≤ 1048576) (hc : V.cnt x ≤ k), Calls Try.prog 102 #[.agg cs.toArray] w (RetS w x)
set_option maxHeartbeats 200000 in
theorem to_Edit_of (k : Nat) (ih : To_EditS k) : To_Edit (k + 1) := by
  intro w x cs F ok hr hb hc
  obtain ⟨i_1579, s_1580, s_1581, xs_1582, A_1583, n_1584, c_1585, F_1586, rfl, rfl, rfl, bd_1591, bd_1592, bd_1593, ok_1594, hr_1595, ln_1596⟩ := open_Edit ok hr
  have hbk : V.bulk (.agg [.int i_1579, .str s_1580, .str s_1581, .list xs_1582]) = s_1580.size + s_1581.size + V.bulk (.list xs_1582) := by simp only [V.bulk, V.bulks] <;> omega
  have hck : V.cnts xs_1582 < V.cnt (.agg [.int i_1579, .str s_1580, .str s_1581, .list xs_1582]) := by simp only [V.cnt, V.cnts]; omega
  have hB0 := Below.refl w.heap.size w
  refine enter (N := 18) Try.func102 rfl Try.ntmps102 rfl ?_
  refine w_seq ?_
  refine w_region ?_
  refine l_op wn (o_new (x_box (cs := [(Value.int .i64 i_1579), (Value.string s_1580), (Value.string s_1581), (Value.slice A_1583 n_1584 c_1585)]) (et (v := (Value.agg #[(Value.int .i64 i_1579), (Value.string s_1580), (Value.string s_1581), (Value.slice A_1583 n_1584 c_1585)])) rfl)) ?_)
  intro w_1597 z_1598 k_1599 bx_1600
  have hB_1601 := below_next hB0 k_1599 (by omega)
  refine l_op wn (o_new (x_alloc (cs := [(Value.int .i64 0), (Value.string (⟨#[]⟩)), (Value.string (⟨#[]⟩)), (Value.slice none 0 0)]) Try.zeroValue146) ?_)
  intro w_1602 z_1603 k_1604 bx_1605
  have hB_1606 := below_next hB_1601 k_1604 (by omega)
  have bx_1607 := bx_1600.below k_1604
  refine l_nil ?_
  refine w_seq ?_
  refine w_region ?_
  refine l_op wn (o_new (x_alloc (cs := [(Value.int .i64 0), (Value.string (⟨#[]⟩)), (Value.string (⟨#[]⟩)), (Value.slice none 0 0)]) Try.zeroValue146) ?_)
  intro w_1608 z_1609 k_1610 bx_1611
  have hB_1612 := below_next hB_1606 k_1610 (by omega)
  have bx_1613 := bx_1607.below k_1610
  have bx_1614 := bx_1605.below k_1610
  refine l_nil ?_
  refine w_seq ?_
  refine w_region ?_
  refine l_op wn (o_val (x_field (k := 0) (j := 0) Try.underlying155 rfl Try.sizeOf3 rfl (et (v := (Value.pointer (some ⟨w.heap.size, 0, none⟩))) rfl)) ?_)
  refine l_op wn (o_val (x_load (v := (Value.int .i64 i_1579)) Try.isAgg3 (et (v := (Value.pointer (some ⟨w.heap.size, 0, none⟩))) rfl) ((bx_1613.cell 0).trans rfl)) ?_)
  refine l_op wn (o_val (x_field (k := 0) (j := 0) Try.underlying146 rfl Try.sizeOf3 rfl (et (v := (Value.pointer (some ⟨w_1602.heap.size, 0, none⟩))) rfl)) ?_)
  refine l_op wn (o_store Try.sizeOf3 (et (v := (Value.pointer (some ⟨w_1602.heap.size, 0, none⟩))) rfl) (et (v := (Value.int .i64 i_1579)) rfl) rfl bx_1611 rfl ?_)
  intro w_1615 of_1616 bx_1617
  have bx_1618 : Blk w_1615 w_1602.heap.size 146 [(Value.int .i64 i_1579), (Value.string (⟨#[]⟩)), (Value.string (⟨#[]⟩)), (Value.slice none 0 0)] := bx_1617
  have hB_1619 := below_off hB_1612 of_1616 (by omega)
  have z_1620 := of_1616.size
  have bx_1621 := bx_1613.off of_1616 (by omega)
  have bx_1622 := bx_1614.off of_1616 (by omega)
  refine l_nil ?_
  refine w_seq ?_
  refine w_region ?_
  refine l_op wn (o_val (x_field (k := 0) (j := 1) Try.underlying155 rfl Try.sizeOf9 rfl (et (v := (Value.pointer (some ⟨w.heap.size, 0, none⟩))) rfl)) ?_)
  refine l_op wn (o_val (x_load (v := (Value.string s_1580)) Try.isAgg9 (et (v := (Value.pointer (some ⟨w.heap.size, 1, none⟩))) rfl) ((bx_1621.cell 1).trans rfl)) ?_)
  refine l_op wn (o_val (x_field (k := 0) (j := 1) Try.underlying146 rfl Try.sizeOf9 rfl (et (v := (Value.pointer (some ⟨w_1602.heap.size, 0, none⟩))) rfl)) ?_)
  refine l_op wn (o_store Try.sizeOf9 (et (v := (Value.pointer (some ⟨w_1602.heap.size, 1, none⟩))) rfl) (et (v := (Value.string s_1580)) rfl) rfl bx_1618 rfl ?_)
  intro w_1623 of_1624 bx_1625
  have bx_1626 : Blk w_1623 w_1602.heap.size 146 [(Value.int .i64 i_1579), (Value.string s_1580), (Value.string (⟨#[]⟩)), (Value.slice none 0 0)] := bx_1625
  have hB_1627 := below_off hB_1619 of_1624 (by omega)
  have z_1628 := of_1624.size
  have bx_1629 := bx_1621.off of_1624 (by omega)
  have bx_1630 := bx_1622.off of_1624 (by omega)
  refine l_nil ?_
  refine w_seq ?_
  refine w_region ?_
  refine l_op wn (o_val (x_field (k := 0) (j := 2) Try.underlying155 rfl Try.sizeOf9 rfl (et (v := (Value.pointer (some ⟨w.heap.size, 0, none⟩))) rfl)) ?_)
  refine l_op wn (o_val (x_load (v := (Value.string s_1581)) Try.isAgg9 (et (v := (Value.pointer (some ⟨w.heap.size, 2, none⟩))) rfl) ((bx_1629.cell 2).trans rfl)) ?_)
  refine l_op wn (o_val (x_field (k := 0) (j := 2) Try.underlying146 rfl Try.sizeOf9 rfl (et (v := (Value.pointer (some ⟨w_1602.heap.size, 0, none⟩))) rfl)) ?_)
  refine l_op wn (o_store Try.sizeOf9 (et (v := (Value.pointer (some ⟨w_1602.heap.size, 2, none⟩))) rfl) (et (v := (Value.string s_1581)) rfl) rfl bx_1626 rfl ?_)
  intro w_1631 of_1632 bx_1633
  have bx_1634 : Blk w_1631 w_1602.heap.size 146 [(Value.int .i64 i_1579), (Value.string s_1580), (Value.string s_1581), (Value.slice none 0 0)] := bx_1633
  have hB_1635 := below_off hB_1627 of_1632 (by omega)
  have z_1636 := of_1632.size
  have bx_1637 := bx_1629.off of_1632 (by omega)
  have bx_1638 := bx_1630.off of_1632 (by omega)
  refine l_nil ?_
  refine w_seq ?_
  refine w_region ?_
  refine l_op wn (o_val (x_field (k := 0) (j := 3) Try.underlying155 rfl Try.sizeOf112 rfl (et (v := (Value.pointer (some ⟨w.heap.size, 0, none⟩))) rfl)) ?_)
  refine l_op wn (o_val (x_load (v := (Value.slice A_1583 n_1584 c_1585)) Try.isAgg112 (et (v := (Value.pointer (some ⟨w.heap.size, 3, none⟩))) rfl) ((bx_1637.cell 3).trans rfl)) ?_)
  refine l_op wn (o_call (x_call Try.call93 ef (a1 (et (v := (Value.slice A_1583 n_1584 c_1585)) rfl))) (ih w_1631 xs_1582 A_1583 n_1584 c_1585 _ ok_1594 (hr_1595.below hB_1635) (by omega) (by omega)) ?_)
  rintro _ w_1639 ⟨c_1640, F_1641, rfl, rp_1642, sg_1643, k_1644⟩
  obtain ⟨A_1645, n_1646, c_1647, e_c_1640, ln_1648⟩ := rp_1642.list_inv
  simp only [List.cons.injEq, and_true] at e_c_1640
  subst e_c_1640
  have hB_1649 := below_next hB_1635 k_1644 (by omega)
  have z_1650 := k_1644.size
  have bx_1651 := bx_1637.below k_1644
  have bx_1652 := bx_1638.below k_1644
  have bx_1653 := bx_1634.below k_1644
  refine ⟨_, rfl, ?_⟩
  refine l_op wn (o_val (x_field (k := 0) (j := 3) Try.underlying146 rfl Try.sizeOf83 rfl (et (v := (Value.pointer (some ⟨w_1602.heap.size, 0, none⟩))) rfl)) ?_)
  refine l_op wn (o_store Try.sizeOf83 (et (v := (Value.pointer (some ⟨w_1602.heap.size, 3, none⟩))) rfl) (et (v := (Value.slice A_1645 n_1646 c_1647)) rfl) rfl bx_1653 rfl ?_)
  intro w_1655 of_1656 bx_1657
  have bx_1658 : Blk w_1655 w_1602.heap.size 146 [(Value.int .i64 i_1579), (Value.string s_1580), (Value.string s_1581), (Value.slice A_1645 n_1646 c_1647)] := bx_1657
  have hB_1659 := below_off hB_1649 of_1656 (by omega)
  have z_1660 := of_1656.size
  have bx_1661 := bx_1651.off of_1656 (by omega)
  have bx_1662 := bx_1652.off of_1656 (by omega)
  have rp_1663 := rp_1642.off of_1656 (fun hm => by have := sg_1643.bd _ hm; omega)
  refine l_nil ?_
  refine w_seq ?_
  refine w_region ?_
  refine l_op wn (o_val (x_loadN (cs := [(Value.int .i64 i_1579), (Value.string s_1580), (Value.string s_1581), (Value.slice A_1645 n_1646 c_1647)]) Try.isAgg146 Try.sizeOf146 (et (v := (Value.pointer (some ⟨w_1602.heap.size, 0, none⟩))) rfl) rfl (bx_1658.lies)) ?_)
  refine l_op wn (o_storeN (vs := [(Value.int .i64 i_1579), (Value.string s_1580), (Value.string s_1581), (Value.slice A_1645 n_1646 c_1647)]) Try.sizeOf146 (et (v := (Value.pointer (some ⟨w_1597.heap.size, 0, none⟩))) rfl) (et (v := (Value.agg #[(Value.int .i64 i_1579), (Value.string s_1580), (Value.string s_1581), (Value.slice A_1645 n_1646 c_1647)])) rfl) rfl (by simp [one]) bx_1662 (by simp) ?_)
  intro w_1664 of_1665 bx_1666
  have bx_1667 : Blk w_1664 w_1597.heap.size 146 [(Value.int .i64 i_1579), (Value.string s_1580), (Value.string s_1581), (Value.slice A_1645 n_1646 c_1647)] := bx_1666
  have hB_1668 := below_off hB_1659 of_1665 (by omega)
  have z_1669 := of_1665.size
  have bx_1670 := bx_1661.off of_1665 (by omega)
  have bx_1671 := bx_1658.off of_1665 (by omega)
  have rp_1672 := rp_1663.off of_1665 (fun hm => by have := sg_1643.bd _ hm; omega)
  refine l_nil ?_
  refine w_ret ?_
  have rr_1673 := (ragg (rcons (rint (w := w_1664) (n := i_1579) bd_1591) (rcons (rstr (w := w_1664) (n := s_1580) bd_1592) (rcons (rstr (w := w_1664) (n := s_1581) bd_1593) (rcons rp_1672 (rnil (w := w_1664)))))))
  exact ⟨_, r_cell Try.results102 rfl Try.isAgg146 Try.sizeOf146 rfl bx_1667, _, _, rfl, rr_1673, ((seg_skip (seg_skip (seg_skip (seg_app sg_1643 (seg_nil (lo := w_1664.heap.size) (hi := w_1664.heap.size) (Nat.le_refl _)) (by omega)))))).mono (by omega) (by omega), hB_1668⟩

set_option maxHeartbeats 200000 in
theorem to_EditS_of (k : Nat) (ih : To_Edit k) : To_EditS k := by
  intro w xs A n c F ok hr hb hc
  have hB0 := Below.refl w.heap.size w
  obtain ⟨ln, lc, lm⟩ := hr.len
  have hn20 : n ≤ 1048576 := by have := bulk_list xs; omega
  refine enter (N := 23) Try.func93 rfl Try.ntmps93 rfl ?_
  refine w_seq ?_
  refine w_region ?_
  refine l_op wn (o_val (x_assign ec) ?_)
  refine l_nil ?_
  refine w_seq ?_
  refine w_region ?_
  refine l_op wn (o_val (x_move (et (v := (Value.slice A n c)) rfl)) ?_)
  refine l_op wn (o_val (x_len Try.underlying112 (et (v := (Value.slice A n c)) rfl)) ?_)
  refine l_op wn (o_make Try.underlying83 info146 (et (v := (Value.int .i64 (n : Int))) rfl) (by omega) (by omega) ?_)
  intro w_1674 cs_1675 z_1676 k_1677 bx_1678 ln_1679
  have hB_1680 := below_next hB0 k_1677 (by omega)
  refine l_op wn (o_val (x_assign (et (v := (Value.slice (some ⟨w.heap.size, 0, none⟩) n n)) rfl)) ?_)
  refine l_nil ?_
  refine w_seq ?_
  refine w_seq ?_
  refine w_region ?_
  refine l_op wn (o_val (x_assign ec) ?_)
  refine l_nil ?_
  refine w_block ?_
  refine w_loop (fun μ f w' => ∃ (i : Nat), ∃ (ds : List Value), ∃ (G : List Nat), f 0 = (Value.slice A n c) ∧ f 3 = (Value.slice (some ⟨w.heap.size, 0, none⟩) n n) ∧ f 4 = (Value.int .i64 (i : Int)) ∧ Below w.heap.size w w' ∧ (i ≤ n) ∧ (Blk w' w.heap.size 146 ds) ∧ (ds.length = n * 4) ∧ (RepFs w' (xs.take i) (ds.take (i * 4)) G) ∧ (Seg G (w.heap.size + 1) (w').heap.size) ∧ μ = n - i) (n - 0) ?_ ?_
  · exact ⟨0, cs_1675, [], rfl, rfl, vint (a := 0) (by omega), hB_1680, (by omega), (bx_1678), (ln_1679), (by simp [RepFs]), (seg_nil (by omega)), rfl⟩
  rintro m_1683 f_1681 w_1682 ⟨i, ds, G, hs_1685, hs_1686, hs_1687, hB_1684, hi, hrow, hdl, hfs, hsg, rfl⟩
  have z_1688 := hB_1684.size
  have zrow := hrow.lt
  refine w_seq ?_
  refine w_seq ?_
  refine w_region ?_
  refine l_op wn (o_val (x_move (et (v := (Value.int .i64 (i : Int))) hs_1687)) ?_)
  refine l_op wn (o_val (x_move (et (v := (Value.slice A n c)) hs_1685)) ?_)
  refine l_op wn (o_val (x_len Try.underlying112 (et (v := (Value.slice A n c)) rfl)) ?_)
  by_cases h_1689 : (i : Int) < (n : Int)
  rotate_left
  · refine l_op wn (o_val (x_lss (r := false) (et (v := (Value.int .i64 (i : Int))) rfl) (et (v := (Value.int .i64 (n : Int))) rfl) (dec_f h_1689)) ?_)
    refine l_nil ?_
    refine w_if_f (et (v := (Value.bool false)) rfl) ?_
    refine w_exit ?_
    refine Eq.mpr (if_pos rfl) ?_
    refine w_seq ?_
    refine w_region ?_
    refine l_op wn (o_val (x_move (et (v := (Value.slice (some ⟨w.heap.size, 0, none⟩) n n)) hs_1686)) ?_)
    refine l_op wn (o_val (x_assign (et (v := (Value.slice (some ⟨w.heap.size, 0, none⟩) n n)) rfl)) ?_)
    refine l_nil ?_
    refine w_ret ?_
    have en : n = i := by omega
    subst en
    have hf4 := hfs
    rw [ln, List.take_length, ← ln, List.take_of_length_le (by omega)] at hf4
    exact ⟨_, r_tmp (v := (Value.slice (some ⟨w.heap.size, 0, none⟩) n n)) Try.results93 rfl, _, _, rfl, row_rep hrow hf4 ln (Nat.le_refl _) (by omega), row_seg hsg (by omega), hB_1684⟩
  refine l_op wn (o_val (x_lss (r := true) (et (v := (Value.int .i64 (i : Int))) rfl) (et (v := (Value.int .i64 (n : Int))) rfl) (dec_t h_1689)) ?_)
  refine l_nil ?_
  refine w_if_t (et (v := (Value.bool true)) rfl) ?_
  refine w_skip ?_
  refine w_seq ?_
  refine w_block ?_
  refine w_region ?_
  refine l_op wn (o_val (x_move (et (v := (Value.slice (some ⟨w.heap.size, 0, none⟩) n n)) hs_1686)) ?_)
  refine l_op wn (o_val (x_move (et (v := (Value.int .i64 (i : Int))) hs_1687)) ?_)
  refine l_op wn (o_val (x_move (et (v := (Value.slice A n c)) hs_1685)) ?_)
  refine l_op wn (o_val (x_move (et (v := (Value.int .i64 (i : Int))) hs_1687)) ?_)
  obtain ⟨b_1690, o_1691, x_1692, cs_1693, G_1694, hA_1695, hbF_1696, hlt_1697, hx_1698, hrx_1699, hG_1700, hl_1701, hcl_1702⟩ := hr.elem (k := 4) (fun y hy => wd_Edit (ok.mem y hy)) (i := i) (by omega)
  obtain ⟨i_1703, s_1704, s_1705, xs_1706, A_1707, n_1708, c_1709, F_1710, rfl, rfl, rfl, bd_1715, bd_1716, bd_1717, ok_1718, hr_1719, ln_1720⟩ := open_Edit (ok.get hx_1698) hrx_1699
  refine l_op wn (o_val (x_index' (i := i) Try.underlying112 Try.sizeOf155 (et (v := (Value.slice A n c)) rfl) hA_1695 (et (v := (Value.int .i64 (i : Int))) rfl) (by omega) (by omega)) ?_)
  refine l_op wn (o_val (x_loadN (cs := [(Value.int .i64 i_1703), (Value.string s_1704), (Value.string s_1705), (Value.slice A_1707 n_1708 c_1709)]) Try.isAgg155 Try.sizeOf155 (et (v := (Value.pointer (some ⟨b_1690, o_1691 + i * 4, none⟩))) rfl) rfl ((hl_1701.keep (hB_1684.block _ hlt_1697)))) ?_)
  have rr_1728 := (ragg (rcons (rint (w := w_1682) (n := i_1703) bd_1715) (rcons (rstr (w := w_1682) (n := s_1704) bd_1716) (rcons (rstr (w := w_1682) (n := s_1705) bd_1717) (rcons (hr_1719.below hB_1684) (rnil (w := w_1682)))))))
  refine l_op wn (o_call (x_call Try.call102 ef (a1 (et (v := (Value.agg #[(Value.int .i64 i_1703), (Value.string s_1704), (Value.string s_1705), (Value.slice A_1707 n_1708 c_1709)])) rfl))) (ih w_1682 (.agg [.int i_1703, .str s_1704, .str s_1705, .list xs_1706]) [(Value.int .i64 i_1703), (Value.string s_1704), (Value.string s_1705), (Value.slice A_1707 n_1708 c_1709)] _ (ok_agg rfl (okz_cons (ok_int rfl) (okz_cons (ok_str rfl) (okz_cons (ok_str rfl) (okz_cons (ok_list rfl ok_1718) okz_nil))))) rr_1728 (by have bs := bulks_step hx_1698; have := bulk_list xs; omega) (by have := cnt_mem hx_1698; omega)) ?_)
  rintro _ w_1721 ⟨cs_1727, F_1723, rfl, rp_1724, sg_1725, k_1726⟩
  have hB_1729 := below_next hB_1684 k_1726 (by omega)
  have z_1730 := k_1726.size
  have bx_1731 := hrow.below k_1726
  have rp_1732 := hfs.below k_1726
  obtain ⟨A_1734, n_1735, c_1736, F_1737, rfl⟩ := cells_Edit rp_1724
  refine ⟨_, rfl, ?_⟩
  refine l_op wn (o_val (x_index (i := i) Try.underlying83 Try.sizeOf146 (et (v := (Value.slice (some ⟨w.heap.size, 0, none⟩) n n)) rfl) (et (v := (Value.int .i64 (i : Int))) rfl) (by omega) (by omega)) ?_)
  have lt_1742 : i * 4 + 4 ≤ (ds).length := by rw [hdl]; omega
  refine l_op wn (o_storeN (vs := [(Value.int .i64 i_1703), (Value.string s_1704), (Value.string s_1705), (Value.slice A_1734 n_1735 c_1736)]) Try.sizeOf146 (et (v := (Value.pointer (some ⟨w.heap.size, 0 + i * 4, none⟩))) rfl) (et (v := (Value.agg #[(Value.int .i64 i_1703), (Value.string s_1704), (Value.string s_1705), (Value.slice A_1734 n_1735 c_1736)])) rfl) rfl (by simp [one]) bx_1731 (by omega) ?_)
  intro w_1738 of_1739 bx_1740
  have hB_1743 := below_off hB_1729 of_1739 (by omega)
  have z_1744 := of_1739.size
  have rp_1745 := rp_1732.off of_1739 (fun hm => by have := hsg.bd _ hm; omega)
  have rp_1746 := rp_1724.off of_1739 (fun hm => by have := sg_1725.bd _ hm; omega)
  have ln_1741 : (splice ds (0 + i * 4) [(Value.int .i64 i_1703), (Value.string s_1704), (Value.string s_1705), (Value.slice A_1734 n_1735 c_1736)]).length = n * 4 := (len_splice (by simp; omega)).trans hdl
  refine l_nil ?_
  refine w_region ?_
  refine l_op wn (o_val (x_move (et (v := (Value.int .i64 (i : Int))) hs_1687)) ?_)
  refine l_op wn (o_val (x_add (et (v := (Value.int .i64 (i : Int))) rfl) ec (by omega)) ?_)
  refine l_op wn (o_val (x_assign (et (v := (Value.int .i64 ((i : Int) + 1))) rfl)) ?_)
  refine l_nil ?_
  have rr_1747 := rp_1746
  have ht := take_splice (k := 4) (vs := [(Value.int .i64 i_1703), (Value.string s_1704), (Value.string s_1705), (Value.slice A_1734 n_1735 c_1736)]) lt_1742 rfl
  have hf2 := RepFs.snoc _ rp_1745 rr_1747
  rw [← take_snoc hx_1698] at hf2
  rw [← ht] at hf2
  exact ⟨n - (i + 1), by omega, ⟨i + 1, (splice ds (0 + i * 4) [(Value.int .i64 i_1703), (Value.string s_1704), (Value.string s_1705), (Value.slice A_1734 n_1735 c_1736)]), _, hs_1685, hs_1686, vint (a := ((i : Int) + 1)) (by omega), hB_1743, (by omega), (bx_1740), (ln_1741), (hf2), ((seg_app hsg sg_1725 (by omega)).mono (by omega) (by omega)), rfl⟩⟩
theorem to_Edit_all : ∀ k, To_Edit k
  | 0 => fun w x cs F ok hr hb hc => absurd hc (by have := cnt_pos x; omega)
  | k + 1 => to_Edit_of k (to_EditS_of k (to_Edit_all k))
theorem to_EditS (w : World) (xs : List V) (A : Option Addr) (n c : Nat) (F : List Nat) (ok : Oks xs tEdit) (hr : Rep w (.list xs) [.slice A n c] F) (hb : V.bulk (.list xs) ≤ 1048576) : Calls Try.prog 93 #[.slice A n c] w (Ret1 w (.list xs)) := to_EditS_of _ (to_Edit_all _) w xs A n c F ok hr hb (Nat.le_refl _)
theorem to_Edit (w : World) (x : V) (cs : List Value) (F : List Nat) (ok : Ok x tEdit) (hr : Rep w x cs F) (hb : V.bulk x ≤ 1048576) : Calls Try.prog 102 #[.agg cs.toArray] w (RetS w x) := to_Edit_all _ w x cs F ok hr hb (Nat.le_refl _)

set_option maxHeartbeats 200000 in
theorem to_Change (w : World) (x : V) (cs : List Value) (F : List Nat) (ok : Ok x tChange) (hr : Rep w x cs F) (hb : V.bulk x ≤ 1048576) : Calls Try.prog 79 #[.agg cs.toArray] w (RetS w x) := by
  obtain ⟨i_1748, i_1749, xs_1750, A_1751, n_1752, c_1753, F_1754, rfl, rfl, rfl, bd_1759, bd_1760, ok_1761, hr_1762, ln_1763⟩ := open_Change ok hr
  have hbk : V.bulk (.agg [.int i_1748, .int i_1749, .list xs_1750]) = V.bulk (.list xs_1750) := by simp only [V.bulk, V.bulks] <;> omega
  have hB0 := Below.refl w.heap.size w
  refine enter (N := 15) Try.func79 rfl Try.ntmps79 rfl ?_
  refine w_seq ?_
  refine w_region ?_
  refine l_op wn (o_new (x_box (cs := [(Value.int .i64 i_1748), (Value.int .i64 i_1749), (Value.slice A_1751 n_1752 c_1753)]) (et (v := (Value.agg #[(Value.int .i64 i_1748), (Value.int .i64 i_1749), (Value.slice A_1751 n_1752 c_1753)])) rfl)) ?_)
  intro w_1764 z_1765 k_1766 bx_1767
  have hB_1768 := below_next hB0 k_1766 (by omega)
  refine l_op wn (o_new (x_alloc (cs := [(Value.int .i64 0), (Value.int .i64 0), (Value.slice none 0 0)]) Try.zeroValue85) ?_)
  intro w_1769 z_1770 k_1771 bx_1772
  have hB_1773 := below_next hB_1768 k_1771 (by omega)
  have bx_1774 := bx_1767.below k_1771
  refine l_nil ?_
  refine w_seq ?_
  refine w_region ?_
  refine l_op wn (o_new (x_alloc (cs := [(Value.int .i64 0), (Value.int .i64 0), (Value.slice none 0 0)]) Try.zeroValue85) ?_)
  intro w_1775 z_1776 k_1777 bx_1778
  have hB_1779 := below_next hB_1773 k_1777 (by omega)
  have bx_1780 := bx_1774.below k_1777
  have bx_1781 := bx_1772.below k_1777
  refine l_nil ?_
  refine w_seq ?_
  refine w_region ?_
  refine l_op wn (o_val (x_field (k := 0) (j := 0) Try.underlying114 rfl Try.sizeOf3 rfl (et (v := (Value.pointer (some ⟨w.heap.size, 0, none⟩))) rfl)) ?_)
  refine l_op wn (o_val (x_load (v := (Value.int .i64 i_1748)) Try.isAgg3 (et (v := (Value.pointer (some ⟨w.heap.size, 0, none⟩))) rfl) ((bx_1780.cell 0).trans rfl)) ?_)
  refine l_op wn (o_val (x_field (k := 0) (j := 0) Try.underlying85 rfl Try.sizeOf3 rfl (et (v := (Value.pointer (some ⟨w_1769.heap.size, 0, none⟩))) rfl)) ?_)
  refine l_op wn (o_store Try.sizeOf3 (et (v := (Value.pointer (some ⟨w_1769.heap.size, 0, none⟩))) rfl) (et (v := (Value.int .i64 i_1748)) rfl) rfl bx_1778 rfl ?_)
  intro w_1782 of_1783 bx_1784
  have bx_1785 : Blk w_1782 w_1769.heap.size 85 [(Value.int .i64 i_1748), (Value.int .i64 0), (Value.slice none 0 0)] := bx_1784
  have hB_1786 := below_off hB_1779 of_1783 (by omega)
  have z_1787 := of_1783.size
  have bx_1788 := bx_1780.off of_1783 (by omega)
  have bx_1789 := bx_1781.off of_1783 (by omega)
  refine l_nil ?_
  refine w_seq ?_
  refine w_region ?_
  refine l_op wn (o_val (x_field (k := 0) (j := 1) Try.underlying114 rfl Try.sizeOf3 rfl (et (v := (Value.pointer (some ⟨w.heap.size, 0, none⟩))) rfl)) ?_)
  refine l_op wn (o_val (x_load (v := (Value.int .i64 i_1749)) Try.isAgg3 (et (v := (Value.pointer (some ⟨w.heap.size, 1, none⟩))) rfl) ((bx_1788.cell 1).trans rfl)) ?_)
  refine l_op wn (o_val (x_field (k := 0) (j := 1) Try.underlying85 rfl Try.sizeOf3 rfl (et (v := (Value.pointer (some ⟨w_1769.heap.size, 0, none⟩))) rfl)) ?_)
  refine l_op wn (o_store Try.sizeOf3 (et (v := (Value.pointer (some ⟨w_1769.heap.size, 1, none⟩))) rfl) (et (v := (Value.int .i64 i_1749)) rfl) rfl bx_1785 rfl ?_)
  intro w_1790 of_1791 bx_1792
  have bx_1793 : Blk w_1790 w_1769.heap.size 85 [(Value.int .i64 i_1748), (Value.int .i64 i_1749), (Value.slice none 0 0)] := bx_1792
  have hB_1794 := below_off hB_1786 of_1791 (by omega)
  have z_1795 := of_1791.size
  have bx_1796 := bx_1788.off of_1791 (by omega)
  have bx_1797 := bx_1789.off of_1791 (by omega)
  refine l_nil ?_
  refine w_seq ?_
  refine w_region ?_
  refine l_op wn (o_val (x_field (k := 0) (j := 2) Try.underlying114 rfl Try.sizeOf112 rfl (et (v := (Value.pointer (some ⟨w.heap.size, 0, none⟩))) rfl)) ?_)
  refine l_op wn (o_val (x_load (v := (Value.slice A_1751 n_1752 c_1753)) Try.isAgg112 (et (v := (Value.pointer (some ⟨w.heap.size, 2, none⟩))) rfl) ((bx_1796.cell 2).trans rfl)) ?_)
  refine l_op wn (o_call (x_call Try.call93 ef (a1 (et (v := (Value.slice A_1751 n_1752 c_1753)) rfl))) (to_EditS w_1790 xs_1750 A_1751 n_1752 c_1753 _ ok_1761 (hr_1762.below hB_1794) (by omega)) ?_)
  rintro _ w_1798 ⟨c_1799, F_1800, rfl, rp_1801, sg_1802, k_1803⟩
  obtain ⟨A_1804, n_1805, c_1806, e_c_1799, ln_1807⟩ := rp_1801.list_inv
  simp only [List.cons.injEq, and_true] at e_c_1799
  subst e_c_1799
  have hB_1808 := below_next hB_1794 k_1803 (by omega)
  have z_1809 := k_1803.size
  have bx_1810 := bx_1796.below k_1803
  have bx_1811 := bx_1797.below k_1803
  have bx_1812 := bx_1793.below k_1803
  refine ⟨_, rfl, ?_⟩
  refine l_op wn (o_val (x_field (k := 0) (j := 2) Try.underlying85 rfl Try.sizeOf83 rfl (et (v := (Value.pointer (some ⟨w_1769.heap.size, 0, none⟩))) rfl)) ?_)
  refine l_op wn (o_store Try.sizeOf83 (et (v := (Value.pointer (some ⟨w_1769.heap.size, 2, none⟩))) rfl) (et (v := (Value.slice A_1804 n_1805 c_1806)) rfl) rfl bx_1812 rfl ?_)
  intro w_1814 of_1815 bx_1816
  have bx_1817 : Blk w_1814 w_1769.heap.size 85 [(Value.int .i64 i_1748), (Value.int .i64 i_1749), (Value.slice A_1804 n_1805 c_1806)] := bx_1816
  have hB_1818 := below_off hB_1808 of_1815 (by omega)
  have z_1819 := of_1815.size
  have bx_1820 := bx_1810.off of_1815 (by omega)
  have bx_1821 := bx_1811.off of_1815 (by omega)
  have rp_1822 := rp_1801.off of_1815 (fun hm => by have := sg_1802.bd _ hm; omega)
  refine l_nil ?_
  refine w_seq ?_
  refine w_region ?_
  refine l_op wn (o_val (x_loadN (cs := [(Value.int .i64 i_1748), (Value.int .i64 i_1749), (Value.slice A_1804 n_1805 c_1806)]) Try.isAgg85 Try.sizeOf85 (et (v := (Value.pointer (some ⟨w_1769.heap.size, 0, none⟩))) rfl) rfl (bx_1817.lies)) ?_)
  refine l_op wn (o_storeN (vs := [(Value.int .i64 i_1748), (Value.int .i64 i_1749), (Value.slice A_1804 n_1805 c_1806)]) Try.sizeOf85 (et (v := (Value.pointer (some ⟨w_1764.heap.size, 0, none⟩))) rfl) (et (v := (Value.agg #[(Value.int .i64 i_1748), (Value.int .i64 i_1749), (Value.slice A_1804 n_1805 c_1806)])) rfl) rfl (by simp [one]) bx_1821 (by simp) ?_)
  intro w_1823 of_1824 bx_1825
  have bx_1826 : Blk w_1823 w_1764.heap.size 85 [(Value.int .i64 i_1748), (Value.int .i64 i_1749), (Value.slice A_1804 n_1805 c_1806)] := bx_1825
  have hB_1827 := below_off hB_1818 of_1824 (by omega)
  have z_1828 := of_1824.size
  have bx_1829 := bx_1820.off of_1824 (by omega)
  have bx_1830 := bx_1817.off of_1824 (by omega)
  have rp_1831 := rp_1822.off of_1824 (fun hm => by have := sg_1802.bd _ hm; omega)
  refine l_nil ?_
  refine w_ret ?_
  have rr_1832 := (ragg (rcons (rint (w := w_1823) (n := i_1748) bd_1759) (rcons (rint (w := w_1823) (n := i_1749) bd_1760) (rcons rp_1831 (rnil (w := w_1823))))))
  exact ⟨_, r_cell Try.results79 rfl Try.isAgg85 Try.sizeOf85 rfl bx_1826, _, _, rfl, rr_1832, ((seg_skip (seg_skip (seg_app sg_1802 (seg_nil (lo := w_1823.heap.size) (hi := w_1823.heap.size) (Nat.le_refl _)) (by omega))))).mono (by omega) (by omega), hB_1827⟩

set_option maxHeartbeats 200000 in
theorem to_ChangeS (w : World) (xs : List V) (A : Option Addr) (n c : Nat) (F : List Nat) (ok : Oks xs tChange) (hr : Rep w (.list xs) [.slice A n c] F) (hb : V.bulk (.list xs) ≤ 1048576) : Calls Try.prog 51 #[.slice A n c] w (Ret1 w (.list xs)) := by
  have hB0 := Below.refl w.heap.size w
  obtain ⟨ln, lc, lm⟩ := hr.len
  have hn20 : n ≤ 1048576 := by have := bulk_list xs; omega
  refine enter (N := 23) Try.func51 rfl Try.ntmps51 rfl ?_
  refine w_seq ?_
  refine w_region ?_
  refine l_op wn (o_val (x_assign ec) ?_)
  refine l_nil ?_
  refine w_seq ?_
  refine w_region ?_
  refine l_op wn (o_val (x_move (et (v := (Value.slice A n c)) rfl)) ?_)
  refine l_op wn (o_val (x_len Try.underlying36 (et (v := (Value.slice A n c)) rfl)) ?_)
  refine l_op wn (o_make Try.underlying42 info85 (et (v := (Value.int .i64 (n : Int))) rfl) (by omega) (by omega) ?_)
  intro w_1833 cs_1834 z_1835 k_1836 bx_1837 ln_1838
  have hB_1839 := below_next hB0 k_1836 (by omega)
  refine l_op wn (o_val (x_assign (et (v := (Value.slice (some ⟨w.heap.size, 0, none⟩) n n)) rfl)) ?_)
  refine l_nil ?_
  refine w_seq ?_
  refine w_seq ?_
  refine w_region ?_
  refine l_op wn (o_val (x_assign ec) ?_)
  refine l_nil ?_
  refine w_block ?_
  refine w_loop (fun μ f w' => ∃ (i : Nat), ∃ (ds : List Value), ∃ (G : List Nat), f 0 = (Value.slice A n c) ∧ f 3 = (Value.slice (some ⟨w.heap.size, 0, none⟩) n n) ∧ f 4 = (Value.int .i64 (i : Int)) ∧ Below w.heap.size w w' ∧ (i ≤ n) ∧ (Blk w' w.heap.size 85 ds) ∧ (ds.length = n * 3) ∧ (RepFs w' (xs.take i) (ds.take (i * 3)) G) ∧ (Seg G (w.heap.size + 1) (w').heap.size) ∧ μ = n - i) (n - 0) ?_ ?_
  · exact ⟨0, cs_1834, [], rfl, rfl, vint (a := 0) (by omega), hB_1839, (by omega), (bx_1837), (ln_1838), (by simp [RepFs]), (seg_nil (by omega)), rfl⟩
  rintro m_1842 f_1840 w_1841 ⟨i, ds, G, hs_1844, hs_1845, hs_1846, hB_1843, hi, hrow, hdl, hfs, hsg, rfl⟩
  have z_1847 := hB_1843.size
  have zrow := hrow.lt
  refine w_seq ?_
  refine w_seq ?_
  refine w_region ?_
  refine l_op wn (o_val (x_move (et (v := (Value.int .i64 (i : Int))) hs_1846)) ?_)
  refine l_op wn (o_val (x_move (et (v := (Value.slice A n c)) hs_1844)) ?_)
  refine l_op wn (o_val (x_len Try.underlying36 (et (v := (Value.slice A n c)) rfl)) ?_)
  by_cases h_1848 : (i : Int) < (n : Int)
  rotate_left
  · refine l_op wn (o_val (x_lss (r := false) (et (v := (Value.int .i64 (i : Int))) rfl) (et (v := (Value.int .i64 (n : Int))) rfl) (dec_f h_1848)) ?_)
    refine l_nil ?_
    refine w_if_f (et (v := (Value.bool false)) rfl) ?_
    refine w_exit ?_
    refine Eq.mpr (if_pos rfl) ?_
    refine w_seq ?_
    refine w_region ?_
    refine l_op wn (o_val (x_move (et (v := (Value.slice (some ⟨w.heap.size, 0, none⟩) n n)) hs_1845)) ?_)
    refine l_op wn (o_val (x_assign (et (v := (Value.slice (some ⟨w.heap.size, 0, none⟩) n n)) rfl)) ?_)
    refine l_nil ?_
    refine w_ret ?_
    have en : n = i := by omega
    subst en
    have hf4 := hfs
    rw [ln, List.take_length, ← ln, List.take_of_length_le (by omega)] at hf4
    exact ⟨_, r_tmp (v := (Value.slice (some ⟨w.heap.size, 0, none⟩) n n)) Try.results51 rfl, _, _, rfl, row_rep hrow hf4 ln (Nat.le_refl _) (by omega), row_seg hsg (by omega), hB_1843⟩
  refine l_op wn (o_val (x_lss (r := true) (et (v := (Value.int .i64 (i : Int))) rfl) (et (v := (Value.int .i64 (n : Int))) rfl) (dec_t h_1848)) ?_)
  refine l_nil ?_
  refine w_if_t (et (v := (Value.bool true)) rfl) ?_
  refine w_skip ?_
  refine w_seq ?_
  refine w_block ?_
  refine w_region ?_
  refine l_op wn (o_val (x_move (et (v := (Value.slice (some ⟨w.heap.size, 0, none⟩) n n)) hs_1845)) ?_)
  refine l_op wn (o_val (x_move (et (v := (Value.int .i64 (i : Int))) hs_1846)) ?_)
  refine l_op wn (o_val (x_move (et (v := (Value.slice A n c)) hs_1844)) ?_)
  refine l_op wn (o_val (x_move (et (v := (Value.int .i64 (i : Int))) hs_1846)) ?_)
  obtain ⟨b_1849, o_1850, x_1851, cs_1852, G_1853, hA_1854, hbF_1855, hlt_1856, hx_1857, hrx_1858, hG_1859, hl_1860, hcl_1861⟩ := hr.elem (k := 3) (fun y hy => wd_Change (ok.mem y hy)) (i := i) (by omega)
  obtain ⟨i_1862, i_1863, xs_1864, A_1865, n_1866, c_1867, F_1868, rfl, rfl, rfl, bd_1873, bd_1874, ok_1875, hr_1876, ln_1877⟩ := open_Change (ok.get hx_1857) hrx_1858
  refine l_op wn (o_val (x_index' (i := i) Try.underlying36 Try.sizeOf114 (et (v := (Value.slice A n c)) rfl) hA_1854 (et (v := (Value.int .i64 (i : Int))) rfl) (by omega) (by omega)) ?_)
  refine l_op wn (o_val (x_loadN (cs := [(Value.int .i64 i_1862), (Value.int .i64 i_1863), (Value.slice A_1865 n_1866 c_1867)]) Try.isAgg114 Try.sizeOf114 (et (v := (Value.pointer (some ⟨b_1849, o_1850 + i * 3, none⟩))) rfl) rfl ((hl_1860.keep (hB_1843.block _ hlt_1856)))) ?_)
  have rr_1885 := (ragg (rcons (rint (w := w_1841) (n := i_1862) bd_1873) (rcons (rint (w := w_1841) (n := i_1863) bd_1874) (rcons (hr_1876.below hB_1843) (rnil (w := w_1841))))))
  refine l_op wn (o_call (x_call Try.call79 ef (a1 (et (v := (Value.agg #[(Value.int .i64 i_1862), (Value.int .i64 i_1863), (Value.slice A_1865 n_1866 c_1867)])) rfl))) (to_Change w_1841 (.agg [.int i_1862, .int i_1863, .list xs_1864]) [(Value.int .i64 i_1862), (Value.int .i64 i_1863), (Value.slice A_1865 n_1866 c_1867)] _ (ok_agg rfl (okz_cons (ok_int rfl) (okz_cons (ok_int rfl) (okz_cons (ok_list rfl ok_1875) okz_nil)))) rr_1885 (by have bs := bulks_step hx_1857; have := bulk_list xs; omega)) ?_)
  rintro _ w_1878 ⟨cs_1884, F_1880, rfl, rp_1881, sg_1882, k_1883⟩
  have hB_1886 := below_next hB_1843 k_1883 (by omega)
  have z_1887 := k_1883.size
  have bx_1888 := hrow.below k_1883
  have rp_1889 := hfs.below k_1883
  obtain ⟨A_1891, n_1892, c_1893, F_1894, rfl⟩ := cells_Change rp_1881
  refine ⟨_, rfl, ?_⟩
  refine l_op wn (o_val (x_index (i := i) Try.underlying42 Try.sizeOf85 (et (v := (Value.slice (some ⟨w.heap.size, 0, none⟩) n n)) rfl) (et (v := (Value.int .i64 (i : Int))) rfl) (by omega) (by omega)) ?_)
  have lt_1899 : i * 3 + 3 ≤ (ds).length := by rw [hdl]; omega
  refine l_op wn (o_storeN (vs := [(Value.int .i64 i_1862), (Value.int .i64 i_1863), (Value.slice A_1891 n_1892 c_1893)]) Try.sizeOf85 (et (v := (Value.pointer (some ⟨w.heap.size, 0 + i * 3, none⟩))) rfl) (et (v := (Value.agg #[(Value.int .i64 i_1862), (Value.int .i64 i_1863), (Value.slice A_1891 n_1892 c_1893)])) rfl) rfl (by simp [one]) bx_1888 (by omega) ?_)
  intro w_1895 of_1896 bx_1897
  have hB_1900 := below_off hB_1886 of_1896 (by omega)
  have z_1901 := of_1896.size
  have rp_1902 := rp_1889.off of_1896 (fun hm => by have := hsg.bd _ hm; omega)
  have rp_1903 := rp_1881.off of_1896 (fun hm => by have := sg_1882.bd _ hm; omega)
  have ln_1898 : (splice ds (0 + i * 3) [(Value.int .i64 i_1862), (Value.int .i64 i_1863), (Value.slice A_1891 n_1892 c_1893)]).length = n * 3 := (len_splice (by simp; omega)).trans hdl
  refine l_nil ?_
  refine w_region ?_
  refine l_op wn (o_val (x_move (et (v := (Value.int .i64 (i : Int))) hs_1846)) ?_)
  refine l_op wn (o_val (x_add (et (v := (Value.int .i64 (i : Int))) rfl) ec (by omega)) ?_)
  refine l_op wn (o_val (x_assign (et (v := (Value.int .i64 ((i : Int) + 1))) rfl)) ?_)
  refine l_nil ?_
  have rr_1904 := rp_1903
  have ht := take_splice (k := 3) (vs := [(Value.int .i64 i_1862), (Value.int .i64 i_1863), (Value.slice A_1891 n_1892 c_1893)]) lt_1899 rfl
  have hf2 := RepFs.snoc _ rp_1902 rr_1904
  rw [← take_snoc hx_1857] at hf2
  rw [← ht] at hf2
  exact ⟨n - (i + 1), by omega, ⟨i + 1, (splice ds (0 + i * 3) [(Value.int .i64 i_1862), (Value.int .i64 i_1863), (Value.slice A_1891 n_1892 c_1893)]), _, hs_1844, hs_1845, vint (a := ((i : Int) + 1)) (by omega), hB_1900, (by omega), (bx_1897), (ln_1898), (hf2), ((seg_app hsg sg_1882 (by omega)).mono (by omega) (by omega)), rfl⟩⟩

set_option maxHeartbeats 200000 in
theorem to_Journal (w : World) (x : V) (cs : List Value) (F : List Nat) (ok : Ok x tJournal) (hr : Rep w x cs F) (hb : V.bulk x ≤ 1048576) : Calls Try.prog 21 #[.agg cs.toArray] w (RetS w x) := by
  obtain ⟨xs_1905, A_1906, n_1907, c_1908, F_1909, xs_1911, A_1912, n_1913, c_1914, F_1915, rfl, rfl, rfl, ok_1920, hr_1921, ln_1922, ok_1923, hr_1924, ln_1925⟩ := open_Journal ok hr
  have hbk : V.bulk (.agg [.list xs_1905, .list xs_1911]) = V.bulk (.list xs_1905) + V.bulk (.list xs_1911) := by simp only [V.bulk, V.bulks] <;> omega
  have hB0 := Below.refl w.heap.size w
  refine enter (N := 13) Try.func21 rfl Try.ntmps21 rfl ?_
  refine w_seq ?_
  refine w_region ?_
  refine l_op wn (o_new (x_box (cs := [(Value.slice A_1906 n_1907 c_1908), (Value.slice A_1912 n_1913 c_1914)]) (et (v := (Value.agg #[(Value.slice A_1906 n_1907 c_1908), (Value.slice A_1912 n_1913 c_1914)])) rfl)) ?_)
  intro w_1926 z_1927 k_1928 bx_1929
  have hB_1930 := below_next hB0 k_1928 (by omega)
  refine l_op wn (o_new (x_alloc (cs := [(Value.slice none 0 0), (Value.slice none 0 0)]) Try.zeroValue44) ?_)
  intro w_1931 z_1932 k_1933 bx_1934
  have hB_1935 := below_next hB_1930 k_1933 (by omega)
  have bx_1936 := bx_1929.below k_1933
  refine l_nil ?_
  refine w_seq ?_
  refine w_region ?_
  refine l_op wn (o_new (x_alloc (cs := [(Value.slice none 0 0), (Value.slice none 0 0)]) Try.zeroValue44) ?_)
  intro w_1937 z_1938 k_1939 bx_1940
  have hB_1941 := below_next hB_1935 k_1939 (by omega)
  have bx_1942 := bx_1936.below k_1939
  have bx_1943 := bx_1934.below k_1939
  refine l_nil ?_
  refine w_seq ?_
  refine w_region ?_
  refine l_op wn (o_val (x_field (k := 0) (j := 0) Try.underlying38 rfl Try.sizeOf35 rfl (et (v := (Value.pointer (some ⟨w.heap.size, 0, none⟩))) rfl)) ?_)
  refine l_op wn (o_val (x_load (v := (Value.slice A_1906 n_1907 c_1908)) Try.isAgg35 (et (v := (Value.pointer (some ⟨w.heap.size, 0, none⟩))) rfl) ((bx_1942.cell 0).trans rfl)) ?_)
  refine l_op wn (o_call (x_call Try.call26 ef (a1 (et (v := (Value.slice A_1906 n_1907 c_1908)) rfl))) (to_NodeS w_1937 xs_1905 A_1906 n_1907 c_1908 _ ok_1920 (hr_1921.below hB_1941) (by omega)) ?_)
  rintro _ w_1944 ⟨c_1945, F_1946, rfl, rp_1947, sg_1948, k_1949⟩
  obtain ⟨A_1950, n_1951, c_1952, e_c_1945, ln_1953⟩ := rp_1947.list_inv
  simp only [List.cons.injEq, and_true] at e_c_1945
  subst e_c_1945
  have hB_1954 := below_next hB_1941 k_1949 (by omega)
  have z_1955 := k_1949.size
  have bx_1956 := bx_1942.below k_1949
  have bx_1957 := bx_1943.below k_1949
  have bx_1958 := bx_1940.below k_1949
  refine ⟨_, rfl, ?_⟩
  refine l_op wn (o_val (x_field (k := 0) (j := 0) Try.underlying44 rfl Try.sizeOf41 rfl (et (v := (Value.pointer (some ⟨w_1931.heap.size, 0, none⟩))) rfl)) ?_)
  refine l_op wn (o_store Try.sizeOf41 (et (v := (Value.pointer (some ⟨w_1931.heap.size, 0, none⟩))) rfl) (et (v := (Value.slice A_1950 n_1951 c_1952)) rfl) rfl bx_1958 rfl ?_)
  intro w_1960 of_1961 bx_1962
  have bx_1963 : Blk w_1960 w_1931.heap.size 44 [(Value.slice A_1950 n_1951 c_1952), (Value.slice none 0 0)] := bx_1962
  have hB_1964 := below_off hB_1954 of_1961 (by omega)
  have z_1965 := of_1961.size
  have bx_1966 := bx_1956.off of_1961 (by omega)
  have bx_1967 := bx_1957.off of_1961 (by omega)
  have rp_1968 := rp_1947.off of_1961 (fun hm => by have := sg_1948.bd _ hm; omega)
  refine l_nil ?_
  refine w_seq ?_
  refine w_region ?_
  refine l_op wn (o_val (x_field (k := 0) (j := 1) Try.underlying38 rfl Try.sizeOf36 rfl (et (v := (Value.pointer (some ⟨w.heap.size, 0, none⟩))) rfl)) ?_)
  refine l_op wn (o_val (x_load (v := (Value.slice A_1912 n_1913 c_1914)) Try.isAgg36 (et (v := (Value.pointer (some ⟨w.heap.size, 1, none⟩))) rfl) ((bx_1966.cell 1).trans rfl)) ?_)
  refine l_op wn (o_call (x_call Try.call51 ef (a1 (et (v := (Value.slice A_1912 n_1913 c_1914)) rfl))) (to_ChangeS w_1960 xs_1911 A_1912 n_1913 c_1914 _ ok_1923 (hr_1924.below hB_1964) (by omega)) ?_)
  rintro _ w_1969 ⟨c_1970, F_1971, rfl, rp_1972, sg_1973, k_1974⟩
  obtain ⟨A_1975, n_1976, c_1977, e_c_1970, ln_1978⟩ := rp_1972.list_inv
  simp only [List.cons.injEq, and_true] at e_c_1970
  subst e_c_1970
  have hB_1979 := below_next hB_1964 k_1974 (by omega)
  have z_1980 := k_1974.size
  have bx_1981 := bx_1966.below k_1974
  have bx_1982 := bx_1967.below k_1974
  have bx_1983 := bx_1963.below k_1974
  have rp_1984 := rp_1968.below k_1974
  refine ⟨_, rfl, ?_⟩
  refine l_op wn (o_val (x_field (k := 0) (j := 1) Try.underlying44 rfl Try.sizeOf42 rfl (et (v := (Value.pointer (some ⟨w_1931.heap.size, 0, none⟩))) rfl)) ?_)
  refine l_op wn (o_store Try.sizeOf42 (et (v := (Value.pointer (some ⟨w_1931.heap.size, 1, none⟩))) rfl) (et (v := (Value.slice A_1975 n_1976 c_1977)) rfl) rfl bx_1983 rfl ?_)
  intro w_1986 of_1987 bx_1988
  have bx_1989 : Blk w_1986 w_1931.heap.size 44 [(Value.slice A_1950 n_1951 c_1952), (Value.slice A_1975 n_1976 c_1977)] := bx_1988
  have hB_1990 := below_off hB_1979 of_1987 (by omega)
  have z_1991 := of_1987.size
  have bx_1992 := bx_1981.off of_1987 (by omega)
  have bx_1993 := bx_1982.off of_1987 (by omega)
  have rp_1994 := rp_1984.off of_1987 (fun hm => by have := sg_1948.bd _ hm; omega)
  have rp_1995 := rp_1972.off of_1987 (fun hm => by have := sg_1973.bd _ hm; omega)
  refine l_nil ?_
  refine w_seq ?_
  refine w_region ?_
  refine l_op wn (o_val (x_loadN (cs := [(Value.slice A_1950 n_1951 c_1952), (Value.slice A_1975 n_1976 c_1977)]) Try.isAgg44 Try.sizeOf44 (et (v := (Value.pointer (some ⟨w_1931.heap.size, 0, none⟩))) rfl) rfl (bx_1989.lies)) ?_)
  refine l_op wn (o_storeN (vs := [(Value.slice A_1950 n_1951 c_1952), (Value.slice A_1975 n_1976 c_1977)]) Try.sizeOf44 (et (v := (Value.pointer (some ⟨w_1926.heap.size, 0, none⟩))) rfl) (et (v := (Value.agg #[(Value.slice A_1950 n_1951 c_1952), (Value.slice A_1975 n_1976 c_1977)])) rfl) rfl (by simp [one]) bx_1993 (by simp) ?_)
  intro w_1996 of_1997 bx_1998
  have bx_1999 : Blk w_1996 w_1926.heap.size 44 [(Value.slice A_1950 n_1951 c_1952), (Value.slice A_1975 n_1976 c_1977)] := bx_1998
  have hB_2000 := below_off hB_1990 of_1997 (by omega)
  have z_2001 := of_1997.size
  have bx_2002 := bx_1992.off of_1997 (by omega)
  have bx_2003 := bx_1989.off of_1997 (by omega)
  have rp_2004 := rp_1994.off of_1997 (fun hm => by have := sg_1948.bd _ hm; omega)
  have rp_2005 := rp_1995.off of_1997 (fun hm => by have := sg_1973.bd _ hm; omega)
  refine l_nil ?_
  refine w_ret ?_
  have rr_2006 := (ragg (rcons rp_2004 (rcons rp_2005 (rnil (w := w_1996)))))
  exact ⟨_, r_cell Try.results21 rfl Try.isAgg44 Try.sizeOf44 rfl bx_1999, _, _, rfl, rr_2006, ((seg_app sg_1948 (seg_app sg_1973 (seg_nil (lo := w_1996.heap.size) (hi := w_1996.heap.size) (Nat.le_refl _)) (by omega)) (by omega))).mono (by omega) (by omega), hB_2000⟩

set_option maxHeartbeats 200000 in
theorem to_Range (w : World) (x : V) (cs : List Value) (F : List Nat) (ok : Ok x tRange) (hr : Rep w x cs F) (hb : V.bulk x ≤ 1048576) : Calls Try.prog 111 #[.agg cs.toArray] w (RetS w x) := by
  obtain ⟨i_2007, i_2008, rfl, rfl, rfl, bd_2012, bd_2013⟩ := open_Range ok hr
  have hbk : V.bulk (.agg [.int i_2007, .int i_2008]) = 0 := by simp only [V.bulk, V.bulks] <;> omega
  have hB0 := Below.refl w.heap.size w
  refine enter (N := 11) Try.func111 rfl Try.ntmps111 rfl ?_
  refine w_seq ?_
  refine w_region ?_
  refine l_op wn (o_new (x_box (cs := [(Value.int .i64 i_2007), (Value.int .i64 i_2008)]) (et (v := (Value.agg #[(Value.int .i64 i_2007), (Value.int .i64 i_2008)])) rfl)) ?_)
  intro w_2014 z_2015 k_2016 bx_2017
  have hB_2018 := below_next hB0 k_2016 (by omega)
  refine l_op wn (o_new (x_alloc (cs := [(Value.int .i64 0), (Value.int .i64 0)]) Try.zeroValue176) ?_)
  intro w_2019 z_2020 k_2021 bx_2022
  have hB_2023 := below_next hB_2018 k_2021 (by omega)
  have bx_2024 := bx_2017.below k_2021
  refine l_nil ?_
  refine w_seq ?_
  refine w_region ?_
  refine l_op wn (o_new (x_alloc (cs := [(Value.int .i64 0), (Value.int .i64 0)]) Try.zeroValue176) ?_)
  intro w_2025 z_2026 k_2027 bx_2028
  have hB_2029 := below_next hB_2023 k_2027 (by omega)
  have bx_2030 := bx_2024.below k_2027
  have bx_2031 := bx_2022.below k_2027
  refine l_nil ?_
  refine w_seq ?_
  refine w_region ?_
  refine l_op wn (o_val (x_field (k := 0) (j := 0) Try.underlying178 rfl Try.sizeOf3 rfl (et (v := (Value.pointer (some ⟨w.heap.size, 0, none⟩))) rfl)) ?_)
  refine l_op wn (o_val (x_load (v := (Value.int .i64 i_2007)) Try.isAgg3 (et (v := (Value.pointer (some ⟨w.heap.size, 0, none⟩))) rfl) ((bx_2030.cell 0).trans rfl)) ?_)
  refine l_op wn (o_val (x_field (k := 0) (j := 0) Try.underlying176 rfl Try.sizeOf3 rfl (et (v := (Value.pointer (some ⟨w_2019.heap.size, 0, none⟩))) rfl)) ?_)
  refine l_op wn (o_store Try.sizeOf3 (et (v := (Value.pointer (some ⟨w_2019.heap.size, 0, none⟩))) rfl) (et (v := (Value.int .i64 i_2007)) rfl) rfl bx_2028 rfl ?_)
  intro w_2032 of_2033 bx_2034
  have bx_2035 : Blk w_2032 w_2019.heap.size 176 [(Value.int .i64 i_2007), (Value.int .i64 0)] := bx_2034
  have hB_2036 := below_off hB_2029 of_2033 (by omega)
  have z_2037 := of_2033.size
  have bx_2038 := bx_2030.off of_2033 (by omega)
  have bx_2039 := bx_2031.off of_2033 (by omega)
  refine l_nil ?_
  refine w_seq ?_
  refine w_region ?_
  refine l_op wn (o_val (x_field (k := 0) (j := 1) Try.underlying178 rfl Try.sizeOf3 rfl (et (v := (Value.pointer (some ⟨w.heap.size, 0, none⟩))) rfl)) ?_)
  refine l_op wn (o_val (x_load (v := (Value.int .i64 i_2008)) Try.isAgg3 (et (v := (Value.pointer (some ⟨w.heap.size, 1, none⟩))) rfl) ((bx_2038.cell 1).trans rfl)) ?_)
  refine l_op wn (o_val (x_field (k := 0) (j := 1) Try.underlying176 rfl Try.sizeOf3 rfl (et (v := (Value.pointer (some ⟨w_2019.heap.size, 0, none⟩))) rfl)) ?_)
  refine l_op wn (o_store Try.sizeOf3 (et (v := (Value.pointer (some ⟨w_2019.heap.size, 1, none⟩))) rfl) (et (v := (Value.int .i64 i_2008)) rfl) rfl bx_2035 rfl ?_)
  intro w_2040 of_2041 bx_2042
  have bx_2043 : Blk w_2040 w_2019.heap.size 176 [(Value.int .i64 i_2007), (Value.int .i64 i_2008)] := bx_2042
  have hB_2044 := below_off hB_2036 of_2041 (by omega)
  have z_2045 := of_2041.size
  have bx_2046 := bx_2038.off of_2041 (by omega)
  have bx_2047 := bx_2039.off of_2041 (by omega)
  refine l_nil ?_
  refine w_seq ?_
  refine w_region ?_
  refine l_op wn (o_val (x_loadN (cs := [(Value.int .i64 i_2007), (Value.int .i64 i_2008)]) Try.isAgg176 Try.sizeOf176 (et (v := (Value.pointer (some ⟨w_2019.heap.size, 0, none⟩))) rfl) rfl (bx_2043.lies)) ?_)
  refine l_op wn (o_storeN (vs := [(Value.int .i64 i_2007), (Value.int .i64 i_2008)]) Try.sizeOf176 (et (v := (Value.pointer (some ⟨w_2014.heap.size, 0, none⟩))) rfl) (et (v := (Value.agg #[(Value.int .i64 i_2007), (Value.int .i64 i_2008)])) rfl) rfl (by simp [one]) bx_2047 (by simp) ?_)
  intro w_2048 of_2049 bx_2050
  have bx_2051 : Blk w_2048 w_2014.heap.size 176 [(Value.int .i64 i_2007), (Value.int .i64 i_2008)] := bx_2050
  have hB_2052 := below_off hB_2044 of_2049 (by omega)
  have z_2053 := of_2049.size
  have bx_2054 := bx_2046.off of_2049 (by omega)
  have bx_2055 := bx_2043.off of_2049 (by omega)
  refine l_nil ?_
  refine w_ret ?_
  have rr_2056 := (ragg (rcons (rint (w := w_2048) (n := i_2007) bd_2012) (rcons (rint (w := w_2048) (n := i_2008) bd_2013) (rnil (w := w_2048)))))
  exact ⟨_, r_cell Try.results111 rfl Try.isAgg176 Try.sizeOf176 rfl bx_2051, _, _, rfl, rr_2056, ((seg_skip (seg_skip (seg_nil (lo := w_2048.heap.size) (hi := w_2048.heap.size) (Nat.le_refl _))))).mono (by omega) (by omega), hB_2052⟩

set_option maxHeartbeats 200000 in
theorem to_RangeS (w : World) (xs : List V) (A : Option Addr) (n c : Nat) (F : List Nat) (ok : Oks xs tRange) (hr : Rep w (.list xs) [.slice A n c] F) (hb : V.bulk (.list xs) ≤ 1048576) : Calls Try.prog 106 #[.slice A n c] w (Ret1 w (.list xs)) := by
  have hB0 := Below.refl w.heap.size w
  obtain ⟨ln, lc, lm⟩ := hr.len
  have hn20 : n ≤ 1048576 := by have := bulk_list xs; omega
  refine enter (N := 23) Try.func106 rfl Try.ntmps106 rfl ?_
  refine w_seq ?_
  refine w_region ?_
  refine l_op wn (o_val (x_assign ec) ?_)
  refine l_nil ?_
  refine w_seq ?_
  refine w_region ?_
  refine l_op wn (o_val (x_move (et (v := (Value.slice A n c)) rfl)) ?_)
  refine l_op wn (o_val (x_len Try.underlying121 (et (v := (Value.slice A n c)) rfl)) ?_)
  refine l_op wn (o_make Try.underlying130 info176 (et (v := (Value.int .i64 (n : Int))) rfl) (by omega) (by omega) ?_)
  intro w_2057 cs_2058 z_2059 k_2060 bx_2061 ln_2062
  have hB_2063 := below_next hB0 k_2060 (by omega)
  refine l_op wn (o_val (x_assign (et (v := (Value.slice (some ⟨w.heap.size, 0, none⟩) n n)) rfl)) ?_)
  refine l_nil ?_
  refine w_seq ?_
  refine w_seq ?_
  refine w_region ?_
  refine l_op wn (o_val (x_assign ec) ?_)
  refine l_nil ?_
  refine w_block ?_
  refine w_loop (fun μ f w' => ∃ (i : Nat), ∃ (ds : List Value), ∃ (G : List Nat), f 0 = (Value.slice A n c) ∧ f 3 = (Value.slice (some ⟨w.heap.size, 0, none⟩) n n) ∧ f 4 = (Value.int .i64 (i : Int)) ∧ Below w.heap.size w w' ∧ (i ≤ n) ∧ (Blk w' w.heap.size 176 ds) ∧ (ds.length = n * 2) ∧ (RepFs w' (xs.take i) (ds.take (i * 2)) G) ∧ (Seg G (w.heap.size + 1) (w').heap.size) ∧ μ = n - i) (n - 0) ?_ ?_
  · exact ⟨0, cs_2058, [], rfl, rfl, vint (a := 0) (by omega), hB_2063, (by omega), (bx_2061), (ln_2062), (by simp [RepFs]), (seg_nil (by omega)), rfl⟩
  rintro m_2066 f_2064 w_2065 ⟨i, ds, G, hs_2068, hs_2069, hs_2070, hB_2067, hi, hrow, hdl, hfs, hsg, rfl⟩
  have z_2071 := hB_2067.size
  have zrow := hrow.lt
  refine w_seq ?_
  refine w_seq ?_
  refine w_region ?_
  refine l_op wn (o_val (x_move (et (v := (Value.int .i64 (i : Int))) hs_2070)) ?_)
  refine l_op wn (o_val (x_move (et (v := (Value.slice A n c)) hs_2068)) ?_)
  refine l_op wn (o_val (x_len Try.underlying121 (et (v := (Value.slice A n c)) rfl)) ?_)
  by_cases h_2072 : (i : Int) < (n : Int)
  rotate_left
  · refine l_op wn (o_val (x_lss (r := false) (et (v := (Value.int .i64 (i : Int))) rfl) (et (v := (Value.int .i64 (n : Int))) rfl) (dec_f h_2072)) ?_)
    refine l_nil ?_
    refine w_if_f (et (v := (Value.bool false)) rfl) ?_
    refine w_exit ?_
    refine Eq.mpr (if_pos rfl) ?_
    refine w_seq ?_
    refine w_region ?_
    refine l_op wn (o_val (x_move (et (v := (Value.slice (some ⟨w.heap.size, 0, none⟩) n n)) hs_2069)) ?_)
    refine l_op wn (o_val (x_assign (et (v := (Value.slice (some ⟨w.heap.size, 0, none⟩) n n)) rfl)) ?_)
    refine l_nil ?_
    refine w_ret ?_
    have en : n = i := by omega
    subst en
    have hf4 := hfs
    rw [ln, List.take_length, ← ln, List.take_of_length_le (by omega)] at hf4
    exact ⟨_, r_tmp (v := (Value.slice (some ⟨w.heap.size, 0, none⟩) n n)) Try.results106 rfl, _, _, rfl, row_rep hrow hf4 ln (Nat.le_refl _) (by omega), row_seg hsg (by omega), hB_2067⟩
  refine l_op wn (o_val (x_lss (r := true) (et (v := (Value.int .i64 (i : Int))) rfl) (et (v := (Value.int .i64 (n : Int))) rfl) (dec_t h_2072)) ?_)
  refine l_nil ?_
  refine w_if_t (et (v := (Value.bool true)) rfl) ?_
  refine w_skip ?_
  refine w_seq ?_
  refine w_block ?_
  refine w_region ?_
  refine l_op wn (o_val (x_move (et (v := (Value.slice (some ⟨w.heap.size, 0, none⟩) n n)) hs_2069)) ?_)
  refine l_op wn (o_val (x_move (et (v := (Value.int .i64 (i : Int))) hs_2070)) ?_)
  refine l_op wn (o_val (x_move (et (v := (Value.slice A n c)) hs_2068)) ?_)
  refine l_op wn (o_val (x_move (et (v := (Value.int .i64 (i : Int))) hs_2070)) ?_)
  obtain ⟨b_2073, o_2074, x_2075, cs_2076, G_2077, hA_2078, hbF_2079, hlt_2080, hx_2081, hrx_2082, hG_2083, hl_2084, hcl_2085⟩ := hr.elem (k := 2) (fun y hy => wd_Range (ok.mem y hy)) (i := i) (by omega)
  obtain ⟨i_2086, i_2087, rfl, rfl, rfl, bd_2091, bd_2092⟩ := open_Range (ok.get hx_2081) hrx_2082
  refine l_op wn (o_val (x_index' (i := i) Try.underlying121 Try.sizeOf178 (et (v := (Value.slice A n c)) rfl) hA_2078 (et (v := (Value.int .i64 (i : Int))) rfl) (by omega) (by omega)) ?_)
  refine l_op wn (o_val (x_loadN (cs := [(Value.int .i64 i_2086), (Value.int .i64 i_2087)]) Try.isAgg178 Try.sizeOf178 (et (v := (Value.pointer (some ⟨b_2073, o_2074 + i * 2, none⟩))) rfl) rfl ((hl_2084.keep (hB_2067.block _ hlt_2080)))) ?_)
  have rr_2100 := (ragg (rcons (rint (w := w_2065) (n := i_2086) bd_2091) (rcons (rint (w := w_2065) (n := i_2087) bd_2092) (rnil (w := w_2065)))))
  refine l_op wn (o_call (x_call Try.call111 ef (a1 (et (v := (Value.agg #[(Value.int .i64 i_2086), (Value.int .i64 i_2087)])) rfl))) (to_Range w_2065 (.agg [.int i_2086, .int i_2087]) [(Value.int .i64 i_2086), (Value.int .i64 i_2087)] _ (ok_agg rfl (okz_cons (ok_int rfl) (okz_cons (ok_int rfl) okz_nil))) rr_2100 (by have bs := bulks_step hx_2081; have := bulk_list xs; omega)) ?_)
  rintro _ w_2093 ⟨cs_2099, F_2095, rfl, rp_2096, sg_2097, k_2098⟩
  have hB_2101 := below_next hB_2067 k_2098 (by omega)
  have z_2102 := k_2098.size
  have bx_2103 := hrow.below k_2098
  have rp_2104 := hfs.below k_2098
  obtain ⟨rfl⟩ := cells_Range rp_2096
  refine ⟨_, rfl, ?_⟩
  refine l_op wn (o_val (x_index (i := i) Try.underlying130 Try.sizeOf176 (et (v := (Value.slice (some ⟨w.heap.size, 0, none⟩) n n)) rfl) (et (v := (Value.int .i64 (i : Int))) rfl) (by omega) (by omega)) ?_)
  have lt_2110 : i * 2 + 2 ≤ (ds).length := by rw [hdl]; omega
  refine l_op wn (o_storeN (vs := [(Value.int .i64 i_2086), (Value.int .i64 i_2087)]) Try.sizeOf176 (et (v := (Value.pointer (some ⟨w.heap.size, 0 + i * 2, none⟩))) rfl) (et (v := (Value.agg #[(Value.int .i64 i_2086), (Value.int .i64 i_2087)])) rfl) rfl (by simp [one]) bx_2103 (by omega) ?_)
  intro w_2106 of_2107 bx_2108
  have hB_2111 := below_off hB_2101 of_2107 (by omega)
  have z_2112 := of_2107.size
  have rp_2113 := rp_2104.off of_2107 (fun hm => by have := hsg.bd _ hm; omega)
  have rp_2114 := rp_2096.off of_2107 (fun hm => by have := sg_2097.bd _ hm; omega)
  have ln_2109 : (splice ds (0 + i * 2) [(Value.int .i64 i_2086), (Value.int .i64 i_2087)]).length = n * 2 := (len_splice (by simp; omega)).trans hdl
  refine l_nil ?_
  refine w_region ?_
  refine l_op wn (o_val (x_move (et (v := (Value.int .i64 (i : Int))) hs_2070)) ?_)
  refine l_op wn (o_val (x_add (et (v := (Value.int .i64 (i : Int))) rfl) ec (by omega)) ?_)
  refine l_op wn (o_val (x_assign (et (v := (Value.int .i64 ((i : Int) + 1))) rfl)) ?_)
  refine l_nil ?_
  have rr_2115 := rp_2114
  have ht := take_splice (k := 2) (vs := [(Value.int .i64 i_2086), (Value.int .i64 i_2087)]) lt_2110 rfl
  have hf2 := RepFs.snoc _ rp_2113 rr_2115
  rw [← take_snoc hx_2081] at hf2
  rw [← ht] at hf2
  exact ⟨n - (i + 1), by omega, ⟨i + 1, (splice ds (0 + i * 2) [(Value.int .i64 i_2086), (Value.int .i64 i_2087)]), _, hs_2068, hs_2069, vint (a := ((i : Int) + 1)) (by omega), hB_2111, (by omega), (bx_2108), (ln_2109), (hf2), ((seg_app hsg sg_2097 (by omega)).mono (by omega) (by omega)), rfl⟩⟩

set_option maxHeartbeats 200000 in
theorem to_Type (w : World) (x : V) (cs : List Value) (F : List Nat) (ok : Ok x tType) (hr : Rep w x cs F) (hb : V.bulk x ≤ 1048576) : Calls Try.prog 97 #[.agg cs.toArray] w (RetS w x) := by
  obtain ⟨i_2116, xs_2117, A_2118, n_2119, c_2120, F_2121, xs_2123, A_2124, n_2125, c_2126, F_2127, s_2129, s_2130, rfl, rfl, rfl, bd_2134, ok_2135, hr_2136, ln_2137, ok_2138, hr_2139, ln_2140, bd_2141, bd_2142⟩ := open_Type ok hr
  have hbk : V.bulk (.agg [.int i_2116, .list xs_2117, .list xs_2123, .str s_2129, .str s_2130]) = V.bulk (.list xs_2117) + V.bulk (.list xs_2123) + s_2129.size + s_2130.size := by simp only [V.bulk, V.bulks] <;> omega
  have hB0 := Below.refl w.heap.size w
  refine enter (N := 22) Try.func97 rfl Try.ntmps97 rfl ?_
  refine w_seq ?_
  refine w_region ?_
  refine l_op wn (o_new (x_box (cs := [(Value.int .i64 i_2116), (Value.slice A_2118 n_2119 c_2120), (Value.slice A_2124 n_2125 c_2126), (Value.string s_2129), (Value.string s_2130)]) (et (v := (Value.agg #[(Value.int .i64 i_2116), (Value.slice A_2118 n_2119 c_2120), (Value.slice A_2124 n_2125 c_2126), (Value.string s_2129), (Value.string s_2130)])) rfl)) ?_)
  intro w_2143 z_2144 k_2145 bx_2146
  have hB_2147 := below_next hB0 k_2145 (by omega)
  refine l_op wn (o_new (x_alloc (cs := [(Value.int .i64 0), (Value.slice none 0 0), (Value.slice none 0 0), (Value.string (⟨#[]⟩)), (Value.string (⟨#[]⟩))]) Try.zeroValue132) ?_)
  intro w_2148 z_2149 k_2150 bx_2151
  have hB_2152 := below_next hB_2147 k_2150 (by omega)
  have bx_2153 := bx_2146.below k_2150
  refine l_nil ?_
  refine w_seq ?_
  refine w_region ?_
  refine l_op wn (o_new (x_alloc (cs := [(Value.int .i64 0), (Value.slice none 0 0), (Value.slice none 0 0), (Value.string (⟨#[]⟩)), (Value.string (⟨#[]⟩))]) Try.zeroValue132) ?_)
  intro w_2154 z_2155 k_2156 bx_2157
  have hB_2158 := below_next hB_2152 k_2156 (by omega)
  have bx_2159 := bx_2153.below k_2156
  have bx_2160 := bx_2151.below k_2156
  refine l_nil ?_
  refine w_seq ?_
  refine w_region ?_
  refine l_op wn (o_val (x_field (k := 0) (j := 0) Try.underlying123 rfl Try.sizeOf3 rfl (et (v := (Value.pointer (some ⟨w.heap.size, 0, none⟩))) rfl)) ?_)
  refine l_op wn (o_val (x_load (v := (Value.int .i64 i_2116)) Try.isAgg3 (et (v := (Value.pointer (some ⟨w.heap.size, 0, none⟩))) rfl) ((bx_2159.cell 0).trans rfl)) ?_)
  refine l_op wn (o_val (x_field (k := 0) (j := 0) Try.underlying132 rfl Try.sizeOf3 rfl (et (v := (Value.pointer (some ⟨w_2148.heap.size, 0, none⟩))) rfl)) ?_)
  refine l_op wn (o_store Try.sizeOf3 (et (v := (Value.pointer (some ⟨w_2148.heap.size, 0, none⟩))) rfl) (et (v := (Value.int .i64 i_2116)) rfl) rfl bx_2157 rfl ?_)
  intro w_2161 of_2162 bx_2163
  have bx_2164 : Blk w_2161 w_2148.heap.size 132 [(Value.int .i64 i_2116), (Value.slice none 0 0), (Value.slice none 0 0), (Value.string (⟨#[]⟩)), (Value.string (⟨#[]⟩))] := bx_2163
  have hB_2165 := below_off hB_2158 of_2162 (by omega)
  have z_2166 := of_2162.size
  have bx_2167 := bx_2159.off of_2162 (by omega)
  have bx_2168 := bx_2160.off of_2162 (by omega)
  refine l_nil ?_
  refine w_seq ?_
  refine w_region ?_
  refine l_op wn (o_val (x_field (k := 0) (j := 1) Try.underlying123 rfl Try.sizeOf121 rfl (et (v := (Value.pointer (some ⟨w.heap.size, 0, none⟩))) rfl)) ?_)
  refine l_op wn (o_val (x_load (v := (Value.slice A_2118 n_2119 c_2120)) Try.isAgg121 (et (v := (Value.pointer (some ⟨w.heap.size, 1, none⟩))) rfl) ((bx_2167.cell 1).trans rfl)) ?_)
  refine l_op wn (o_call (x_call Try.call106 ef (a1 (et (v := (Value.slice A_2118 n_2119 c_2120)) rfl))) (to_RangeS w_2161 xs_2117 A_2118 n_2119 c_2120 _ ok_2135 (hr_2136.below hB_2165) (by omega)) ?_)
  rintro _ w_2169 ⟨c_2170, F_2171, rfl, rp_2172, sg_2173, k_2174⟩
  obtain ⟨A_2175, n_2176, c_2177, e_c_2170, ln_2178⟩ := rp_2172.list_inv
  simp only [List.cons.injEq, and_true] at e_c_2170
  subst e_c_2170
  have hB_2179 := below_next hB_2165 k_2174 (by omega)
  have z_2180 := k_2174.size
  have bx_2181 := bx_2167.below k_2174
  have bx_2182 := bx_2168.below k_2174
  have bx_2183 := bx_2164.below k_2174
  refine ⟨_, rfl, ?_⟩
  refine l_op wn (o_val (x_field (k := 0) (j := 1) Try.underlying132 rfl Try.sizeOf130 rfl (et (v := (Value.pointer (some ⟨w_2148.heap.size, 0, none⟩))) rfl)) ?_)
  refine l_op wn (o_store Try.sizeOf130 (et (v := (Value.pointer (some ⟨w_2148.heap.size, 1, none⟩))) rfl) (et (v := (Value.slice A_2175 n_2176 c_2177)) rfl) rfl bx_2183 rfl ?_)
  intro w_2185 of_2186 bx_2187
  have bx_2188 : Blk w_2185 w_2148.heap.size 132 [(Value.int .i64 i_2116), (Value.slice A_2175 n_2176 c_2177), (Value.slice none 0 0), (Value.string (⟨#[]⟩)), (Value.string (⟨#[]⟩))] := bx_2187
  have hB_2189 := below_off hB_2179 of_2186 (by omega)
  have z_2190 := of_2186.size
  have bx_2191 := bx_2181.off of_2186 (by omega)
  have bx_2192 := bx_2182.off of_2186 (by omega)
  have rp_2193 := rp_2172.off of_2186 (fun hm => by have := sg_2173.bd _ hm; omega)
  refine l_nil ?_
  refine w_seq ?_
  refine w_region ?_
  refine l_op wn (o_val (x_field (k := 0) (j := 2) Try.underlying123 rfl Try.sizeOf29 rfl (et (v := (Value.pointer (some ⟨w.heap.size, 0, none⟩))) rfl)) ?_)
  refine l_op wn (o_val (x_load (v := (Value.slice A_2124 n_2125 c_2126)) Try.isAgg29 (et (v := (Value.pointer (some ⟨w.heap.size, 2, none⟩))) rfl) ((bx_2191.cell 2).trans rfl)) ?_)
  refine l_op wn (o_call (x_call Try.call16 ef (a1 (et (v := (Value.slice A_2124 n_2125 c_2126)) rfl))) (to_StrS w_2185 xs_2123 A_2124 n_2125 c_2126 _ ok_2138 (hr_2139.below hB_2189) (by omega)) ?_)
  rintro _ w_2194 ⟨c_2195, F_2196, rfl, rp_2197, sg_2198, k_2199⟩
  obtain ⟨A_2200, n_2201, c_2202, e_c_2195, ln_2203⟩ := rp_2197.list_inv
  simp only [List.cons.injEq, and_true] at e_c_2195
  subst e_c_2195
  have hB_2204 := below_next hB_2189 k_2199 (by omega)
  have z_2205 := k_2199.size
  have bx_2206 := bx_2191.below k_2199
  have bx_2207 := bx_2192.below k_2199
  have bx_2208 := bx_2188.below k_2199
  have rp_2209 := rp_2193.below k_2199
  refine ⟨_, rfl, ?_⟩
  refine l_op wn (o_val (x_field (k := 0) (j := 2) Try.underlying132 rfl Try.sizeOf29 rfl (et (v := (Value.pointer (some ⟨w_2148.heap.size, 0, none⟩))) rfl)) ?_)
  refine l_op wn (o_store Try.sizeOf29 (et (v := (Value.pointer (some ⟨w_2148.heap.size, 2, none⟩))) rfl) (et (v := (Value.slice A_2200 n_2201 c_2202)) rfl) rfl bx_2208 rfl ?_)
  intro w_2211 of_2212 bx_2213
  have bx_2214 : Blk w_2211 w_2148.heap.size 132 [(Value.int .i64 i_2116), (Value.slice A_2175 n_2176 c_2177), (Value.slice A_2200 n_2201 c_2202), (Value.string (⟨#[]⟩)), (Value.string (⟨#[]⟩))] := bx_2213
  have hB_2215 := below_off hB_2204 of_2212 (by omega)
  have z_2216 := of_2212.size
  have bx_2217 := bx_2206.off of_2212 (by omega)
  have bx_2218 := bx_2207.off of_2212 (by omega)
  have rp_2219 := rp_2209.off of_2212 (fun hm => by have := sg_2173.bd _ hm; omega)
  have rp_2220 := rp_2197.off of_2212 (fun hm => by have := sg_2198.bd _ hm; omega)
  refine l_nil ?_
  refine w_seq ?_
  refine w_region ?_
  refine l_op wn (o_val (x_field (k := 0) (j := 3) Try.underlying123 rfl Try.sizeOf9 rfl (et (v := (Value.pointer (some ⟨w.heap.size, 0, none⟩))) rfl)) ?_)
  refine l_op wn (o_val (x_load (v := (Value.string s_2129)) Try.isAgg9 (et (v := (Value.pointer (some ⟨w.heap.size, 3, none⟩))) rfl) ((bx_2217.cell 3).trans rfl)) ?_)
  refine l_op wn (o_val (x_field (k := 0) (j := 3) Try.underlying132 rfl Try.sizeOf9 rfl (et (v := (Value.pointer (some ⟨w_2148.heap.size, 0, none⟩))) rfl)) ?_)
  refine l_op wn (o_store Try.sizeOf9 (et (v := (Value.pointer (some ⟨w_2148.heap.size, 3, none⟩))) rfl) (et (v := (Value.string s_2129)) rfl) rfl bx_2214 rfl ?_)
  intro w_2221 of_2222 bx_2223
  have bx_2224 : Blk w_2221 w_2148.heap.size 132 [(Value.int .i64 i_2116), (Value.slice A_2175 n_2176 c_2177), (Value.slice A_2200 n_2201 c_2202), (Value.string s_2129), (Value.string (⟨#[]⟩))] := bx_2223
  have hB_2225 := below_off hB_2215 of_2222 (by omega)
  have z_2226 := of_2222.size
  have bx_2227 := bx_2217.off of_2222 (by omega)
  have bx_2228 := bx_2218.off of_2222 (by omega)
  have rp_2229 := rp_2219.off of_2222 (fun hm => by have := sg_2173.bd _ hm; omega)
  have rp_2230 := rp_2220.off of_2222 (fun hm => by have := sg_2198.bd _ hm; omega)
  refine l_nil ?_
  refine w_seq ?_
  refine w_region ?_
  refine l_op wn (o_val (x_field (k := 0) (j := 4) Try.underlying123 rfl Try.sizeOf9 rfl (et (v := (Value.pointer (some ⟨w.heap.size, 0, none⟩))) rfl)) ?_)
  refine l_op wn (o_val (x_load (v := (Value.string s_2130)) Try.isAgg9 (et (v := (Value.pointer (some ⟨w.heap.size, 4, none⟩))) rfl) ((bx_2227.cell 4).trans rfl)) ?_)
  refine l_op wn (o_val (x_field (k := 0) (j := 4) Try.underlying132 rfl Try.sizeOf9 rfl (et (v := (Value.pointer (some ⟨w_2148.heap.size, 0, none⟩))) rfl)) ?_)
  refine l_op wn (o_store Try.sizeOf9 (et (v := (Value.pointer (some ⟨w_2148.heap.size, 4, none⟩))) rfl) (et (v := (Value.string s_2130)) rfl) rfl bx_2224 rfl ?_)
  intro w_2231 of_2232 bx_2233
  have bx_2234 : Blk w_2231 w_2148.heap.size 132 [(Value.int .i64 i_2116), (Value.slice A_2175 n_2176 c_2177), (Value.slice A_2200 n_2201 c_2202), (Value.string s_2129), (Value.string s_2130)] := bx_2233
  have hB_2235 := below_off hB_2225 of_2232 (by omega)
  have z_2236 := of_2232.size
  have bx_2237 := bx_2227.off of_2232 (by omega)
  have bx_2238 := bx_2228.off of_2232 (by omega)
  have rp_2239 := rp_2229.off of_2232 (fun hm => by have := sg_2173.bd _ hm; omega)
  have rp_2240 := rp_2230.off of_2232 (fun hm => by have := sg_2198.bd _ hm; omega)
  refine l_nil ?_
  refine w_seq ?_
  refine w_region ?_
  refine l_op wn (o_val (x_loadN (cs := [(Value.int .i64 i_2116), (Value.slice A_2175 n_2176 c_2177), (Value.slice A_2200 n_2201 c_2202), (Value.string s_2129), (Value.string s_2130)]) Try.isAgg132 Try.sizeOf132 (et (v := (Value.pointer (some ⟨w_2148.heap.size, 0, none⟩))) rfl) rfl (bx_2234.lies)) ?_)
  refine l_op wn (o_storeN (vs := [(Value.int .i64 i_2116), (Value.slice A_2175 n_2176 c_2177), (Value.slice A_2200 n_2201 c_2202), (Value.string s_2129), (Value.string s_2130)]) Try.sizeOf132 (et (v := (Value.pointer (some ⟨w_2143.heap.size, 0, none⟩))) rfl) (et (v := (Value.agg #[(Value.int .i64 i_2116), (Value.slice A_2175 n_2176 c_2177), (Value.slice A_2200 n_2201 c_2202), (Value.string s_2129), (Value.string s_2130)])) rfl) rfl (by simp [one]) bx_2238 (by simp) ?_)
  intro w_2241 of_2242 bx_2243
  have bx_2244 : Blk w_2241 w_2143.heap.size 132 [(Value.int .i64 i_2116), (Value.slice A_2175 n_2176 c_2177), (Value.slice A_2200 n_2201 c_2202), (Value.string s_2129), (Value.string s_2130)] := bx_2243
  have hB_2245 := below_off hB_2235 of_2242 (by omega)
  have z_2246 := of_2242.size
  have bx_2247 := bx_2237.off of_2242 (by omega)
  have bx_2248 := bx_2234.off of_2242 (by omega)
  have rp_2249 := rp_2239.off of_2242 (fun hm => by have := sg_2173.bd _ hm; omega)
  have rp_2250 := rp_2240.off of_2242 (fun hm => by have := sg_2198.bd _ hm; omega)
  refine l_nil ?_
  refine w_ret ?_
  have rr_2251 := (ragg (rcons (rint (w := w_2241) (n := i_2116) bd_2134) (rcons rp_2249 (rcons rp_2250 (rcons (rstr (w := w_2241) (n := s_2129) bd_2141) (rcons (rstr (w := w_2241) (n := s_2130) bd_2142) (rnil (w := w_2241))))))))
  exact ⟨_, r_cell Try.results97 rfl Try.isAgg132 Try.sizeOf132 rfl bx_2244, _, _, rfl, rr_2251, ((seg_skip (seg_app sg_2173 (seg_app sg_2198 (seg_skip (seg_skip (seg_nil (lo := w_2241.heap.size) (hi := w_2241.heap.size) (Nat.le_refl _)))) (by omega)) (by omega)))).mono (by omega) (by omega), hB_2245⟩

set_option maxHeartbeats 200000 in
theorem to_Test (w : World) (x : V) (cs : List Value) (F : List Nat) (ok : Ok x tTest) (hr : Rep w x cs F) (hb : V.bulk x ≤ 1048576) : Calls Try.prog 125 #[.agg cs.toArray] w (RetS w x) := by
  obtain ⟨s_2252, s_2253, rfl, rfl, rfl, bd_2257, bd_2258⟩ := open_Test ok hr
  have hbk : V.bulk (.agg [.str s_2252, .str s_2253]) = s_2252.size + s_2253.size := by simp only [V.bulk, V.bulks] <;> omega
  have hB0 := Below.refl w.heap.size w
  refine enter (N := 11) Try.func125 rfl Try.ntmps125 rfl ?_
  refine w_seq ?_
  refine w_region ?_
  refine l_op wn (o_new (x_box (cs := [(Value.string s_2252), (Value.string s_2253)]) (et (v := (Value.agg #[(Value.string s_2252), (Value.string s_2253)])) rfl)) ?_)
  intro w_2259 z_2260 k_2261 bx_2262
  have hB_2263 := below_next hB0 k_2261 (by omega)
  refine l_op wn (o_new (x_alloc (cs := [(Value.string (⟨#[]⟩)), (Value.string (⟨#[]⟩))]) Try.zeroValue200) ?_)
  intro w_2264 z_2265 k_2266 bx_2267
  have hB_2268 := below_next hB_2263 k_2266 (by omega)
  have bx_2269 := bx_2262.below k_2266
  refine l_nil ?_
  refine w_seq ?_
  refine w_region ?_
  refine l_op wn (o_new (x_alloc (cs := [(Value.string (⟨#[]⟩)), (Value.string (⟨#[]⟩))]) Try.zeroValue200) ?_)
  intro w_2270 z_2271 k_2272 bx_2273
  have hB_2274 := below_next hB_2268 k_2272 (by omega)
  have bx_2275 := bx_2269.below k_2272
  have bx_2276 := bx_2267.below k_2272
  refine l_nil ?_
  refine w_seq ?_
  refine w_region ?_
  refine l_op wn (o_val (x_field (k := 0) (j := 0) Try.underlying199 rfl Try.sizeOf9 rfl (et (v := (Value.pointer (some ⟨w.heap.size, 0, none⟩))) rfl)) ?_)
  refine l_op wn (o_val (x_load (v := (Value.string s_2252)) Try.isAgg9 (et (v := (Value.pointer (some ⟨w.heap.size, 0, none⟩))) rfl) ((bx_2275.cell 0).trans rfl)) ?_)
  refine l_op wn (o_val (x_field (k := 0) (j := 0) Try.underlying200 rfl Try.sizeOf9 rfl (et (v := (Value.pointer (some ⟨w_2264.heap.size, 0, none⟩))) rfl)) ?_)
  refine l_op wn (o_store Try.sizeOf9 (et (v := (Value.pointer (some ⟨w_2264.heap.size, 0, none⟩))) rfl) (et (v := (Value.string s_2252)) rfl) rfl bx_2273 rfl ?_)
  intro w_2277 of_2278 bx_2279
  have bx_2280 : Blk w_2277 w_2264.heap.size 200 [(Value.string s_2252), (Value.string (⟨#[]⟩))] := bx_2279
  have hB_2281 := below_off hB_2274 of_2278 (by omega)
  have z_2282 := of_2278.size
  have bx_2283 := bx_2275.off of_2278 (by omega)
  have bx_2284 := bx_2276.off of_2278 (by omega)
  refine l_nil ?_
  refine w_seq ?_
  refine w_region ?_
  refine l_op wn (o_val (x_field (k := 0) (j := 1) Try.underlying199 rfl Try.sizeOf9 rfl (et (v := (Value.pointer (some ⟨w.heap.size, 0, none⟩))) rfl)) ?_)
  refine l_op wn (o_val (x_load (v := (Value.string s_2253)) Try.isAgg9 (et (v := (Value.pointer (some ⟨w.heap.size, 1, none⟩))) rfl) ((bx_2283.cell 1).trans rfl)) ?_)
  refine l_op wn (o_val (x_field (k := 0) (j := 1) Try.underlying200 rfl Try.sizeOf9 rfl (et (v := (Value.pointer (some ⟨w_2264.heap.size, 0, none⟩))) rfl)) ?_)
  refine l_op wn (o_store Try.sizeOf9 (et (v := (Value.pointer (some ⟨w_2264.heap.size, 1, none⟩))) rfl) (et (v := (Value.string s_2253)) rfl) rfl bx_2280 rfl ?_)
  intro w_2285 of_2286 bx_2287
  have bx_2288 : Blk w_2285 w_2264.heap.size 200 [(Value.string s_2252), (Value.string s_2253)] := bx_2287
  have hB_2289 := below_off hB_2281 of_2286 (by omega)
  have z_2290 := of_2286.size
  have bx_2291 := bx_2283.off of_2286 (by omega)
  have bx_2292 := bx_2284.off of_2286 (by omega)
  refine l_nil ?_
  refine w_seq ?_
  refine w_region ?_
  refine l_op wn (o_val (x_loadN (cs := [(Value.string s_2252), (Value.string s_2253)]) Try.isAgg200 Try.sizeOf200 (et (v := (Value.pointer (some ⟨w_2264.heap.size, 0, none⟩))) rfl) rfl (bx_2288.lies)) ?_)
  refine l_op wn (o_storeN (vs := [(Value.string s_2252), (Value.string s_2253)]) Try.sizeOf200 (et (v := (Value.pointer (some ⟨w_2259.heap.size, 0, none⟩))) rfl) (et (v := (Value.agg #[(Value.string s_2252), (Value.string s_2253)])) rfl) rfl (by simp [one]) bx_2292 (by simp) ?_)
  intro w_2293 of_2294 bx_2295
  have bx_2296 : Blk w_2293 w_2259.heap.size 200 [(Value.string s_2252), (Value.string s_2253)] := bx_2295
  have hB_2297 := below_off hB_2289 of_2294 (by omega)
  have z_2298 := of_2294.size
  have bx_2299 := bx_2291.off of_2294 (by omega)
  have bx_2300 := bx_2288.off of_2294 (by omega)
  refine l_nil ?_
  refine w_ret ?_
  have rr_2301 := (ragg (rcons (rstr (w := w_2293) (n := s_2252) bd_2257) (rcons (rstr (w := w_2293) (n := s_2253) bd_2258) (rnil (w := w_2293)))))
  exact ⟨_, r_cell Try.results125 rfl Try.isAgg200 Try.sizeOf200 rfl bx_2296, _, _, rfl, rr_2301, ((seg_skip (seg_skip (seg_nil (lo := w_2293.heap.size) (hi := w_2293.heap.size) (Nat.le_refl _))))).mono (by omega) (by omega), hB_2297⟩

set_option maxHeartbeats 200000 in
theorem to_TestS (w : World) (xs : List V) (A : Option Addr) (n c : Nat) (F : List Nat) (ok : Oks xs tTest) (hr : Rep w (.list xs) [.slice A n c] F) (hb : V.bulk (.list xs) ≤ 1048576) : Calls Try.prog 122 #[.slice A n c] w (Ret1 w (.list xs)) := by
  have hB0 := Below.refl w.heap.size w
  obtain ⟨ln, lc, lm⟩ := hr.len
  have hn20 : n ≤ 1048576 := by have := bulk_list xs; omega
  refine enter (N := 23) Try.func122 rfl Try.ntmps122 rfl ?_
  refine w_seq ?_
  refine w_region ?_
  refine l_op wn (o_val (x_assign ec) ?_)
  refine l_nil ?_
  refine w_seq ?_
  refine w_region ?_
  refine l_op wn (o_val (x_move (et (v := (Value.slice A n c)) rfl)) ?_)
  refine l_op wn (o_val (x_len Try.underlying186 (et (v := (Value.slice A n c)) rfl)) ?_)
  refine l_op wn (o_make Try.underlying189 info200 (et (v := (Value.int .i64 (n : Int))) rfl) (by omega) (by omega) ?_)
  intro w_2302 cs_2303 z_2304 k_2305 bx_2306 ln_2307
  have hB_2308 := below_next hB0 k_2305 (by omega)
  refine l_op wn (o_val (x_assign (et (v := (Value.slice (some ⟨w.heap.size, 0, none⟩) n n)) rfl)) ?_)
  refine l_nil ?_
  refine w_seq ?_
  refine w_seq ?_
  refine w_region ?_
  refine l_op wn (o_val (x_assign ec) ?_)
  refine l_nil ?_
  refine w_block ?_
  refine w_loop (fun μ f w' => ∃ (i : Nat), ∃ (ds : List Value), ∃ (G : List Nat), f 0 = (Value.slice A n c) ∧ f 3 = (Value.slice (some ⟨w.heap.size, 0, none⟩) n n) ∧ f 4 = (Value.int .i64 (i : Int)) ∧ Below w.heap.size w w' ∧ (i ≤ n) ∧ (Blk w' w.heap.size 200 ds) ∧ (ds.length = n * 2) ∧ (RepFs w' (xs.take i) (ds.take (i * 2)) G) ∧ (Seg G (w.heap.size + 1) (w').heap.size) ∧ μ = n - i) (n - 0) ?_ ?_
  · exact ⟨0, cs_2303, [], rfl, rfl, vint (a := 0) (by omega), hB_2308, (by omega), (bx_2306), (ln_2307), (by simp [RepFs]), (seg_nil (by omega)), rfl⟩
  rintro m_2311 f_2309 w_2310 ⟨i, ds, G, hs_2313, hs_2314, hs_2315, hB_2312, hi, hrow, hdl, hfs, hsg, rfl⟩
  have z_2316 := hB_2312.size
  have zrow := hrow.lt
  refine w_seq ?_
  refine w_seq ?_
  refine w_region ?_
  refine l_op wn (o_val (x_move (et (v := (Value.int .i64 (i : Int))) hs_2315)) ?_)
  refine l_op wn (o_val (x_move (et (v := (Value.slice A n c)) hs_2313)) ?_)
  refine l_op wn (o_val (x_len Try.underlying186 (et (v := (Value.slice A n c)) rfl)) ?_)
  by_cases h_2317 : (i : Int) < (n : Int)
  rotate_left
  · refine l_op wn (o_val (x_lss (r := false) (et (v := (Value.int .i64 (i : Int))) rfl) (et (v := (Value.int .i64 (n : Int))) rfl) (dec_f h_2317)) ?_)
    refine l_nil ?_
    refine w_if_f (et (v := (Value.bool false)) rfl) ?_
    refine w_exit ?_
    refine Eq.mpr (if_pos rfl) ?_
    refine w_seq ?_
    refine w_region ?_
    refine l_op wn (o_val (x_move (et (v := (Value.slice (some ⟨w.heap.size, 0, none⟩) n n)) hs_2314)) ?_)
    refine l_op wn (o_val (x_assign (et (v := (Value.slice (some ⟨w.heap.size, 0, none⟩) n n)) rfl)) ?_)
    refine l_nil ?_
    refine w_ret ?_
    have en : n = i := by omega
    subst en
    have hf4 := hfs
    rw [ln, List.take_length, ← ln, List.take_of_length_le (by omega)] at hf4
    exact ⟨_, r_tmp (v := (Value.slice (some ⟨w.heap.size, 0, none⟩) n n)) Try.results122 rfl, _, _, rfl, row_rep hrow hf4 ln (Nat.le_refl _) (by omega), row_seg hsg (by omega), hB_2312⟩
  refine l_op wn (o_val (x_lss (r := true) (et (v := (Value.int .i64 (i : Int))) rfl) (et (v := (Value.int .i64 (n : Int))) rfl) (dec_t h_2317)) ?_)
  refine l_nil ?_
  refine w_if_t (et (v := (Value.bool true)) rfl) ?_
  refine w_skip ?_
  refine w_seq ?_
  refine w_block ?_
  refine w_region ?_
  refine l_op wn (o_val (x_move (et (v := (Value.slice (some ⟨w.heap.size, 0, none⟩) n n)) hs_2314)) ?_)
  refine l_op wn (o_val (x_move (et (v := (Value.int .i64 (i : Int))) hs_2315)) ?_)
  refine l_op wn (o_val (x_move (et (v := (Value.slice A n c)) hs_2313)) ?_)
  refine l_op wn (o_val (x_move (et (v := (Value.int .i64 (i : Int))) hs_2315)) ?_)
  obtain ⟨b_2318, o_2319, x_2320, cs_2321, G_2322, hA_2323, hbF_2324, hlt_2325, hx_2326, hrx_2327, hG_2328, hl_2329, hcl_2330⟩ := hr.elem (k := 2) (fun y hy => wd_Test (ok.mem y hy)) (i := i) (by omega)
  obtain ⟨s_2331, s_2332, rfl, rfl, rfl, bd_2336, bd_2337⟩ := open_Test (ok.get hx_2326) hrx_2327
  refine l_op wn (o_val (x_index' (i := i) Try.underlying186 Try.sizeOf199 (et (v := (Value.slice A n c)) rfl) hA_2323 (et (v := (Value.int .i64 (i : Int))) rfl) (by omega) (by omega)) ?_)
  refine l_op wn (o_val (x_loadN (cs := [(Value.string s_2331), (Value.string s_2332)]) Try.isAgg199 Try.sizeOf199 (et (v := (Value.pointer (some ⟨b_2318, o_2319 + i * 2, none⟩))) rfl) rfl ((hl_2329.keep (hB_2312.block _ hlt_2325)))) ?_)
  have rr_2345 := (ragg (rcons (rstr (w := w_2310) (n := s_2331) bd_2336) (rcons (rstr (w := w_2310) (n := s_2332) bd_2337) (rnil (w := w_2310)))))
  refine l_op wn (o_call (x_call Try.call125 ef (a1 (et (v := (Value.agg #[(Value.string s_2331), (Value.string s_2332)])) rfl))) (to_Test w_2310 (.agg [.str s_2331, .str s_2332]) [(Value.string s_2331), (Value.string s_2332)] _ (ok_agg rfl (okz_cons (ok_str rfl) (okz_cons (ok_str rfl) okz_nil))) rr_2345 (by have bs := bulks_step hx_2326; have := bulk_list xs; omega)) ?_)
  rintro _ w_2338 ⟨cs_2344, F_2340, rfl, rp_2341, sg_2342, k_2343⟩
  have hB_2346 := below_next hB_2312 k_2343 (by omega)
  have z_2347 := k_2343.size
  have bx_2348 := hrow.below k_2343
  have rp_2349 := hfs.below k_2343
  obtain ⟨rfl⟩ := cells_Test rp_2341
  refine ⟨_, rfl, ?_⟩
  refine l_op wn (o_val (x_index (i := i) Try.underlying189 Try.sizeOf200 (et (v := (Value.slice (some ⟨w.heap.size, 0, none⟩) n n)) rfl) (et (v := (Value.int .i64 (i : Int))) rfl) (by omega) (by omega)) ?_)
  have lt_2355 : i * 2 + 2 ≤ (ds).length := by rw [hdl]; omega
  refine l_op wn (o_storeN (vs := [(Value.string s_2331), (Value.string s_2332)]) Try.sizeOf200 (et (v := (Value.pointer (some ⟨w.heap.size, 0 + i * 2, none⟩))) rfl) (et (v := (Value.agg #[(Value.string s_2331), (Value.string s_2332)])) rfl) rfl (by simp [one]) bx_2348 (by omega) ?_)
  intro w_2351 of_2352 bx_2353
  have hB_2356 := below_off hB_2346 of_2352 (by omega)
  have z_2357 := of_2352.size
  have rp_2358 := rp_2349.off of_2352 (fun hm => by have := hsg.bd _ hm; omega)
  have rp_2359 := rp_2341.off of_2352 (fun hm => by have := sg_2342.bd _ hm; omega)
  have ln_2354 : (splice ds (0 + i * 2) [(Value.string s_2331), (Value.string s_2332)]).length = n * 2 := (len_splice (by simp; omega)).trans hdl
  refine l_nil ?_
  refine w_region ?_
  refine l_op wn (o_val (x_move (et (v := (Value.int .i64 (i : Int))) hs_2315)) ?_)
  refine l_op wn (o_val (x_add (et (v := (Value.int .i64 (i : Int))) rfl) ec (by omega)) ?_)
  refine l_op wn (o_val (x_assign (et (v := (Value.int .i64 ((i : Int) + 1))) rfl)) ?_)
  refine l_nil ?_
  have rr_2360 := rp_2359
  have ht := take_splice (k := 2) (vs := [(Value.string s_2331), (Value.string s_2332)]) lt_2355 rfl
  have hf2 := RepFs.snoc _ rp_2358 rr_2360
  rw [← take_snoc hx_2326] at hf2
  rw [← ht] at hf2
  exact ⟨n - (i + 1), by omega, ⟨i + 1, (splice ds (0 + i * 2) [(Value.string s_2331), (Value.string s_2332)]), _, hs_2313, hs_2314, vint (a := ((i : Int) + 1)) (by omega), hB_2356, (by omega), (bx_2353), (ln_2354), (hf2), ((seg_app hsg sg_2342 (by omega)).mono (by omega) (by omega)), rfl⟩⟩

set_option maxHeartbeats 200000 in
theorem to_Step (w : World) (x : V) (cs : List Value) (F : List Nat) (ok : Ok x tStep) (hr : Rep w x cs F) (hb : V.bulk x ≤ 1048576) : Calls Try.prog 119 #[.agg cs.toArray] w (RetS w x) := by
  obtain ⟨s_2361, xs_2362, A_2363, n_2364, c_2365, F_2366, rfl, rfl, rfl, bd_2371, ok_2372, hr_2373, ln_2374⟩ := open_Step ok hr
  have hbk : V.bulk (.agg [.str s_2361, .list xs_2362]) = s_2361.size + V.bulk (.list xs_2362) := by simp only [V.bulk, V.bulks] <;> omega
  have hB0 := Below.refl w.heap.size w
  refine enter (N := 12) Try.func119 rfl Try.ntmps119 rfl ?_
  refine w_seq ?_
  refine w_region ?_
  refine l_op wn (o_new (x_box (cs := [(Value.string s_2361), (Value.slice A_2363 n_2364 c_2365)]) (et (v := (Value.agg #[(Value.string s_2361), (Value.slice A_2363 n_2364 c_2365)])) rfl)) ?_)
  intro w_2375 z_2376 k_2377 bx_2378
  have hB_2379 := below_next hB0 k_2377 (by omega)
  refine l_op wn (o_new (x_alloc (cs := [(Value.string (⟨#[]⟩)), (Value.slice none 0 0)]) Try.zeroValue191) ?_)
  intro w_2380 z_2381 k_2382 bx_2383
  have hB_2384 := below_next hB_2379 k_2382 (by omega)
  have bx_2385 := bx_2378.below k_2382
  refine l_nil ?_
  refine w_seq ?_
  refine w_region ?_
  refine l_op wn (o_new (x_alloc (cs := [(Value.string (⟨#[]⟩)), (Value.slice none 0 0)]) Try.zeroValue191) ?_)
  intro w_2386 z_2387 k_2388 bx_2389
  have hB_2390 := below_next hB_2384 k_2388 (by omega)
  have bx_2391 := bx_2385.below k_2388
  have bx_2392 := bx_2383.below k_2388
  refine l_nil ?_
  refine w_seq ?_
  refine w_region ?_
  refine l_op wn (o_val (x_field (k := 0) (j := 0) Try.underlying188 rfl Try.sizeOf9 rfl (et (v := (Value.pointer (some ⟨w.heap.size, 0, none⟩))) rfl)) ?_)
  refine l_op wn (o_val (x_load (v := (Value.string s_2361)) Try.isAgg9 (et (v := (Value.pointer (some ⟨w.heap.size, 0, none⟩))) rfl) ((bx_2391.cell 0).trans rfl)) ?_)
  refine l_op wn (o_val (x_field (k := 0) (j := 0) Try.underlying191 rfl Try.sizeOf9 rfl (et (v := (Value.pointer (some ⟨w_2380.heap.size, 0, none⟩))) rfl)) ?_)
  refine l_op wn (o_store Try.sizeOf9 (et (v := (Value.pointer (some ⟨w_2380.heap.size, 0, none⟩))) rfl) (et (v := (Value.string s_2361)) rfl) rfl bx_2389 rfl ?_)
  intro w_2393 of_2394 bx_2395
  have bx_2396 : Blk w_2393 w_2380.heap.size 191 [(Value.string s_2361), (Value.slice none 0 0)] := bx_2395
  have hB_2397 := below_off hB_2390 of_2394 (by omega)
  have z_2398 := of_2394.size
  have bx_2399 := bx_2391.off of_2394 (by omega)
  have bx_2400 := bx_2392.off of_2394 (by omega)
  refine l_nil ?_
  refine w_seq ?_
  refine w_region ?_
  refine l_op wn (o_val (x_field (k := 0) (j := 1) Try.underlying188 rfl Try.sizeOf186 rfl (et (v := (Value.pointer (some ⟨w.heap.size, 0, none⟩))) rfl)) ?_)
  refine l_op wn (o_val (x_load (v := (Value.slice A_2363 n_2364 c_2365)) Try.isAgg186 (et (v := (Value.pointer (some ⟨w.heap.size, 1, none⟩))) rfl) ((bx_2399.cell 1).trans rfl)) ?_)
  refine l_op wn (o_call (x_call Try.call122 ef (a1 (et (v := (Value.slice A_2363 n_2364 c_2365)) rfl))) (to_TestS w_2393 xs_2362 A_2363 n_2364 c_2365 _ ok_2372 (hr_2373.below hB_2397) (by omega)) ?_)
  rintro _ w_2401 ⟨c_2402, F_2403, rfl, rp_2404, sg_2405, k_2406⟩
  obtain ⟨A_2407, n_2408, c_2409, e_c_2402, ln_2410⟩ := rp_2404.list_inv
  simp only [List.cons.injEq, and_true] at e_c_2402
  subst e_c_2402
  have hB_2411 := below_next hB_2397 k_2406 (by omega)
  have z_2412 := k_2406.size
  have bx_2413 := bx_2399.below k_2406
  have bx_2414 := bx_2400.below k_2406
  have bx_2415 := bx_2396.below k_2406
  refine ⟨_, rfl, ?_⟩
  refine l_op wn (o_val (x_field (k := 0) (j := 1) Try.underlying191 rfl Try.sizeOf189 rfl (et (v := (Value.pointer (some ⟨w_2380.heap.size, 0, none⟩))) rfl)) ?_)
  refine l_op wn (o_store Try.sizeOf189 (et (v := (Value.pointer (some ⟨w_2380.heap.size, 1, none⟩))) rfl) (et (v := (Value.slice A_2407 n_2408 c_2409)) rfl) rfl bx_2415 rfl ?_)
  intro w_2417 of_2418 bx_2419
  have bx_2420 : Blk w_2417 w_2380.heap.size 191 [(Value.string s_2361), (Value.slice A_2407 n_2408 c_2409)] := bx_2419
  have hB_2421 := below_off hB_2411 of_2418 (by omega)
  have z_2422 := of_2418.size
  have bx_2423 := bx_2413.off of_2418 (by omega)
  have bx_2424 := bx_2414.off of_2418 (by omega)
  have rp_2425 := rp_2404.off of_2418 (fun hm => by have := sg_2405.bd _ hm; omega)
  refine l_nil ?_
  refine w_seq ?_
  refine w_region ?_
  refine l_op wn (o_val (x_loadN (cs := [(Value.string s_2361), (Value.slice A_2407 n_2408 c_2409)]) Try.isAgg191 Try.sizeOf191 (et (v := (Value.pointer (some ⟨w_2380.heap.size, 0, none⟩))) rfl) rfl (bx_2420.lies)) ?_)
  refine l_op wn (o_storeN (vs := [(Value.string s_2361), (Value.slice A_2407 n_2408 c_2409)]) Try.sizeOf191 (et (v := (Value.pointer (some ⟨w_2375.heap.size, 0, none⟩))) rfl) (et (v := (Value.agg #[(Value.string s_2361), (Value.slice A_2407 n_2408 c_2409)])) rfl) rfl (by simp [one]) bx_2424 (by simp) ?_)
  intro w_2426 of_2427 bx_2428
  have bx_2429 : Blk w_2426 w_2375.heap.size 191 [(Value.string s_2361), (Value.slice A_2407 n_2408 c_2409)] := bx_2428
  have hB_2430 := below_off hB_2421 of_2427 (by omega)
  have z_2431 := of_2427.size
  have bx_2432 := bx_2423.off of_2427 (by omega)
  have bx_2433 := bx_2420.off of_2427 (by omega)
  have rp_2434 := rp_2425.off of_2427 (fun hm => by have := sg_2405.bd _ hm; omega)
  refine l_nil ?_
  refine w_ret ?_
  have rr_2435 := (ragg (rcons (rstr (w := w_2426) (n := s_2361) bd_2371) (rcons rp_2434 (rnil (w := w_2426)))))
  exact ⟨_, r_cell Try.results119 rfl Try.isAgg191 Try.sizeOf191 rfl bx_2429, _, _, rfl, rr_2435, ((seg_skip (seg_app sg_2405 (seg_nil (lo := w_2426.heap.size) (hi := w_2426.heap.size) (Nat.le_refl _)) (by omega)))).mono (by omega) (by omega), hB_2430⟩

set_option maxHeartbeats 200000 in
theorem to_StepS (w : World) (xs : List V) (A : Option Addr) (n c : Nat) (F : List Nat) (ok : Oks xs tStep) (hr : Rep w (.list xs) [.slice A n c] F) (hb : V.bulk (.list xs) ≤ 1048576) : Calls Try.prog 116 #[.slice A n c] w (Ret1 w (.list xs)) := by
  have hB0 := Below.refl w.heap.size w
  obtain ⟨ln, lc, lm⟩ := hr.len
  have hn20 : n ≤ 1048576 := by have := bulk_list xs; omega
  refine enter (N := 23) Try.func116 rfl Try.ntmps116 rfl ?_
  refine w_seq ?_
  refine w_region ?_
  refine l_op wn (o_val (x_assign ec) ?_)
  refine l_nil ?_
  refine w_seq ?_
  refine w_region ?_
  refine l_op wn (o_val (x_move (et (v := (Value.slice A n c)) rfl)) ?_)
  refine l_op wn (o_val (x_len Try.underlying160 (et (v := (Value.slice A n c)) rfl)) ?_)
  refine l_op wn (o_make Try.underlying166 info191 (et (v := (Value.int .i64 (n : Int))) rfl) (by omega) (by omega) ?_)
  intro w_2436 cs_2437 z_2438 k_2439 bx_2440 ln_2441
  have hB_2442 := below_next hB0 k_2439 (by omega)
  refine l_op wn (o_val (x_assign (et (v := (Value.slice (some ⟨w.heap.size, 0, none⟩) n n)) rfl)) ?_)
  refine l_nil ?_
  refine w_seq ?_
  refine w_seq ?_
  refine w_region ?_
  refine l_op wn (o_val (x_assign ec) ?_)
  refine l_nil ?_
  refine w_block ?_
  refine w_loop (fun μ f w' => ∃ (i : Nat), ∃ (ds : List Value), ∃ (G : List Nat), f 0 = (Value.slice A n c) ∧ f 3 = (Value.slice (some ⟨w.heap.size, 0, none⟩) n n) ∧ f 4 = (Value.int .i64 (i : Int)) ∧ Below w.heap.size w w' ∧ (i ≤ n) ∧ (Blk w' w.heap.size 191 ds) ∧ (ds.length = n * 2) ∧ (RepFs w' (xs.take i) (ds.take (i * 2)) G) ∧ (Seg G (w.heap.size + 1) (w').heap.size) ∧ μ = n - i) (n - 0) ?_ ?_
  · exact ⟨0, cs_2437, [], rfl, rfl, vint (a := 0) (by omega), hB_2442, (by omega), (bx_2440), (ln_2441), (by simp [RepFs]), (seg_nil (by omega)), rfl⟩
  rintro m_2445 f_2443 w_2444 ⟨i, ds, G, hs_2447, hs_2448, hs_2449, hB_2446, hi, hrow, hdl, hfs, hsg, rfl⟩
  have z_2450 := hB_2446.size
  have zrow := hrow.lt
  refine w_seq ?_
  refine w_seq ?_
  refine w_region ?_
  refine l_op wn (o_val (x_move (et (v := (Value.int .i64 (i : Int))) hs_2449)) ?_)
  refine l_op wn (o_val (x_move (et (v := (Value.slice A n c)) hs_2447)) ?_)
  refine l_op wn (o_val (x_len Try.underlying160 (et (v := (Value.slice A n c)) rfl)) ?_)
  by_cases h_2451 : (i : Int) < (n : Int)
  rotate_left
  · refine l_op wn (o_val (x_lss (r := false) (et (v := (Value.int .i64 (i : Int))) rfl) (et (v := (Value.int .i64 (n : Int))) rfl) (dec_f h_2451)) ?_)
    refine l_nil ?_
    refine w_if_f (et (v := (Value.bool false)) rfl) ?_
    refine w_exit ?_
    refine Eq.mpr (if_pos rfl) ?_
    refine w_seq ?_
    refine w_region ?_
    refine l_op wn (o_val (x_move (et (v := (Value.slice (some ⟨w.heap.size, 0, none⟩) n n)) hs_2448)) ?_)
    refine l_op wn (o_val (x_assign (et (v := (Value.slice (some ⟨w.heap.size, 0, none⟩) n n)) rfl)) ?_)
    refine l_nil ?_
    refine w_ret ?_
    have en : n = i := by omega
    subst en
    have hf4 := hfs
    rw [ln, List.take_length, ← ln, List.take_of_length_le (by omega)] at hf4
    exact ⟨_, r_tmp (v := (Value.slice (some ⟨w.heap.size, 0, none⟩) n n)) Try.results116 rfl, _, _, rfl, row_rep hrow hf4 ln (Nat.le_refl _) (by omega), row_seg hsg (by omega), hB_2446⟩
  refine l_op wn (o_val (x_lss (r := true) (et (v := (Value.int .i64 (i : Int))) rfl) (et (v := (Value.int .i64 (n : Int))) rfl) (dec_t h_2451)) ?_)
  refine l_nil ?_
  refine w_if_t (et (v := (Value.bool true)) rfl) ?_
  refine w_skip ?_
  refine w_seq ?_
  refine w_block ?_
  refine w_region ?_
  refine l_op wn (o_val (x_move (et (v := (Value.slice (some ⟨w.heap.size, 0, none⟩) n n)) hs_2448)) ?_)
  refine l_op wn (o_val (x_move (et (v := (Value.int .i64 (i : Int))) hs_2449)) ?_)
  refine l_op wn (o_val (x_move (et (v := (Value.slice A n c)) hs_2447)) ?_)
  refine l_op wn (o_val (x_move (et (v := (Value.int .i64 (i : Int))) hs_2449)) ?_)
  obtain ⟨b_2452, o_2453, x_2454, cs_2455, G_2456, hA_2457, hbF_2458, hlt_2459, hx_2460, hrx_2461, hG_2462, hl_2463, hcl_2464⟩ := hr.elem (k := 2) (fun y hy => wd_Step (ok.mem y hy)) (i := i) (by omega)
  obtain ⟨s_2465, xs_2466, A_2467, n_2468, c_2469, F_2470, rfl, rfl, rfl, bd_2475, ok_2476, hr_2477, ln_2478⟩ := open_Step (ok.get hx_2460) hrx_2461
  refine l_op wn (o_val (x_index' (i := i) Try.underlying160 Try.sizeOf188 (et (v := (Value.slice A n c)) rfl) hA_2457 (et (v := (Value.int .i64 (i : Int))) rfl) (by omega) (by omega)) ?_)
  refine l_op wn (o_val (x_loadN (cs := [(Value.string s_2465), (Value.slice A_2467 n_2468 c_2469)]) Try.isAgg188 Try.sizeOf188 (et (v := (Value.pointer (some ⟨b_2452, o_2453 + i * 2, none⟩))) rfl) rfl ((hl_2463.keep (hB_2446.block _ hlt_2459)))) ?_)
  have rr_2486 := (ragg (rcons (rstr (w := w_2444) (n := s_2465) bd_2475) (rcons (hr_2477.below hB_2446) (rnil (w := w_2444)))))
  refine l_op wn (o_call (x_call Try.call119 ef (a1 (et (v := (Value.agg #[(Value.string s_2465), (Value.slice A_2467 n_2468 c_2469)])) rfl))) (to_Step w_2444 (.agg [.str s_2465, .list xs_2466]) [(Value.string s_2465), (Value.slice A_2467 n_2468 c_2469)] _ (ok_agg rfl (okz_cons (ok_str rfl) (okz_cons (ok_list rfl ok_2476) okz_nil))) rr_2486 (by have bs := bulks_step hx_2460; have := bulk_list xs; omega)) ?_)
  rintro _ w_2479 ⟨cs_2485, F_2481, rfl, rp_2482, sg_2483, k_2484⟩
  have hB_2487 := below_next hB_2446 k_2484 (by omega)
  have z_2488 := k_2484.size
  have bx_2489 := hrow.below k_2484
  have rp_2490 := hfs.below k_2484
  obtain ⟨A_2492, n_2493, c_2494, F_2495, rfl⟩ := cells_Step rp_2482
  refine ⟨_, rfl, ?_⟩
  refine l_op wn (o_val (x_index (i := i) Try.underlying166 Try.sizeOf191 (et (v := (Value.slice (some ⟨w.heap.size, 0, none⟩) n n)) rfl) (et (v := (Value.int .i64 (i : Int))) rfl) (by omega) (by omega)) ?_)
  have lt_2500 : i * 2 + 2 ≤ (ds).length := by rw [hdl]; omega
  refine l_op wn (o_storeN (vs := [(Value.string s_2465), (Value.slice A_2492 n_2493 c_2494)]) Try.sizeOf191 (et (v := (Value.pointer (some ⟨w.heap.size, 0 + i * 2, none⟩))) rfl) (et (v := (Value.agg #[(Value.string s_2465), (Value.slice A_2492 n_2493 c_2494)])) rfl) rfl (by simp [one]) bx_2489 (by omega) ?_)
  intro w_2496 of_2497 bx_2498
  have hB_2501 := below_off hB_2487 of_2497 (by omega)
  have z_2502 := of_2497.size
  have rp_2503 := rp_2490.off of_2497 (fun hm => by have := hsg.bd _ hm; omega)
  have rp_2504 := rp_2482.off of_2497 (fun hm => by have := sg_2483.bd _ hm; omega)
  have ln_2499 : (splice ds (0 + i * 2) [(Value.string s_2465), (Value.slice A_2492 n_2493 c_2494)]).length = n * 2 := (len_splice (by simp; omega)).trans hdl
  refine l_nil ?_
  refine w_region ?_
  refine l_op wn (o_val (x_move (et (v := (Value.int .i64 (i : Int))) hs_2449)) ?_)
  refine l_op wn (o_val (x_add (et (v := (Value.int .i64 (i : Int))) rfl) ec (by omega)) ?_)
  refine l_op wn (o_val (x_assign (et (v := (Value.int .i64 ((i : Int) + 1))) rfl)) ?_)
  refine l_nil ?_
  have rr_2505 := rp_2504
  have ht := take_splice (k := 2) (vs := [(Value.string s_2465), (Value.slice A_2492 n_2493 c_2494)]) lt_2500 rfl
  have hf2 := RepFs.snoc _ rp_2503 rr_2505
  rw [← take_snoc hx_2460] at hf2
  rw [← ht] at hf2
  exact ⟨n - (i + 1), by omega, ⟨i + 1, (splice ds (0 + i * 2) [(Value.string s_2465), (Value.slice A_2492 n_2493 c_2494)]), _, hs_2447, hs_2448, vint (a := ((i : Int) + 1)) (by omega), hB_2501, (by omega), (bx_2498), (ln_2499), (hf2), ((seg_app hsg sg_2483 (by omega)).mono (by omega) (by omega)), rfl⟩⟩

set_option maxHeartbeats 200000 in
theorem to_Path (w : World) (x : V) (cs : List Value) (F : List Nat) (ok : Ok x tPath) (hr : Rep w x cs F) (hb : V.bulk x ≤ 1048576) : Calls Try.prog 112 #[.agg cs.toArray] w (RetS w x) := by
  obtain ⟨q_2506, i_2507, xs_2508, A_2509, n_2510, c_2511, F_2512, rfl, rfl, rfl, bd_2517, ok_2518, hr_2519, ln_2520⟩ := open_Path ok hr
  have hbk : V.bulk (.agg [.bool q_2506, .int i_2507, .list xs_2508]) = V.bulk (.list xs_2508) := by simp only [V.bulk, V.bulks] <;> omega
  have hB0 := Below.refl w.heap.size w
  refine enter (N := 15) Try.func112 rfl Try.ntmps112 rfl ?_
  refine w_seq ?_
  refine w_region ?_
  refine l_op wn (o_new (x_box (cs := [(Value.bool q_2506), (Value.int .i64 i_2507), (Value.slice A_2509 n_2510 c_2511)]) (et (v := (Value.agg #[(Value.bool q_2506), (Value.int .i64 i_2507), (Value.slice A_2509 n_2510 c_2511)])) rfl)) ?_)
  intro w_2521 z_2522 k_2523 bx_2524
  have hB_2525 := below_next hB0 k_2523 (by omega)
  refine l_op wn (o_new (x_alloc (cs := [(Value.bool false), (Value.int .i64 0), (Value.slice none 0 0)]) Try.zeroValue168) ?_)
  intro w_2526 z_2527 k_2528 bx_2529
  have hB_2530 := below_next hB_2525 k_2528 (by omega)
  have bx_2531 := bx_2524.below k_2528
  refine l_nil ?_
  refine w_seq ?_
  refine w_region ?_
  refine l_op wn (o_new (x_alloc (cs := [(Value.bool false), (Value.int .i64 0), (Value.slice none 0 0)]) Try.zeroValue168) ?_)
  intro w_2532 z_2533 k_2534 bx_2535
  have hB_2536 := below_next hB_2530 k_2534 (by omega)
  have bx_2537 := bx_2531.below k_2534
  have bx_2538 := bx_2529.below k_2534
  refine l_nil ?_
  refine w_seq ?_
  refine w_region ?_
  refine l_op wn (o_val (x_field (k := 0) (j := 0) Try.underlying162 rfl Try.sizeOf4 rfl (et (v := (Value.pointer (some ⟨w.heap.size, 0, none⟩))) rfl)) ?_)
  refine l_op wn (o_val (x_load (v := (Value.bool q_2506)) Try.isAgg4 (et (v := (Value.pointer (some ⟨w.heap.size, 0, none⟩))) rfl) ((bx_2537.cell 0).trans rfl)) ?_)
  refine l_op wn (o_val (x_field (k := 0) (j := 0) Try.underlying168 rfl Try.sizeOf4 rfl (et (v := (Value.pointer (some ⟨w_2526.heap.size, 0, none⟩))) rfl)) ?_)
  refine l_op wn (o_store Try.sizeOf4 (et (v := (Value.pointer (some ⟨w_2526.heap.size, 0, none⟩))) rfl) (et (v := (Value.bool q_2506)) rfl) rfl bx_2535 rfl ?_)
  intro w_2539 of_2540 bx_2541
  have bx_2542 : Blk w_2539 w_2526.heap.size 168 [(Value.bool q_2506), (Value.int .i64 0), (Value.slice none 0 0)] := bx_2541
  have hB_2543 := below_off hB_2536 of_2540 (by omega)
  have z_2544 := of_2540.size
  have bx_2545 := bx_2537.off of_2540 (by omega)
  have bx_2546 := bx_2538.off of_2540 (by omega)
  refine l_nil ?_
  refine w_seq ?_
  refine w_region ?_
  refine l_op wn (o_val (x_field (k := 0) (j := 1) Try.underlying162 rfl Try.sizeOf3 rfl (et (v := (Value.pointer (some ⟨w.heap.size, 0, none⟩))) rfl)) ?_)
  refine l_op wn (o_val (x_load (v := (Value.int .i64 i_2507)) Try.isAgg3 (et (v := (Value.pointer (some ⟨w.heap.size, 1, none⟩))) rfl) ((bx_2545.cell 1).trans rfl)) ?_)
  refine l_op wn (o_val (x_field (k := 0) (j := 1) Try.underlying168 rfl Try.sizeOf3 rfl (et (v := (Value.pointer (some ⟨w_2526.heap.size, 0, none⟩))) rfl)) ?_)
  refine l_op wn (o_store Try.sizeOf3 (et (v := (Value.pointer (some ⟨w_2526.heap.size, 1, none⟩))) rfl) (et (v := (Value.int .i64 i_2507)) rfl) rfl bx_2542 rfl ?_)
  intro w_2547 of_2548 bx_2549
  have bx_2550 : Blk w_2547 w_2526.heap.size 168 [(Value.bool q_2506), (Value.int .i64 i_2507), (Value.slice none 0 0)] := bx_2549
  have hB_2551 := below_off hB_2543 of_2548 (by omega)
  have z_2552 := of_2548.size
  have bx_2553 := bx_2545.off of_2548 (by omega)
  have bx_2554 := bx_2546.off of_2548 (by omega)
  refine l_nil ?_
  refine w_seq ?_
  refine w_region ?_
  refine l_op wn (o_val (x_field (k := 0) (j := 2) Try.underlying162 rfl Try.sizeOf160 rfl (et (v := (Value.pointer (some ⟨w.heap.size, 0, none⟩))) rfl)) ?_)
  refine l_op wn (o_val (x_load (v := (Value.slice A_2509 n_2510 c_2511)) Try.isAgg160 (et (v := (Value.pointer (some ⟨w.heap.size, 2, none⟩))) rfl) ((bx_2553.cell 2).trans rfl)) ?_)
  refine l_op wn (o_call (x_call Try.call116 ef (a1 (et (v := (Value.slice A_2509 n_2510 c_2511)) rfl))) (to_StepS w_2547 xs_2508 A_2509 n_2510 c_2511 _ ok_2518 (hr_2519.below hB_2551) (by omega)) ?_)
  rintro _ w_2555 ⟨c_2556, F_2557, rfl, rp_2558, sg_2559, k_2560⟩
  obtain ⟨A_2561, n_2562, c_2563, e_c_2556, ln_2564⟩ := rp_2558.list_inv
  simp only [List.cons.injEq, and_true] at e_c_2556
  subst e_c_2556
  have hB_2565 := below_next hB_2551 k_2560 (by omega)
  have z_2566 := k_2560.size
  have bx_2567 := bx_2553.below k_2560
  have bx_2568 := bx_2554.below k_2560
  have bx_2569 := bx_2550.below k_2560
  refine ⟨_, rfl, ?_⟩
  refine l_op wn (o_val (x_field (k := 0) (j := 2) Try.underlying168 rfl Try.sizeOf166 rfl (et (v := (Value.pointer (some ⟨w_2526.heap.size, 0, none⟩))) rfl)) ?_)
  refine l_op wn (o_store Try.sizeOf166 (et (v := (Value.pointer (some ⟨w_2526.heap.size, 2, none⟩))) rfl) (et (v := (Value.slice A_2561 n_2562 c_2563)) rfl) rfl bx_2569 rfl ?_)
  intro w_2571 of_2572 bx_2573
  have bx_2574 : Blk w_2571 w_2526.heap.size 168 [(Value.bool q_2506), (Value.int .i64 i_2507), (Value.slice A_2561 n_2562 c_2563)] := bx_2573
  have hB_2575 := below_off hB_2565 of_2572 (by omega)
  have z_2576 := of_2572.size
  have bx_2577 := bx_2567.off of_2572 (by omega)
  have bx_2578 := bx_2568.off of_2572 (by omega)
  have rp_2579 := rp_2558.off of_2572 (fun hm => by have := sg_2559.bd _ hm; omega)
  refine l_nil ?_
  refine w_seq ?_
  refine w_region ?_
  refine l_op wn (o_val (x_loadN (cs := [(Value.bool q_2506), (Value.int .i64 i_2507), (Value.slice A_2561 n_2562 c_2563)]) Try.isAgg168 Try.sizeOf168 (et (v := (Value.pointer (some ⟨w_2526.heap.size, 0, none⟩))) rfl) rfl (bx_2574.lies)) ?_)
  refine l_op wn (o_storeN (vs := [(Value.bool q_2506), (Value.int .i64 i_2507), (Value.slice A_2561 n_2562 c_2563)]) Try.sizeOf168 (et (v := (Value.pointer (some ⟨w_2521.heap.size, 0, none⟩))) rfl) (et (v := (Value.agg #[(Value.bool q_2506), (Value.int .i64 i_2507), (Value.slice A_2561 n_2562 c_2563)])) rfl) rfl (by simp [one]) bx_2578 (by simp) ?_)
  intro w_2580 of_2581 bx_2582
  have bx_2583 : Blk w_2580 w_2521.heap.size 168 [(Value.bool q_2506), (Value.int .i64 i_2507), (Value.slice A_2561 n_2562 c_2563)] := bx_2582
  have hB_2584 := below_off hB_2575 of_2581 (by omega)
  have z_2585 := of_2581.size
  have bx_2586 := bx_2577.off of_2581 (by omega)
  have bx_2587 := bx_2574.off of_2581 (by omega)
  have rp_2588 := rp_2579.off of_2581 (fun hm => by have := sg_2559.bd _ hm; omega)
  refine l_nil ?_
  refine w_ret ?_
  have rr_2589 := (ragg (rcons (rbool (w := w_2580) (n := q_2506)) (rcons (rint (w := w_2580) (n := i_2507) bd_2517) (rcons rp_2588 (rnil (w := w_2580))))))
  exact ⟨_, r_cell Try.results112 rfl Try.isAgg168 Try.sizeOf168 rfl bx_2583, _, _, rfl, rr_2589, ((seg_skip (seg_skip (seg_app sg_2559 (seg_nil (lo := w_2580.heap.size) (hi := w_2580.heap.size) (Nat.le_refl _)) (by omega))))).mono (by omega) (by omega), hB_2584⟩

def To_ExprS (k : Nat) : Prop := ∀ (w : World) (xs : List V) (A : Option Addr) (n c : Nat) (F : List Nat) (ok : Oks xs tExpr) (hr : Rep w (.list xs) [.slice A n c] F) (hb : V.bulk (.list xs) ≤ 1048576) (hc : V.cnts xs ≤ k), Calls Try.prog 98 #[.slice A n c] w (Ret1 w (.list xs))
def To_Expr (k : Nat) : Prop := ∀ (w : World) (x : V) (cs : List Value) (F : List Nat) (ok : Ok x tExpr) (hr : Rep w x cs F) (hb : V.bulk x ≤ 1048576) (hc : V.cnt x ≤ k), Calls Try.prog 107 #[.agg cs.toArray] w (RetS w x)
set_option maxHeartbeats 200000 in
theorem to_Expr_of (k : Nat) (ih : To_ExprS k) : To_Expr (k + 1) := by
  intro w x cs F ok hr hb hc
  obtain ⟨i_2590, i_2591, s_2592, q_2593, i_2594, xs_2595, A_2596, n_2597, c_2598, F_2599, xs_2601, A_2602, n_2603, c_2604, F_2605, rfl, rfl, rfl, bd_2610, bd_2611, bd_2612, bd_2613, ok_2614, hr_2615, ln_2616, ok_2617, hr_2618, ln_2619⟩ := open_Expr ok hr
  have hbk : V.bulk (.agg [.int i_2590, .int i_2591, .str s_2592, .agg [.bool q_2593, .int i_2594, .list xs_2595], .list xs_2601]) = s_2592.size + V.bulk (.agg [.bool q_2593, .int i_2594, .list xs_2595]) + V.bulk (.list xs_2601) := by simp only [V.bulk, V.bulks] <;> omega
  have hck : V.cnts xs_2601 < V.cnt (.agg [.int i_2590, .int i_2591, .str s_2592, .agg [.bool q_2593, .int i_2594, .list xs_2595], .list xs_2601]) := by simp only [V.cnt, V.cnts]; omega
  have hB0 := Below.refl w.heap.size w
  refine enter (N := 22) Try.func107 rfl Try.ntmps107 rfl ?_
  refine w_seq ?_
  refine w_region ?_
  refine l_op wn (o_new (x_box (cs := [(Value.int .i64 i_2590), (Value.int .i64 i_2591), (Value.string s_2592), (Value.bool q_2593), (Value.int .i64 i_2594), (Value.slice A_2596 n_2597 c_2598), (Value.slice A_2602 n_2603 c_2604)]) (et (v := (Value.agg #[(Value.int .i64 i_2590), (Value.int .i64 i_2591), (Value.string s_2592), (Value.bool q_2593), (Value.int .i64 i_2594), (Value.slice A_2596 n_2597 c_2598), (Value.slice A_2602 n_2603 c_2604)])) rfl)) ?_)
  intro w_2620 z_2621 k_2622 bx_2623
  have hB_2624 := below_next hB0 k_2622 (by omega)
  refine l_op wn (o_new (x_alloc (cs := [(Value.int .i64 0), (Value.int .i64 0), (Value.string (⟨#[]⟩)), (Value.bool false), (Value.int .i64 0), (Value.slice none 0 0), (Value.slice none 0 0)]) Try.zeroValue170) ?_)
  intro w_2625 z_2626 k_2627 bx_2628
  have hB_2629 := below_next hB_2624 k_2627 (by omega)
  have bx_2630 := bx_2623.below k_2627
  refine l_nil ?_
  refine w_seq ?_
  refine w_region ?_
  refine l_op wn (o_new (x_alloc (cs := [(Value.int .i64 0), (Value.int .i64 0), (Value.string (⟨#[]⟩)), (Value.bool false), (Value.int .i64 0), (Value.slice none 0 0), (Value.slice none 0 0)]) Try.zeroValue170) ?_)
  intro w_2631 z_2632 k_2633 bx_2634
  have hB_2635 := below_next hB_2629 k_2633 (by omega)
  have bx_2636 := bx_2630.below k_2633
  have bx_2637 := bx_2628.below k_2633
  refine l_nil ?_
  refine w_seq ?_
  refine w_region ?_
  refine l_op wn (o_val (x_field (k := 0) (j := 0) Try.underlying164 rfl Try.sizeOf3 rfl (et (v := (Value.pointer (some ⟨w.heap.size, 0, none⟩))) rfl)) ?_)
  refine l_op wn (o_val (x_load (v := (Value.int .i64 i_2590)) Try.isAgg3 (et (v := (Value.pointer (some ⟨w.heap.size, 0, none⟩))) rfl) ((bx_2636.cell 0).trans rfl)) ?_)
  refine l_op wn (o_val (x_field (k := 0) (j := 0) Try.underlying170 rfl Try.sizeOf3 rfl (et (v := (Value.pointer (some ⟨w_2625.heap.size, 0, none⟩))) rfl)) ?_)
  refine l_op wn (o_store Try.sizeOf3 (et (v := (Value.pointer (some ⟨w_2625.heap.size, 0, none⟩))) rfl) (et (v := (Value.int .i64 i_2590)) rfl) rfl bx_2634 rfl ?_)
  intro w_2638 of_2639 bx_2640
  have bx_2641 : Blk w_2638 w_2625.heap.size 170 [(Value.int .i64 i_2590), (Value.int .i64 0), (Value.string (⟨#[]⟩)), (Value.bool false), (Value.int .i64 0), (Value.slice none 0 0), (Value.slice none 0 0)] := bx_2640
  have hB_2642 := below_off hB_2635 of_2639 (by omega)
  have z_2643 := of_2639.size
  have bx_2644 := bx_2636.off of_2639 (by omega)
  have bx_2645 := bx_2637.off of_2639 (by omega)
  refine l_nil ?_
  refine w_seq ?_
  refine w_region ?_
  refine l_op wn (o_val (x_field (k := 0) (j := 1) Try.underlying164 rfl Try.sizeOf3 rfl (et (v := (Value.pointer (some ⟨w.heap.size, 0, none⟩))) rfl)) ?_)
  refine l_op wn (o_val (x_load (v := (Value.int .i64 i_2591)) Try.isAgg3 (et (v := (Value.pointer (some ⟨w.heap.size, 1, none⟩))) rfl) ((bx_2644.cell 1).trans rfl)) ?_)
  refine l_op wn (o_val (x_field (k := 0) (j := 1) Try.underlying170 rfl Try.sizeOf3 rfl (et (v := (Value.pointer (some ⟨w_2625.heap.size, 0, none⟩))) rfl)) ?_)
  refine l_op wn (o_store Try.sizeOf3 (et (v := (Value.pointer (some ⟨w_2625.heap.size, 1, none⟩))) rfl) (et (v := (Value.int .i64 i_2591)) rfl) rfl bx_2641 rfl ?_)
  intro w_2646 of_2647 bx_2648
  have bx_2649 : Blk w_2646 w_2625.heap.size 170 [(Value.int .i64 i_2590), (Value.int .i64 i_2591), (Value.string (⟨#[]⟩)), (Value.bool false), (Value.int .i64 0), (Value.slice none 0 0), (Value.slice none 0 0)] := bx_2648
  have hB_2650 := below_off hB_2642 of_2647 (by omega)
  have z_2651 := of_2647.size
  have bx_2652 := bx_2644.off of_2647 (by omega)
  have bx_2653 := bx_2645.off of_2647 (by omega)
  refine l_nil ?_
  refine w_seq ?_
  refine w_region ?_
  refine l_op wn (o_val (x_field (k := 0) (j := 2) Try.underlying164 rfl Try.sizeOf9 rfl (et (v := (Value.pointer (some ⟨w.heap.size, 0, none⟩))) rfl)) ?_)
  refine l_op wn (o_val (x_load (v := (Value.string s_2592)) Try.isAgg9 (et (v := (Value.pointer (some ⟨w.heap.size, 2, none⟩))) rfl) ((bx_2652.cell 2).trans rfl)) ?_)
  refine l_op wn (o_val (x_field (k := 0) (j := 2) Try.underlying170 rfl Try.sizeOf9 rfl (et (v := (Value.pointer (some ⟨w_2625.heap.size, 0, none⟩))) rfl)) ?_)
  refine l_op wn (o_store Try.sizeOf9 (et (v := (Value.pointer (some ⟨w_2625.heap.size, 2, none⟩))) rfl) (et (v := (Value.string s_2592)) rfl) rfl bx_2649 rfl ?_)
  intro w_2654 of_2655 bx_2656
  have bx_2657 : Blk w_2654 w_2625.heap.size 170 [(Value.int .i64 i_2590), (Value.int .i64 i_2591), (Value.string s_2592), (Value.bool false), (Value.int .i64 0), (Value.slice none 0 0), (Value.slice none 0 0)] := bx_2656
  have hB_2658 := below_off hB_2650 of_2655 (by omega)
  have z_2659 := of_2655.size
  have bx_2660 := bx_2652.off of_2655 (by omega)
  have bx_2661 := bx_2653.off of_2655 (by omega)
  refine l_nil ?_
  refine w_seq ?_
  refine w_region ?_
  refine l_op wn (o_val (x_field (k := 2) (j := 3) Try.underlying164 rfl Try.sizeOf162 rfl (et (v := (Value.pointer (some ⟨w.heap.size, 0, none⟩))) rfl)) ?_)
  refine l_op wn (o_val (x_loadN (cs := [(Value.bool q_2593), (Value.int .i64 i_2594), (Value.slice A_2596 n_2597 c_2598)]) Try.isAgg162 Try.sizeOf162 (et (v := (Value.pointer (some ⟨w.heap.size, 3, none⟩))) rfl) rfl (bx_2660.lies.sub 3 3)) ?_)
  have rr_2669 := (ragg (rcons (rbool (w := w_2654) (n := q_2593)) (rcons (rint (w := w_2654) (n := i_2594) bd_2613) (rcons (hr_2615.below hB_2658) (rnil (w := w_2654))))))
  refine l_op wn (o_call (x_call Try.call112 ef (a1 (et (v := (Value.agg #[(Value.bool q_2593), (Value.int .i64 i_2594), (Value.slice A_2596 n_2597 c_2598)])) rfl))) (to_Path w_2654 (.agg [.bool q_2593, .int i_2594, .list xs_2595]) [(Value.bool q_2593), (Value.int .i64 i_2594), (Value.slice A_2596 n_2597 c_2598)] _ (ok_agg rfl (okz_cons (ok_bool rfl) (okz_cons (ok_int rfl) (okz_cons (ok_list rfl ok_2614) okz_nil)))) rr_2669 (by omega)) ?_)
  rintro _ w_2662 ⟨cs_2668, F_2664, rfl, rp_2665, sg_2666, k_2667⟩
  have hB_2670 := below_next hB_2658 k_2667 (by omega)
  have z_2671 := k_2667.size
  have bx_2672 := bx_2660.below k_2667
  have bx_2673 := bx_2661.below k_2667
  have bx_2674 := bx_2657.below k_2667
  obtain ⟨A_2676, n_2677, c_2678, F_2679, rfl⟩ := cells_Path rp_2665
  refine ⟨_, rfl, ?_⟩
  refine l_op wn (o_val (x_field (k := 2) (j := 3) Try.underlying170 rfl Try.sizeOf168 rfl (et (v := (Value.pointer (some ⟨w_2625.heap.size, 0, none⟩))) rfl)) ?_)
  refine l_op wn (o_storeN (vs := [(Value.bool q_2593), (Value.int .i64 i_2594), (Value.slice A_2676 n_2677 c_2678)]) Try.sizeOf168 (et (v := (Value.pointer (some ⟨w_2625.heap.size, 3, none⟩))) rfl) (et (v := (Value.agg #[(Value.bool q_2593), (Value.int .i64 i_2594), (Value.slice A_2676 n_2677 c_2678)])) rfl) rfl (by simp [one]) bx_2674 (by simp) ?_)
  intro w_2680 of_2681 bx_2682
  have bx_2683 : Blk w_2680 w_2625.heap.size 170 [(Value.int .i64 i_2590), (Value.int .i64 i_2591), (Value.string s_2592), (Value.bool q_2593), (Value.int .i64 i_2594), (Value.slice A_2676 n_2677 c_2678), (Value.slice none 0 0)] := bx_2682
  have hB_2684 := below_off hB_2670 of_2681 (by omega)
  have z_2685 := of_2681.size
  have bx_2686 := bx_2672.off of_2681 (by omega)
  have bx_2687 := bx_2673.off of_2681 (by omega)
  have rp_2688 := rp_2665.off of_2681 (fun hm => by have := sg_2666.bd _ hm; omega)
  refine l_nil ?_
  refine w_seq ?_
  refine w_region ?_
  refine l_op wn (o_val (x_field (k := 0) (j := 6) Try.underlying164 rfl Try.sizeOf124 rfl (et (v := (Value.pointer (some ⟨w.heap.size, 0, none⟩))) rfl)) ?_)
  refine l_op wn (o_val (x_load (v := (Value.slice A_2602 n_2603 c_2604)) Try.isAgg124 (et (v := (Value.pointer (some ⟨w.heap.size, 6, none⟩))) rfl) ((bx_2686.cell 6).trans rfl)) ?_)
  refine l_op wn (o_call (x_call Try.call98 ef (a1 (et (v := (Value.slice A_2602 n_2603 c_2604)) rfl))) (ih w_2680 xs_2601 A_2602 n_2603 c_2604 _ ok_2617 (hr_2618.below hB_2684) (by omega) (by omega)) ?_)
  rintro _ w_2689 ⟨c_2690, F_2691, rfl, rp_2692, sg_2693, k_2694⟩
  obtain ⟨A_2695, n_2696, c_2697, e_c_2690, ln_2698⟩ := rp_2692.list_inv
  simp only [List.cons.injEq, and_true] at e_c_2690
  subst e_c_2690
  have hB_2699 := below_next hB_2684 k_2694 (by omega)
  have z_2700 := k_2694.size
  have bx_2701 := bx_2686.below k_2694
  have bx_2702 := bx_2687.below k_2694
  have bx_2703 := bx_2683.below k_2694
  have rp_2704 := rp_2688.below k_2694
  refine ⟨_, rfl, ?_⟩
  refine l_op wn (o_val (x_field (k := 0) (j := 6) Try.underlying170 rfl Try.sizeOf133 rfl (et (v := (Value.pointer (some ⟨w_2625.heap.size, 0, none⟩))) rfl)) ?_)
  refine l_op wn (o_store Try.sizeOf133 (et (v := (Value.pointer (some ⟨w_2625.heap.size, 6, none⟩))) rfl) (et (v := (Value.slice A_2695 n_2696 c_2697)) rfl) rfl bx_2703 rfl ?_)
  intro w_2706 of_2707 bx_2708
  have bx_2709 : Blk w_2706 w_2625.heap.size 170 [(Value.int .i64 i_2590), (Value.int .i64 i_2591), (Value.string s_2592), (Value.bool q_2593), (Value.int .i64 i_2594), (Value.slice A_2676 n_2677 c_2678), (Value.slice A_2695 n_2696 c_2697)] := bx_2708
  have hB_2710 := below_off hB_2699 of_2707 (by omega)
  have z_2711 := of_2707.size
  have bx_2712 := bx_2701.off of_2707 (by omega)
  have bx_2713 := bx_2702.off of_2707 (by omega)
  have rp_2714 := rp_2704.off of_2707 (fun hm => by have := sg_2666.bd _ hm; omega)
  have rp_2715 := rp_2692.off of_2707 (fun hm => by have := sg_2693.bd _ hm; omega)
  refine l_nil ?_
  refine w_seq ?_
  refine w_region ?_
  refine l_op wn (o_val (x_loadN (cs := [(Value.int .i64 i_2590), (Value.int .i64 i_2591), (Value.string s_2592), (Value.bool q_2593), (Value.int .i64 i_2594), (Value.slice A_2676 n_2677 c_2678), (Value.slice A_2695 n_2696 c_2697)]) Try.isAgg170 Try.sizeOf170 (et (v := (Value.pointer (some ⟨w_2625.heap.size, 0, none⟩))) rfl) rfl (bx_2709.lies)) ?_)
  refine l_op wn (o_storeN (vs := [(Value.int .i64 i_2590), (Value.int .i64 i_2591), (Value.string s_2592), (Value.bool q_2593), (Value.int .i64 i_2594), (Value.slice A_2676 n_2677 c_2678), (Value.slice A_2695 n_2696 c_2697)]) Try.sizeOf170 (et (v := (Value.pointer (some ⟨w_2620.heap.size, 0, none⟩))) rfl) (et (v := (Value.agg #[(Value.int .i64 i_2590), (Value.int .i64 i_2591), (Value.string s_2592), (Value.bool q_2593), (Value.int .i64 i_2594), (Value.slice A_2676 n_2677 c_2678), (Value.slice A_2695 n_2696 c_2697)])) rfl) rfl (by simp [one]) bx_2713 (by simp) ?_)
  intro w_2716 of_2717 bx_2718
  have bx_2719 : Blk w_2716 w_2620.heap.size 170 [(Value.int .i64 i_2590), (Value.int .i64 i_2591), (Value.string s_2592), (Value.bool q_2593), (Value.int .i64 i_2594), (Value.slice A_2676 n_2677 c_2678), (Value.slice A_2695 n_2696 c_2697)] := bx_2718
  have hB_2720 := below_off hB_2710 of_2717 (by omega)
  have z_2721 := of_2717.size
  have bx_2722 := bx_2712.off of_2717 (by omega)
  have bx_2723 := bx_2709.off of_2717 (by omega)
  have rp_2724 := rp_2714.off of_2717 (fun hm => by have := sg_2666.bd _ hm; omega)
  have rp_2725 := rp_2715.off of_2717 (fun hm => by have := sg_2693.bd _ hm; omega)
  refine l_nil ?_
  refine w_ret ?_
  have rr_2726 := (ragg (rcons (rint (w := w_2716) (n := i_2590) bd_2610) (rcons (rint (w := w_2716) (n := i_2591) bd_2611) (rcons (rstr (w := w_2716) (n := s_2592) bd_2612) (rcons rp_2724 (rcons rp_2725 (rnil (w := w_2716))))))))
  exact ⟨_, r_cell Try.results107 rfl Try.isAgg170 Try.sizeOf170 rfl bx_2719, _, _, rfl, rr_2726, ((seg_skip (seg_skip (seg_skip (seg_app sg_2666 (seg_app sg_2693 (seg_nil (lo := w_2716.heap.size) (hi := w_2716.heap.size) (Nat.le_refl _)) (by omega)) (by omega)))))).mono (by omega) (by omega), hB_2720⟩

set_option maxHeartbeats 200000 in
theorem to_ExprS_of (k : Nat) (ih : To_Expr k) : To_ExprS k := by
  intro w xs A n c F ok hr hb hc
  have hB0 := Below.refl w.heap.size w
  obtain ⟨ln, lc, lm⟩ := hr.len
  have hn20 : n ≤ 1048576 := by have := bulk_list xs; omega
  refine enter (N := 23) Try.func98 rfl Try.ntmps98 rfl ?_
  refine w_seq ?_
  refine w_region ?_
  refine l_op wn (o_val (x_assign ec) ?_)
  refine l_nil ?_
  refine w_seq ?_
  refine w_region ?_
  refine l_op wn (o_val (x_move (et (v := (Value.slice A n c)) rfl)) ?_)
  refine l_op wn (o_val (x_len Try.underlying124 (et (v := (Value.slice A n c)) rfl)) ?_)
  refine l_op wn (o_make Try.underlying133 info170 (et (v := (Value.int .i64 (n : Int))) rfl) (by omega) (by omega) ?_)
  intro w_2727 cs_2728 z_2729 k_2730 bx_2731 ln_2732
  have hB_2733 := below_next hB0 k_2730 (by omega)
  refine l_op wn (o_val (x_assign (et (v := (Value.slice (some ⟨w.heap.size, 0, none⟩) n n)) rfl)) ?_)
  refine l_nil ?_
  refine w_seq ?_
  refine w_seq ?_
  refine w_region ?_
  refine l_op wn (o_val (x_assign ec) ?_)
  refine l_nil ?_
  refine w_block ?_
  refine w_loop (fun μ f w' => ∃ (i : Nat), ∃ (ds : List Value), ∃ (G : List Nat), f 0 = (Value.slice A n c) ∧ f 3 = (Value.slice (some ⟨w.heap.size, 0, none⟩) n n) ∧ f 4 = (Value.int .i64 (i : Int)) ∧ Below w.heap.size w w' ∧ (i ≤ n) ∧ (Blk w' w.heap.size 170 ds) ∧ (ds.length = n * 7) ∧ (RepFs w' (xs.take i) (ds.take (i * 7)) G) ∧ (Seg G (w.heap.size + 1) (w').heap.size) ∧ μ = n - i) (n - 0) ?_ ?_
  · exact ⟨0, cs_2728, [], rfl, rfl, vint (a := 0) (by omega), hB_2733, (by omega), (bx_2731), (ln_2732), (by simp [RepFs]), (seg_nil (by omega)), rfl⟩
  rintro m_2736 f_2734 w_2735 ⟨i, ds, G, hs_2738, hs_2739, hs_2740, hB_2737, hi, hrow, hdl, hfs, hsg, rfl⟩
  have z_2741 := hB_2737.size
  have zrow := hrow.lt
  refine w_seq ?_
  refine w_seq ?_
  refine w_region ?_
  refine l_op wn (o_val (x_move (et (v := (Value.int .i64 (i : Int))) hs_2740)) ?_)
  refine l_op wn (o_val (x_move (et (v := (Value.slice A n c)) hs_2738)) ?_)
  refine l_op wn (o_val (x_len Try.underlying124 (et (v := (Value.slice A n c)) rfl)) ?_)
  by_cases h_2742 : (i : Int) < (n : Int)
  rotate_left
  · refine l_op wn (o_val (x_lss (r := false) (et (v := (Value.int .i64 (i : Int))) rfl) (et (v := (Value.int .i64 (n : Int))) rfl) (dec_f h_2742)) ?_)
    refine l_nil ?_
    refine w_if_f (et (v := (Value.bool false)) rfl) ?_
    refine w_exit ?_
    refine Eq.mpr (if_pos rfl) ?_
    refine w_seq ?_
    refine w_region ?_
    refine l_op wn (o_val (x_move (et (v := (Value.slice (some ⟨w.heap.size, 0, none⟩) n n)) hs_2739)) ?_)
    refine l_op wn (o_val (x_assign (et (v := (Value.slice (some ⟨w.heap.size, 0, none⟩) n n)) rfl)) ?_)
    refine l_nil ?_
    refine w_ret ?_
    have en : n = i := by omega
    subst en
    have hf4 := hfs
    rw [ln, List.take_length, ← ln, List.take_of_length_le (by omega)] at hf4
    exact ⟨_, r_tmp (v := (Value.slice (some ⟨w.heap.size, 0, none⟩) n n)) Try.results98 rfl, _, _, rfl, row_rep hrow hf4 ln (Nat.le_refl _) (by omega), row_seg hsg (by omega), hB_2737⟩
  refine l_op wn (o_val (x_lss (r := true) (et (v := (Value.int .i64 (i : Int))) rfl) (et (v := (Value.int .i64 (n : Int))) rfl) (dec_t h_2742)) ?_)
  refine l_nil ?_
  refine w_if_t (et (v := (Value.bool true)) rfl) ?_
  refine w_skip ?_
  refine w_seq ?_
  refine w_block ?_
  refine w_region ?_
  refine l_op wn (o_val (x_move (et (v := (Value.slice (some ⟨w.heap.size, 0, none⟩) n n)) hs_2739)) ?_)
  refine l_op wn (o_val (x_move (et (v := (Value.int .i64 (i : Int))) hs_2740)) ?_)
  refine l_op wn (o_val (x_move (et (v := (Value.slice A n c)) hs_2738)) ?_)
  refine l_op wn (o_val (x_move (et (v := (Value.int .i64 (i : Int))) hs_2740)) ?_)
  obtain ⟨b_2743, o_2744, x_2745, cs_2746, G_2747, hA_2748, hbF_2749, hlt_2750, hx_2751, hrx_2752, hG_2753, hl_2754, hcl_2755⟩ := hr.elem (k := 7) (fun y hy => wd_Expr (ok.mem y hy)) (i := i) (by omega)
  obtain ⟨i_2756, i_2757, s_2758, q_2759, i_2760, xs_2761, A_2762, n_2763, c_2764, F_2765, xs_2767, A_2768, n_2769, c_2770, F_2771, rfl, rfl, rfl, bd_2776, bd_2777, bd_2778, bd_2779, ok_2780, hr_2781, ln_2782, ok_2783, hr_2784, ln_2785⟩ := open_Expr (ok.get hx_2751) hrx_2752
  refine l_op wn (o_val (x_index' (i := i) Try.underlying124 Try.sizeOf164 (et (v := (Value.slice A n c)) rfl) hA_2748 (et (v := (Value.int .i64 (i : Int))) rfl) (by omega) (by omega)) ?_)
  refine l_op wn (o_val (x_loadN (cs := [(Value.int .i64 i_2756), (Value.int .i64 i_2757), (Value.string s_2758), (Value.bool q_2759), (Value.int .i64 i_2760), (Value.slice A_2762 n_2763 c_2764), (Value.slice A_2768 n_2769 c_2770)]) Try.isAgg164 Try.sizeOf164 (et (v := (Value.pointer (some ⟨b_2743, o_2744 + i * 7, none⟩))) rfl) rfl ((hl_2754.keep (hB_2737.block _ hlt_2750)))) ?_)
  have rr_2793 := (ragg (rcons (rint (w := w_2735) (n := i_2756) bd_2776) (rcons (rint (w := w_2735) (n := i_2757) bd_2777) (rcons (rstr (w := w_2735) (n := s_2758) bd_2778) (rcons (ragg (rcons (rbool (w := w_2735) (n := q_2759)) (rcons (rint (w := w_2735) (n := i_2760) bd_2779) (rcons (hr_2781.below hB_2737) (rnil (w := w_2735)))))) (rcons (hr_2784.below hB_2737) (rnil (w := w_2735))))))))
  refine l_op wn (o_call (x_call Try.call107 ef (a1 (et (v := (Value.agg #[(Value.int .i64 i_2756), (Value.int .i64 i_2757), (Value.string s_2758), (Value.bool q_2759), (Value.int .i64 i_2760), (Value.slice A_2762 n_2763 c_2764), (Value.slice A_2768 n_2769 c_2770)])) rfl))) (ih w_2735 (.agg [.int i_2756, .int i_2757, .str s_2758, .agg [.bool q_2759, .int i_2760, .list xs_2761], .list xs_2767]) [(Value.int .i64 i_2756), (Value.int .i64 i_2757), (Value.string s_2758), (Value.bool q_2759), (Value.int .i64 i_2760), (Value.slice A_2762 n_2763 c_2764), (Value.slice A_2768 n_2769 c_2770)] _ (ok_agg rfl (okz_cons (ok_int rfl) (okz_cons (ok_int rfl) (okz_cons (ok_str rfl) (okz_cons (ok_agg rfl (okz_cons (ok_bool rfl) (okz_cons (ok_int rfl) (okz_cons (ok_list rfl ok_2780) okz_nil)))) (okz_cons (ok_list rfl ok_2783) okz_nil)))))) rr_2793 (by have bs := bulks_step hx_2751; have := bulk_list xs; omega) (by have := cnt_mem hx_2751; omega)) ?_)
  rintro _ w_2786 ⟨cs_2792, F_2788, rfl, rp_2789, sg_2790, k_2791⟩
  have hB_2794 := below_next hB_2737 k_2791 (by omega)
  have z_2795 := k_2791.size
  have bx_2796 := hrow.below k_2791
  have rp_2797 := hfs.below k_2791
  obtain ⟨A_2799, n_2800, c_2801, F_2802, A_2803, n_2804, c_2805, F_2806, rfl⟩ := cells_Expr rp_2789
  refine ⟨_, rfl, ?_⟩
  refine l_op wn (o_val (x_index (i := i) Try.underlying133 Try.sizeOf170 (et (v := (Value.slice (some ⟨w.heap.size, 0, none⟩) n n)) rfl) (et (v := (Value.int .i64 (i : Int))) rfl) (by omega) (by omega)) ?_)
  have lt_2811 : i * 7 + 7 ≤ (ds).length := by rw [hdl]; omega
  refine l_op wn (o_storeN (vs := [(Value.int .i64 i_2756), (Value.int .i64 i_2757), (Value.string s_2758), (Value.bool q_2759), (Value.int .i64 i_2760), (Value.slice A_2799 n_2800 c_2801), (Value.slice A_2803 n_2804 c_2805)]) Try.sizeOf170 (et (v := (Value.pointer (some ⟨w.heap.size, 0 + i * 7, none⟩))) rfl) (et (v := (Value.agg #[(Value.int .i64 i_2756), (Value.int .i64 i_2757), (Value.string s_2758), (Value.bool q_2759), (Value.int .i64 i_2760), (Value.slice A_2799 n_2800 c_2801), (Value.slice A_2803 n_2804 c_2805)])) rfl) rfl (by simp [one]) bx_2796 (by omega) ?_)
  intro w_2807 of_2808 bx_2809
  have hB_2812 := below_off hB_2794 of_2808 (by omega)
  have z_2813 := of_2808.size
  have rp_2814 := rp_2797.off of_2808 (fun hm => by have := hsg.bd _ hm; omega)
  have rp_2815 := rp_2789.off of_2808 (fun hm => by have := sg_2790.bd _ hm; omega)
  have ln_2810 : (splice ds (0 + i * 7) [(Value.int .i64 i_2756), (Value.int .i64 i_2757), (Value.string s_2758), (Value.bool q_2759), (Value.int .i64 i_2760), (Value.slice A_2799 n_2800 c_2801), (Value.slice A_2803 n_2804 c_2805)]).length = n * 7 := (len_splice (by simp; omega)).trans hdl
  refine l_nil ?_
  refine w_region ?_
  refine l_op wn (o_val (x_move (et (v := (Value.int .i64 (i : Int))) hs_2740)) ?_)
  refine l_op wn (o_val (x_add (et (v := (Value.int .i64 (i : Int))) rfl) ec (by omega)) ?_)
  refine l_op wn (o_val (x_assign (et (v := (Value.int .i64 ((i : Int) + 1))) rfl)) ?_)
  refine l_nil ?_
  have rr_2816 := rp_2815
  have ht := take_splice (k := 7) (vs := [(Value.int .i64 i_2756), (Value.int .i64 i_2757), (Value.string s_2758), (Value.bool q_2759), (Value.int .i64 i_2760), (Value.slice A_2799 n_2800 c_2801), (Value.slice A_2803 n_2804 c_2805)]) lt_2811 rfl
  have hf2 := RepFs.snoc _ rp_2814 rr_2816
  rw [← take_snoc hx_2751] at hf2
  rw [← ht] at hf2
  exact ⟨n - (i + 1), by omega, ⟨i + 1, (splice ds (0 + i * 7) [(Value.int .i64 i_2756), (Value.int .i64 i_2757), (Value.string s_2758), (Value.bool q_2759), (Value.int .i64 i_2760), (Value.slice A_2799 n_2800 c_2801), (Value.slice A_2803 n_2804 c_2805)]), _, hs_2738, hs_2739, vint (a := ((i : Int) + 1)) (by omega), hB_2812, (by omega), (bx_2809), (ln_2810), (hf2), ((seg_app hsg sg_2790 (by omega)).mono (by omega) (by omega)), rfl⟩⟩
theorem to_Expr_all : ∀ k, To_Expr k
  | 0 => fun w x cs F ok hr hb hc => absurd hc (by have := cnt_pos x; omega)
  | k + 1 => to_Expr_of k (to_ExprS_of k (to_Expr_all k))
theorem to_ExprS (w : World) (xs : List V) (A : Option Addr) (n c : Nat) (F : List Nat) (ok : Oks xs tExpr) (hr : Rep w (.list xs) [.slice A n c] F) (hb : V.bulk (.list xs) ≤ 1048576) : Calls Try.prog 98 #[.slice A n c] w (Ret1 w (.list xs)) := to_ExprS_of _ (to_Expr_all _) w xs A n c F ok hr hb (Nat.le_refl _)
theorem to_Expr (w : World) (x : V) (cs : List Value) (F : List Nat) (ok : Ok x tExpr) (hr : Rep w x cs F) (hb : V.bulk x ≤ 1048576) : Calls Try.prog 107 #[.agg cs.toArray] w (RetS w x) := to_Expr_all _ w x cs F ok hr hb (Nat.le_refl _)

def To_SchemaS (k : Nat) : Prop := ∀ (w : World) (xs : List V) (A : Option Addr) (n c : Nat) (F : List Nat) (ok : Oks xs tSchema) (hr : Rep w (.list xs) [.slice A n c] F) (hb : V.bulk (.list xs) ≤ 1048576) (hc : V.cnts xs ≤ k), Calls Try.prog 69 #[.slice A n c] w (Ret1 w (.list xs))
def To_Schema (k : Nat) : Prop := ∀ (w : World) (x : V) (cs : List Value) (F : List Nat) (ok : Ok x tSchema) (hr : Rep w x cs F) (hb : V.bulk x ≤ 1048576) (hc : V.cnt x ≤ k), Calls Try.prog 87 #[.agg cs.toArray] w (RetS w x)
set_option maxHeartbeats 1000000 in
theorem to_Schema_of (k : Nat) (ih : To_SchemaS k) : To_Schema (k + 1) := by
  intro w x cs F ok hr hb hc
  obtain ⟨i_2817, s_2818, i_2819, xs_2820, A_2821, n_2822, c_2823, F_2824, xs_2826, A_2827, n_2828, c_2829, F_2830, s_2832, s_2833, xs_2834, A_2835, n_2836, c_2837, F_2838, xs_2840, A_2841, n_2842, c_2843, F_2844, s_2846, q_2847, q_2848, q_2849, q_2850, i_2851, i_2852, xs_2853, A_2854, n_2855, c_2856, F_2857, xs_2859, A_2860, n_2861, c_2862, F_2863, xs_2865, A_2866, n_2867, c_2868, F_2869, rfl, rfl, rfl, bd_2874, bd_2875, bd_2876, ok_2877, hr_2878, ln_2879, ok_2880, hr_2881, ln_2882, bd_2883, bd_2884, ok_2885, hr_2886, ln_2887, ok_2888, hr_2889, ln_2890, bd_2891, bd_2892, bd_2893, ok_2894, hr_2895, ln_2896, ok_2897, hr_2898, ln_2899, ok_2900, hr_2901, ln_2902⟩ := open_Schema ok hr
  have hbk : V.bulk (.agg [.int i_2817, .str s_2818, .agg [.int i_2819, .list xs_2820, .list xs_2826, .str s_2832, .str s_2833], .list xs_2834, .list xs_2840, .str s_2846, .bool q_2847, .bool q_2848, .bool q_2849, .bool q_2850, .int i_2851, .int i_2852, .list xs_2853, .list xs_2859, .list xs_2865]) = s_2818.size + V.bulk (.agg [.int i_2819, .list xs_2820, .list xs_2826, .str s_2832, .str s_2833]) + V.bulk (.list xs_2834) + V.bulk (.list xs_2840) + s_2846.size + V.bulk (.list xs_2853) + V.bulk (.list xs_2859) + V.bulk (.list xs_2865) := by simp only [V.bulk, V.bulks] <;> omega
  have hck : V.cnts xs_2865 < V.cnt (.agg [.int i_2817, .str s_2818, .agg [.int i_2819, .list xs_2820, .list xs_2826, .str s_2832, .str s_2833], .list xs_2834, .list xs_2840, .str s_2846, .bool q_2847, .bool q_2848, .bool q_2849, .bool q_2850, .int i_2851, .int i_2852, .list xs_2853, .list xs_2859, .list xs_2865]) := by simp only [V.cnt, V.cnts]; omega
  have hB0 := Below.refl w.heap.size w
  refine enter (N := 56) Try.func87 rfl Try.ntmps87 rfl ?_
  refine w_seq ?_
  refine w_region ?_
  refine l_op wn (o_new (x_box (cs := [(Value.int .i64 i_2817), (Value.string s_2818), (Value.int .i64 i_2819), (Value.slice A_2821 n_2822 c_2823), (Value.slice A_2827 n_2828 c_2829), (Value.string s_2832), (Value.string s_2833), (Value.slice A_2835 n_2836 c_2837), (Value.slice A_2841 n_2842 c_2843), (Value.string s_2846), (Value.bool q_2847), (Value.bool q_2848), (Value.bool q_2849), (Value.bool q_2850), (Value.int .i64 i_2851), (Value.int .i64 i_2852), (Value.slice A_2854 n_2855 c_2856), (Value.slice A_2860 n_2861 c_2862), (Value.slice A_2866 n_2867 c_2868)]) (et (v := (Value.agg #[(Value.int .i64 i_2817), (Value.string s_2818), (Value.int .i64 i_2819), (Value.slice A_2821 n_2822 c_2823), (Value.slice A_2827 n_2828 c_2829), (Value.string s_2832), (Value.string s_2833), (Value.slice A_2835 n_2836 c_2837), (Value.slice A_2841 n_2842 c_2843), (Value.string s_2846), (Value.bool q_2847), (Value.bool q_2848), (Value.bool q_2849), (Value.bool q_2850), (Value.int .i64 i_2851), (Value.int .i64 i_2852), (Value.slice A_2854 n_2855 c_2856), (Value.slice A_2860 n_2861 c_2862), (Value.slice A_2866 n_2867 c_2868)])) rfl)) ?_)
  intro w_2903 z_2904 k_2905 bx_2906
  have hB_2907 := below_next hB0 k_2905 (by omega)
  refine l_op wn (o_new (x_alloc (cs := [(Value.int .i64 0), (Value.string (⟨#[]⟩)), (Value.int .i64 0), (Value.slice none 0 0), (Value.slice none 0 0), (Value.string (⟨#[]⟩)), (Value.string (⟨#[]⟩)), (Value.slice none 0 0), (Value.slice none 0 0), (Value.string (⟨#[]⟩)), (Value.bool false), (Value.bool false), (Value.bool false), (Value.bool false), (Value.int .i64 0), (Value.int .i64 0), (Value.slice none 0 0), (Value.slice none 0 0), (Value.slice none 0 0)]) Try.zeroValue135) ?_)
  intro w_2908 z_2909 k_2910 bx_2911
  have hB_2912 := below_next hB_2907 k_2910 (by omega)
  have bx_2913 := bx_2906.below k_2910
  refine l_nil ?_
  refine w_seq ?_
  refine w_region ?_
  refine l_op wn (o_new (x_alloc (cs := [(Value.int .i64 0), (Value.string (⟨#[]⟩)), (Value.int .i64 0), (Value.slice none 0 0), (Value.slice none 0 0), (Value.string (⟨#[]⟩)), (Value.string (⟨#[]⟩)), (Value.slice none 0 0), (Value.slice none 0 0), (Value.string (⟨#[]⟩)), (Value.bool false), (Value.bool false), (Value.bool false), (Value.bool false), (Value.int .i64 0), (Value.int .i64 0), (Value.slice none 0 0), (Value.slice none 0 0), (Value.slice none 0 0)]) Try.zeroValue135) ?_)
  intro w_2914 z_2915 k_2916 bx_2917
  have hB_2918 := below_next hB_2912 k_2916 (by omega)
  have bx_2919 := bx_2913.below k_2916
  have bx_2920 := bx_2911.below k_2916
  refine l_nil ?_
  refine w_seq ?_
  refine w_region ?_
  refine l_op wn (o_val (x_field (k := 0) (j := 0) Try.underlying126 rfl Try.sizeOf3 rfl (et (v := (Value.pointer (some ⟨w.heap.size, 0, none⟩))) rfl)) ?_)
  refine l_op wn (o_val (x_load (v := (Value.int .i64 i_2817)) Try.isAgg3 (et (v := (Value.pointer (some ⟨w.heap.size, 0, none⟩))) rfl) ((bx_2919.cell 0).trans rfl)) ?_)
  refine l_op wn (o_val (x_field (k := 0) (j := 0) Try.underlying135 rfl Try.sizeOf3 rfl (et (v := (Value.pointer (some ⟨w_2908.heap.size, 0, none⟩))) rfl)) ?_)
  refine l_op wn (o_store Try.sizeOf3 (et (v := (Value.pointer (some ⟨w_2908.heap.size, 0, none⟩))) rfl) (et (v := (Value.int .i64 i_2817)) rfl) rfl bx_2917 rfl ?_)
  intro w_2921 of_2922 bx_2923
  have bx_2924 : Blk w_2921 w_2908.heap.size 135 [(Value.int .i64 i_2817), (Value.string (⟨#[]⟩)), (Value.int .i64 0), (Value.slice none 0 0), (Value.slice none 0 0), (Value.string (⟨#[]⟩)), (Value.string (⟨#[]⟩)), (Value.slice none 0 0), (Value.slice none 0 0), (Value.string (⟨#[]⟩)), (Value.bool false), (Value.bool false), (Value.bool false), (Value.bool false), (Value.int .i64 0), (Value.int .i64 0), (Value.slice none 0 0), (Value.slice none 0 0), (Value.slice none 0 0)] := bx_2923
  have hB_2925 := below_off hB_2918 of_2922 (by omega)
  have z_2926 := of_2922.size
  have bx_2927 := bx_2919.off of_2922 (by omega)
  have bx_2928 := bx_2920.off of_2922 (by omega)
  refine l_nil ?_
  refine w_seq ?_
  refine w_region ?_
  refine l_op wn (o_val (x_field (k := 0) (j := 1) Try.underlying126 rfl Try.sizeOf9 rfl (et (v := (Value.pointer (some ⟨w.heap.size, 0, none⟩))) rfl)) ?_)
  refine l_op wn (o_val (x_load (v := (Value.string s_2818)) Try.isAgg9 (et (v := (Value.pointer (some ⟨w.heap.size, 1, none⟩))) rfl) ((bx_2927.cell 1).trans rfl)) ?_)
  refine l_op wn (o_val (x_field (k := 0) (j := 1) Try.underlying135 rfl Try.sizeOf9 rfl (et (v := (Value.pointer (some ⟨w_2908.heap.size, 0, none⟩))) rfl)) ?_)
  refine l_op wn (o_store Try.sizeOf9 (et (v := (Value.pointer (some ⟨w_2908.heap.size, 1, none⟩))) rfl) (et (v := (Value.string s_2818)) rfl) rfl bx_2924 rfl ?_)
  intro w_2929 of_2930 bx_2931
  have bx_2932 : Blk w_2929 w_2908.heap.size 135 [(Value.int .i64 i_2817), (Value.string s_2818), (Value.int .i64 0), (Value.slice none 0 0), (Value.slice none 0 0), (Value.string (⟨#[]⟩)), (Value.string (⟨#[]⟩)), (Value.slice none 0 0), (Value.slice none 0 0), (Value.string (⟨#[]⟩)), (Value.bool false), (Value.bool false), (Value.bool false), (Value.bool false), (Value.int .i64 0), (Value.int .i64 0), (Value.slice none 0 0), (Value.slice none 0 0), (Value.slice none 0 0)] := bx_2931
  have hB_2933 := below_off hB_2925 of_2930 (by omega)
  have z_2934 := of_2930.size
  have bx_2935 := bx_2927.off of_2930 (by omega)
  have bx_2936 := bx_2928.off of_2930 (by omega)
  refine l_nil ?_
  refine w_seq ?_
  refine w_region ?_
  refine l_op wn (o_val (x_field (k := 4) (j := 2) Try.underlying126 rfl Try.sizeOf123 rfl (et (v := (Value.pointer (some ⟨w.heap.size, 0, none⟩))) rfl)) ?_)
  refine l_op wn (o_val (x_loadN (cs := [(Value.int .i64 i_2819), (Value.slice A_2821 n_2822 c_2823), (Value.slice A_2827 n_2828 c_2829), (Value.string s_2832), (Value.string s_2833)]) Try.isAgg123 Try.sizeOf123 (et (v := (Value.pointer (some ⟨w.heap.size, 2, none⟩))) rfl) rfl (bx_2935.lies.sub 2 5)) ?_)
  have rr_2944 := (ragg (rcons (rint (w := w_2929) (n := i_2819) bd_2876) (rcons (hr_2878.below hB_2933) (rcons (hr_2881.below hB_2933) (rcons (rstr (w := w_2929) (n := s_2832) bd_2883) (rcons (rstr (w := w_2929) (n := s_2833) bd_2884) (rnil (w := w_2929))))))))
  refine l_op wn (o_call (x_call Try.call97 ef (a1 (et (v := (Value.agg #[(Value.int .i64 i_2819), (Value.slice A_2821 n_2822 c_2823), (Value.slice A_2827 n_2828 c_2829), (Value.string s_2832), (Value.string s_2833)])) rfl))) (to_Type w_2929 (.agg [.int i_2819, .list xs_2820, .list xs_2826, .str s_2832, .str s_2833]) [(Value.int .i64 i_2819), (Value.slice A_2821 n_2822 c_2823), (Value.slice A_2827 n_2828 c_2829), (Value.string s_2832), (Value.string s_2833)] _ (ok_agg rfl (okz_cons (ok_int rfl) (okz_cons (ok_list rfl ok_2877) (okz_cons (ok_list rfl ok_2880) (okz_cons (ok_str rfl) (okz_cons (ok_str rfl) okz_nil)))))) rr_2944 (by omega)) ?_)
  rintro _ w_2937 ⟨cs_2943, F_2939, rfl, rp_2940, sg_2941, k_2942⟩
  have hB_2945 := below_next hB_2933 k_2942 (by omega)
  have z_2946 := k_2942.size
  have bx_2947 := bx_2935.below k_2942
  have bx_2948 := bx_2936.below k_2942
  have bx_2949 := bx_2932.below k_2942
  obtain ⟨A_2951, n_2952, c_2953, F_2954, A_2955, n_2956, c_2957, F_2958, rfl⟩ := cells_Type rp_2940
  refine ⟨_, rfl, ?_⟩
  refine l_op wn (o_val (x_field (k := 4) (j := 2) Try.underlying135 rfl Try.sizeOf132 rfl (et (v := (Value.pointer (some ⟨w_2908.heap.size, 0, none⟩))) rfl)) ?_)
  refine l_op wn (o_storeN (vs := [(Value.int .i64 i_2819), (Value.slice A_2951 n_2952 c_2953), (Value.slice A_2955 n_2956 c_2957), (Value.string s_2832), (Value.string s_2833)]) Try.sizeOf132 (et (v := (Value.pointer (some ⟨w_2908.heap.size, 2, none⟩))) rfl) (et (v := (Value.agg #[(Value.int .i64 i_2819), (Value.slice A_2951 n_2952 c_2953), (Value.slice A_2955 n_2956 c_2957), (Value.string s_2832), (Value.string s_2833)])) rfl) rfl (by simp [one]) bx_2949 (by simp) ?_)
  intro w_2959 of_2960 bx_2961
  have bx_2962 : Blk w_2959 w_2908.heap.size 135 [(Value.int .i64 i_2817), (Value.string s_2818), (Value.int .i64 i_2819), (Value.slice A_2951 n_2952 c_2953), (Value.slice A_2955 n_2956 c_2957), (Value.string s_2832), (Value.string s_2833), (Value.slice none 0 0), (Value.slice none 0 0), (Value.string (⟨#[]⟩)), (Value.bool false), (Value.bool false), (Value.bool false), (Value.bool false), (Value.int .i64 0), (Value.int .i64 0), (Value.slice none 0 0), (Value.slice none 0 0), (Value.slice none 0 0)] := bx_2961
  have hB_2963 := below_off hB_2945 of_2960 (by omega)
  have z_2964 := of_2960.size
  have bx_2965 := bx_2947.off of_2960 (by omega)
  have bx_2966 := bx_2948.off of_2960 (by omega)
  have rp_2967 := rp_2940.off of_2960 (fun hm => by have := sg_2941.bd _ hm; omega)
  refine l_nil ?_
  refine w_seq ?_
  refine w_region ?_
  refine l_op wn (o_val (x_field (k := 0) (j := 7) Try.underlying126 rfl Try.sizeOf29 rfl (et (v := (Value.pointer (some ⟨w.heap.size, 0, none⟩))) rfl)) ?_)
  refine l_op wn (o_val (x_load (v := (Value.slice A_2835 n_2836 c_2837)) Try.isAgg29 (et (v := (Value.pointer (some ⟨w.heap.size, 7, none⟩))) rfl) ((bx_2965.cell 7).trans rfl)) ?_)
  refine l_op wn (o_call (x_call Try.call16 ef (a1 (et (v := (Value.slice A_2835 n_2836 c_2837)) rfl))) (to_StrS w_2959 xs_2834 A_2835 n_2836 c_2837 _ ok_2885 (hr_2886.below hB_2963) (by omega)) ?_)
  rintro _ w_2968 ⟨c_2969, F_2970, rfl, rp_2971, sg_2972, k_2973⟩
  obtain ⟨A_2974, n_2975, c_2976, e_c_2969, ln_2977⟩ := rp_2971.list_inv
  simp only [List.cons.injEq, and_true] at e_c_2969
  subst e_c_2969
  have hB_2978 := below_next hB_2963 k_2973 (by omega)
  have z_2979 := k_2973.size
  have bx_2980 := bx_2965.below k_2973
  have bx_2981 := bx_2966.below k_2973
  have bx_2982 := bx_2962.below k_2973
  have rp_2983 := rp_2967.below k_2973
  refine ⟨_, rfl, ?_⟩
  refine l_op wn (o_val (x_field (k := 0) (j := 7) Try.underlying135 rfl Try.sizeOf29 rfl (et (v := (Value.pointer (some ⟨w_2908.heap.size, 0, none⟩))) rfl)) ?_)
  refine l_op wn (o_store Try.sizeOf29 (et (v := (Value.pointer (some ⟨w_2908.heap.size, 7, none⟩))) rfl) (et (v := (Value.slice A_2974 n_2975 c_2976)) rfl) rfl bx_2982 rfl ?_)
  intro w_2985 of_2986 bx_2987
  have bx_2988 : Blk w_2985 w_2908.heap.size 135 [(Value.int .i64 i_2817), (Value.string s_2818), (Value.int .i64 i_2819), (Value.slice A_2951 n_2952 c_2953), (Value.slice A_2955 n_2956 c_2957), (Value.string s_2832), (Value.string s_2833), (Value.slice A_2974 n_2975 c_2976), (Value.slice none 0 0), (Value.string (⟨#[]⟩)), (Value.bool false), (Value.bool false), (Value.bool false), (Value.bool false), (Value.int .i64 0), (Value.int .i64 0), (Value.slice none 0 0), (Value.slice none 0 0), (Value.slice none 0 0)] := bx_2987
  have hB_2989 := below_off hB_2978 of_2986 (by omega)
  have z_2990 := of_2986.size
  have bx_2991 := bx_2980.off of_2986 (by omega)
  have bx_2992 := bx_2981.off of_2986 (by omega)
  have rp_2993 := rp_2983.off of_2986 (fun hm => by have := sg_2941.bd _ hm; omega)
  have rp_2994 := rp_2971.off of_2986 (fun hm => by have := sg_2972.bd _ hm; omega)
  refine l_nil ?_
  refine w_seq ?_
  refine w_region ?_
  refine l_op wn (o_val (x_field (k := 0) (j := 8) Try.underlying126 rfl Try.sizeOf29 rfl (et (v := (Value.pointer (some ⟨w.heap.size, 0, none⟩))) rfl)) ?_)
  refine l_op wn (o_val (x_load (v := (Value.slice A_2841 n_2842 c_2843)) Try.isAgg29 (et (v := (Value.pointer (some ⟨w.heap.size, 8, none⟩))) rfl) ((bx_2991.cell 8).trans rfl)) ?_)
  refine l_op wn (o_call (x_call Try.call16 ef (a1 (et (v := (Value.slice A_2841 n_2842 c_2843)) rfl))) (to_StrS w_2985 xs_2840 A_2841 n_2842 c_2843 _ ok_2888 (hr_2889.below hB_2989) (by omega)) ?_)
  rintro _ w_2995 ⟨c_2996, F_2997, rfl, rp_2998, sg_2999, k_3000⟩
  obtain ⟨A_3001, n_3002, c_3003, e_c_2996, ln_3004⟩ := rp_2998.list_inv
  simp only [List.cons.injEq, and_true] at e_c_2996
  subst e_c_2996
  have hB_3005 := below_next hB_2989 k_3000 (by omega)
  have z_3006 := k_3000.size
  have bx_3007 := bx_2991.below k_3000
  have bx_3008 := bx_2992.below k_3000
  have bx_3009 := bx_2988.below k_3000
  have rp_3010 := rp_2993.below k_3000
  have rp_3011 := rp_2994.below k_3000
  refine ⟨_, rfl, ?_⟩
  refine l_op wn (o_val (x_field (k := 0) (j := 8) Try.underlying135 rfl Try.sizeOf29 rfl (et (v := (Value.pointer (some ⟨w_2908.heap.size, 0, none⟩))) rfl)) ?_)
  refine l_op wn (o_store Try.sizeOf29 (et (v := (Value.pointer (some ⟨w_2908.heap.size, 8, none⟩))) rfl) (et (v := (Value.slice A_3001 n_3002 c_3003)) rfl) rfl bx_3009 rfl ?_)
  intro w_3013 of_3014 bx_3015
  have bx_3016 : Blk w_3013 w_2908.heap.size 135 [(Value.int .i64 i_2817), (Value.string s_2818), (Value.int .i64 i_2819), (Value.slice A_2951 n_2952 c_2953), (Value.slice A_2955 n_2956 c_2957), (Value.string s_2832), (Value.string s_2833), (Value.slice A_2974 n_2975 c_2976), (Value.slice A_3001 n_3002 c_3003), (Value.string (⟨#[]⟩)), (Value.bool false), (Value.bool false), (Value.bool false), (Value.bool false), (Value.int .i64 0), (Value.int .i64 0), (Value.slice none 0 0), (Value.slice none 0 0), (Value.slice none 0 0)] := bx_3015
  have hB_3017 := below_off hB_3005 of_3014 (by omega)
  have z_3018 := of_3014.size
  have bx_3019 := bx_3007.off of_3014 (by omega)
  have bx_3020 := bx_3008.off of_3014 (by omega)
  have rp_3021 := rp_3010.off of_3014 (fun hm => by have := sg_2941.bd _ hm; omega)
  have rp_3022 := rp_3011.off of_3014 (fun hm => by have := sg_2972.bd _ hm; omega)
  have rp_3023 := rp_2998.off of_3014 (fun hm => by have := sg_2999.bd _ hm; omega)
  refine l_nil ?_
  refine w_seq ?_
  refine w_region ?_
  refine l_op wn (o_val (x_field (k := 0) (j := 9) Try.underlying126 rfl Try.sizeOf9 rfl (et (v := (Value.pointer (some ⟨w.heap.size, 0, none⟩))) rfl)) ?_)
  refine l_op wn (o_val (x_load (v := (Value.string s_2846)) Try.isAgg9 (et (v := (Value.pointer (some ⟨w.heap.size, 9, none⟩))) rfl) ((bx_3019.cell 9).trans rfl)) ?_)
  refine l_op wn (o_val (x_field (k := 0) (j := 9) Try.underlying135 rfl Try.sizeOf9 rfl (et (v := (Value.pointer (some ⟨w_2908.heap.size, 0, none⟩))) rfl)) ?_)
  refine l_op wn (o_store Try.sizeOf9 (et (v := (Value.pointer (some ⟨w_2908.heap.size, 9, none⟩))) rfl) (et (v := (Value.string s_2846)) rfl) rfl bx_3016 rfl ?_)
  intro w_3024 of_3025 bx_3026
  have bx_3027 : Blk w_3024 w_2908.heap.size 135 [(Value.int .i64 i_2817), (Value.string s_2818), (Value.int .i64 i_2819), (Value.slice A_2951 n_2952 c_2953), (Value.slice A_2955 n_2956 c_2957), (Value.string s_2832), (Value.string s_2833), (Value.slice A_2974 n_2975 c_2976), (Value.slice A_3001 n_3002 c_3003), (Value.string s_2846), (Value.bool false), (Value.bool false), (Value.bool false), (Value.bool false), (Value.int .i64 0), (Value.int .i64 0), (Value.slice none 0 0), (Value.slice none 0 0), (Value.slice none 0 0)] := bx_3026
  have hB_3028 := below_off hB_3017 of_3025 (by omega)
  have z_3029 := of_3025.size
  have bx_3030 := bx_3019.off of_3025 (by omega)
  have bx_3031 := bx_3020.off of_3025 (by omega)
  have rp_3032 := rp_3021.off of_3025 (fun hm => by have := sg_2941.bd _ hm; omega)
  have rp_3033 := rp_3022.off of_3025 (fun hm => by have := sg_2972.bd _ hm; omega)
  have rp_3034 := rp_3023.off of_3025 (fun hm => by have := sg_2999.bd _ hm; omega)
  refine l_nil ?_
  refine w_seq ?_
  refine w_region ?_
  refine l_op wn (o_val (x_field (k := 0) (j := 10) Try.underlying126 rfl Try.sizeOf4 rfl (et (v := (Value.pointer (some ⟨w.heap.size, 0, none⟩))) rfl)) ?_)
  refine l_op wn (o_val (x_load (v := (Value.bool q_2847)) Try.isAgg4 (et (v := (Value.pointer (some ⟨w.heap.size, 10, none⟩))) rfl) ((bx_3030.cell 10).trans rfl)) ?_)
  refine l_op wn (o_val (x_field (k := 0) (j := 10) Try.underlying135 rfl Try.sizeOf4 rfl (et (v := (Value.pointer (some ⟨w_2908.heap.size, 0, none⟩))) rfl)) ?_)
  refine l_op wn (o_store Try.sizeOf4 (et (v := (Value.pointer (some ⟨w_2908.heap.size, 10, none⟩))) rfl) (et (v := (Value.bool q_2847)) rfl) rfl bx_3027 rfl ?_)
  intro w_3035 of_3036 bx_3037
  have bx_3038 : Blk w_3035 w_2908.heap.size 135 [(Value.int .i64 i_2817), (Value.string s_2818), (Value.int .i64 i_2819), (Value.slice A_2951 n_2952 c_2953), (Value.slice A_2955 n_2956 c_2957), (Value.string s_2832), (Value.string s_2833), (Value.slice A_2974 n_2975 c_2976), (Value.slice A_3001 n_3002 c_3003), (Value.string s_2846), (Value.bool q_2847), (Value.bool false), (Value.bool false), (Value.bool false), (Value.int .i64 0), (Value.int .i64 0), (Value.slice none 0 0), (Value.slice none 0 0), (Value.slice none 0 0)] := bx_3037
  have hB_3039 := below_off hB_3028 of_3036 (by omega)
  have z_3040 := of_3036.size
  have bx_3041 := bx_3030.off of_3036 (by omega)
  have bx_3042 := bx_3031.off of_3036 (by omega)
  have rp_3043 := rp_3032.off of_3036 (fun hm => by have := sg_2941.bd _ hm; omega)
  have rp_3044 := rp_3033.off of_3036 (fun hm => by have := sg_2972.bd _ hm; omega)
  have rp_3045 := rp_3034.off of_3036 (fun hm => by have := sg_2999.bd _ hm; omega)
  refine l_nil ?_
  refine w_seq ?_
  refine w_region ?_
  refine l_op wn (o_val (x_field (k := 0) (j := 11) Try.underlying126 rfl Try.sizeOf4 rfl (et (v := (Value.pointer (some ⟨w.heap.size, 0, none⟩))) rfl)) ?_)
  refine l_op wn (o_val (x_load (v := (Value.bool q_2848)) Try.isAgg4 (et (v := (Value.pointer (some ⟨w.heap.size, 11, none⟩))) rfl) ((bx_3041.cell 11).trans rfl)) ?_)
  refine l_op wn (o_val (x_field (k := 0) (j := 11) Try.underlying135 rfl Try.sizeOf4 rfl (et (v := (Value.pointer (some ⟨w_2908.heap.size, 0, none⟩))) rfl)) ?_)
  refine l_op wn (o_store Try.sizeOf4 (et (v := (Value.pointer (some ⟨w_2908.heap.size, 11, none⟩))) rfl) (et (v := (Value.bool q_2848)) rfl) rfl bx_3038 rfl ?_)
  intro w_3046 of_3047 bx_3048
  have bx_3049 : Blk w_3046 w_2908.heap.size 135 [(Value.int .i64 i_2817), (Value.string s_2818), (Value.int .i64 i_2819), (Value.slice A_2951 n_2952 c_2953), (Value.slice A_2955 n_2956 c_2957), (Value.string s_2832), (Value.string s_2833), (Value.slice A_2974 n_2975 c_2976), (Value.slice A_3001 n_3002 c_3003), (Value.string s_2846), (Value.bool q_2847), (Value.bool q_2848), (Value.bool false), (Value.bool false), (Value.int .i64 0), (Value.int .i64 0), (Value.slice none 0 0), (Value.slice none 0 0), (Value.slice none 0 0)] := bx_3048
  have hB_3050 := below_off hB_3039 of_3047 (by omega)
  have z_3051 := of_3047.size
  have bx_3052 := bx_3041.off of_3047 (by omega)
  have bx_3053 := bx_3042.off of_3047 (by omega)
  have rp_3054 := rp_3043.off of_3047 (fun hm => by have := sg_2941.bd _ hm; omega)
  have rp_3055 := rp_3044.off of_3047 (fun hm => by have := sg_2972.bd _ hm; omega)
  have rp_3056 := rp_3045.off of_3047 (fun hm => by have := sg_2999.bd _ hm; omega)
  refine l_nil ?_
  refine w_seq ?_
  refine w_region ?_
  refine l_op wn (o_val (x_field (k := 0) (j := 12) Try.underlying126 rfl Try.sizeOf4 rfl (et (v := (Value.pointer (some ⟨w.heap.size, 0, none⟩))) rfl)) ?_)
  refine l_op wn (o_val (x_load (v := (Value.bool q_2849)) Try.isAgg4 (et (v := (Value.pointer (some ⟨w.heap.size, 12, none⟩))) rfl) ((bx_3052.cell 12).trans rfl)) ?_)
  refine l_op wn (o_val (x_field (k := 0) (j := 12) Try.underlying135 rfl Try.sizeOf4 rfl (et (v := (Value.pointer (some ⟨w_2908.heap.size, 0, none⟩))) rfl)) ?_)
  refine l_op wn (o_store Try.sizeOf4 (et (v := (Value.pointer (some ⟨w_2908.heap.size, 12, none⟩))) rfl) (et (v := (Value.bool q_2849)) rfl) rfl bx_3049 rfl ?_)
  intro w_3057 of_3058 bx_3059
  have bx_3060 : Blk w_3057 w_2908.heap.size 135 [(Value.int .i64 i_2817), (Value.string s_2818), (Value.int .i64 i_2819), (Value.slice A_2951 n_2952 c_2953), (Value.slice A_2955 n_2956 c_2957), (Value.string s_2832), (Value.string s_2833), (Value.slice A_2974 n_2975 c_2976), (Value.slice A_3001 n_3002 c_3003), (Value.string s_2846), (Value.bool q_2847), (Value.bool q_2848), (Value.bool q_2849), (Value.bool false), (Value.int .i64 0), (Value.int .i64 0), (Value.slice none 0 0), (Value.slice none 0 0), (Value.slice none 0 0)] := bx_3059
  have hB_3061 := below_off hB_3050 of_3058 (by omega)
  have z_3062 := of_3058.size
  have bx_3063 := bx_3052.off of_3058 (by omega)
  have bx_3064 := bx_3053.off of_3058 (by omega)
  have rp_3065 := rp_3054.off of_3058 (fun hm => by have := sg_2941.bd _ hm; omega)
  have rp_3066 := rp_3055.off of_3058 (fun hm => by have := sg_2972.bd _ hm; omega)
  have rp_3067 := rp_3056.off of_3058 (fun hm => by have := sg_2999.bd _ hm; omega)
  refine l_nil ?_
  refine w_seq ?_
  refine w_region ?_
  refine l_op wn (o_val (x_field (k := 0) (j := 13) Try.underlying126 rfl Try.sizeOf4 rfl (et (v := (Value.pointer (some ⟨w.heap.size, 0, none⟩))) rfl)) ?_)
  refine l_op wn (o_val (x_load (v := (Value.bool q_2850)) Try.isAgg4 (et (v := (Value.pointer (some ⟨w.heap.size, 13, none⟩))) rfl) ((bx_3063.cell 13).trans rfl)) ?_)
  refine l_op wn (o_val (x_field (k := 0) (j := 13) Try.underlying135 rfl Try.sizeOf4 rfl (et (v := (Value.pointer (some ⟨w_2908.heap.size, 0, none⟩))) rfl)) ?_)
  refine l_op wn (o_store Try.sizeOf4 (et (v := (Value.pointer (some ⟨w_2908.heap.size, 13, none⟩))) rfl) (et (v := (Value.bool q_2850)) rfl) rfl bx_3060 rfl ?_)
  intro w_3068 of_3069 bx_3070
  have bx_3071 : Blk w_3068 w_2908.heap.size 135 [(Value.int .i64 i_2817), (Value.string s_2818), (Value.int .i64 i_2819), (Value.slice A_2951 n_2952 c_2953), (Value.slice A_2955 n_2956 c_2957), (Value.string s_2832), (Value.string s_2833), (Value.slice A_2974 n_2975 c_2976), (Value.slice A_3001 n_3002 c_3003), (Value.string s_2846), (Value.bool q_2847), (Value.bool q_2848), (Value.bool q_2849), (Value.bool q_2850), (Value.int .i64 0), (Value.int .i64 0), (Value.slice none 0 0), (Value.slice none 0 0), (Value.slice none 0 0)] := bx_3070
  have hB_3072 := below_off hB_3061 of_3069 (by omega)
  have z_3073 := of_3069.size
  have bx_3074 := bx_3063.off of_3069 (by omega)
  have bx_3075 := bx_3064.off of_3069 (by omega)
  have rp_3076 := rp_3065.off of_3069 (fun hm => by have := sg_2941.bd _ hm; omega)
  have rp_3077 := rp_3066.off of_3069 (fun hm => by have := sg_2972.bd _ hm; omega)
  have rp_3078 := rp_3067.off of_3069 (fun hm => by have := sg_2999.bd _ hm; omega)
  refine l_nil ?_
  refine w_seq ?_
  refine w_region ?_
  refine l_op wn (o_val (x_field (k := 0) (j := 14) Try.underlying126 rfl Try.sizeOf3 rfl (et (v := (Value.pointer (some ⟨w.heap.size, 0, none⟩))) rfl)) ?_)
  refine l_op wn (o_val (x_load (v := (Value.int .i64 i_2851)) Try.isAgg3 (et (v := (Value.pointer (some ⟨w.heap.size, 14, none⟩))) rfl) ((bx_3074.cell 14).trans rfl)) ?_)
  refine l_op wn (o_val (x_field (k := 0) (j := 14) Try.underlying135 rfl Try.sizeOf3 rfl (et (v := (Value.pointer (some ⟨w_2908.heap.size, 0, none⟩))) rfl)) ?_)
  refine l_op wn (o_store Try.sizeOf3 (et (v := (Value.pointer (some ⟨w_2908.heap.size, 14, none⟩))) rfl) (et (v := (Value.int .i64 i_2851)) rfl) rfl bx_3071 rfl ?_)
  intro w_3079 of_3080 bx_3081
  have bx_3082 : Blk w_3079 w_2908.heap.size 135 [(Value.int .i64 i_2817), (Value.string s_2818), (Value.int .i64 i_2819), (Value.slice A_2951 n_2952 c_2953), (Value.slice A_2955 n_2956 c_2957), (Value.string s_2832), (Value.string s_2833), (Value.slice A_2974 n_2975 c_2976), (Value.slice A_3001 n_3002 c_3003), (Value.string s_2846), (Value.bool q_2847), (Value.bool q_2848), (Value.bool q_2849), (Value.bool q_2850), (Value.int .i64 i_2851), (Value.int .i64 0), (Value.slice none 0 0), (Value.slice none 0 0), (Value.slice none 0 0)] := bx_3081
  have hB_3083 := below_off hB_3072 of_3080 (by omega)
  have z_3084 := of_3080.size
  have bx_3085 := bx_3074.off of_3080 (by omega)
  have bx_3086 := bx_3075.off of_3080 (by omega)
  have rp_3087 := rp_3076.off of_3080 (fun hm => by have := sg_2941.bd _ hm; omega)
  have rp_3088 := rp_3077.off of_3080 (fun hm => by have := sg_2972.bd _ hm; omega)
  have rp_3089 := rp_3078.off of_3080 (fun hm => by have := sg_2999.bd _ hm; omega)
  refine l_nil ?_
  refine w_seq ?_
  refine w_region ?_
  refine l_op wn (o_val (x_field (k := 0) (j := 15) Try.underlying126 rfl Try.sizeOf3 rfl (et (v := (Value.pointer (some ⟨w.heap.size, 0, none⟩))) rfl)) ?_)
  refine l_op wn (o_val (x_load (v := (Value.int .i64 i_2852)) Try.isAgg3 (et (v := (Value.pointer (some ⟨w.heap.size, 15, none⟩))) rfl) ((bx_3085.cell 15).trans rfl)) ?_)
  refine l_op wn (o_val (x_field (k := 0) (j := 15) Try.underlying135 rfl Try.sizeOf3 rfl (et (v := (Value.pointer (some ⟨w_2908.heap.size, 0, none⟩))) rfl)) ?_)
  refine l_op wn (o_store Try.sizeOf3 (et (v := (Value.pointer (some ⟨w_2908.heap.size, 15, none⟩))) rfl) (et (v := (Value.int .i64 i_2852)) rfl) rfl bx_3082 rfl ?_)
  intro w_3090 of_3091 bx_3092
  have bx_3093 : Blk w_3090 w_2908.heap.size 135 [(Value.int .i64 i_2817), (Value.string s_2818), (Value.int .i64 i_2819), (Value.slice A_2951 n_2952 c_2953), (Value.slice A_2955 n_2956 c_2957), (Value.string s_2832), (Value.string s_2833), (Value.slice A_2974 n_2975 c_2976), (Value.slice A_3001 n_3002 c_3003), (Value.string s_2846), (Value.bool q_2847), (Value.bool q_2848), (Value.bool q_2849), (Value.bool q_2850), (Value.int .i64 i_2851), (Value.int .i64 i_2852), (Value.slice none 0 0), (Value.slice none 0 0), (Value.slice none 0 0)] := bx_3092
  have hB_3094 := below_off hB_3083 of_3091 (by omega)
  have z_3095 := of_3091.size
  have bx_3096 := bx_3085.off of_3091 (by omega)
  have bx_3097 := bx_3086.off of_3091 (by omega)
  have rp_3098 := rp_3087.off of_3091 (fun hm => by have := sg_2941.bd _ hm; omega)
  have rp_3099 := rp_3088.off of_3091 (fun hm => by have := sg_2972.bd _ hm; omega)
  have rp_3100 := rp_3089.off of_3091 (fun hm => by have := sg_2999.bd _ hm; omega)
  refine l_nil ?_
  refine w_seq ?_
  refine w_region ?_
  refine l_op wn (o_val (x_field (k := 0) (j := 16) Try.underlying126 rfl Try.sizeOf124 rfl (et (v := (Value.pointer (some ⟨w.heap.size, 0, none⟩))) rfl)) ?_)
  refine l_op wn (o_val (x_load (v := (Value.slice A_2854 n_2855 c_2856)) Try.isAgg124 (et (v := (Value.pointer (some ⟨w.heap.size, 16, none⟩))) rfl) ((bx_3096.cell 16).trans rfl)) ?_)
  refine l_op wn (o_call (x_call Try.call98 ef (a1 (et (v := (Value.slice A_2854 n_2855 c_2856)) rfl))) (to_ExprS w_3090 xs_2853 A_2854 n_2855 c_2856 _ ok_2894 (hr_2895.below hB_3094) (by omega)) ?_)
  rintro _ w_3101 ⟨c_3102, F_3103, rfl, rp_3104, sg_3105, k_3106⟩
  obtain ⟨A_3107, n_3108, c_3109, e_c_3102, ln_3110⟩ := rp_3104.list_inv
  simp only [List.cons.injEq, and_true] at e_c_3102
  subst e_c_3102
  have hB_3111 := below_next hB_3094 k_3106 (by omega)
  have z_3112 := k_3106.size
  have bx_3113 := bx_3096.below k_3106
  have bx_3114 := bx_3097.below k_3106
  have bx_3115 := bx_3093.below k_3106
  have rp_3116 := rp_3098.below k_3106
  have rp_3117 := rp_3099.below k_3106
  have rp_3118 := rp_3100.below k_3106
  refine ⟨_, rfl, ?_⟩
  refine l_op wn (o_val (x_field (k := 0) (j := 16) Try.underlying135 rfl Try.sizeOf133 rfl (et (v := (Value.pointer (some ⟨w_2908.heap.size, 0, none⟩))) rfl)) ?_)
  refine l_op wn (o_store Try.sizeOf133 (et (v := (Value.pointer (some ⟨w_2908.heap.size, 16, none⟩))) rfl) (et (v := (Value.slice A_3107 n_3108 c_3109)) rfl) rfl bx_3115 rfl ?_)
  intro w_3120 of_3121 bx_3122
  have bx_3123 : Blk w_3120 w_2908.heap.size 135 [(Value.int .i64 i_2817), (Value.string s_2818), (Value.int .i64 i_2819), (Value.slice A_2951 n_2952 c_2953), (Value.slice A_2955 n_2956 c_2957), (Value.string s_2832), (Value.string s_2833), (Value.slice A_2974 n_2975 c_2976), (Value.slice A_3001 n_3002 c_3003), (Value.string s_2846), (Value.bool q_2847), (Value.bool q_2848), (Value.bool q_2849), (Value.bool q_2850), (Value.int .i64 i_2851), (Value.int .i64 i_2852), (Value.slice A_3107 n_3108 c_3109), (Value.slice none 0 0), (Value.slice none 0 0)] := bx_3122
  have hB_3124 := below_off hB_3111 of_3121 (by omega)
  have z_3125 := of_3121.size
  have bx_3126 := bx_3113.off of_3121 (by omega)
  have bx_3127 := bx_3114.off of_3121 (by omega)
  have rp_3128 := rp_3116.off of_3121 (fun hm => by have := sg_2941.bd _ hm; omega)
  have rp_3129 := rp_3117.off of_3121 (fun hm => by have := sg_2972.bd _ hm; omega)
  have rp_3130 := rp_3118.off of_3121 (fun hm => by have := sg_2999.bd _ hm; omega)
  have rp_3131 := rp_3104.off of_3121 (fun hm => by have := sg_3105.bd _ hm; omega)
  refine l_nil ?_
  refine w_seq ?_
  refine w_region ?_
  refine l_op wn (o_val (x_field (k := 0) (j := 17) Try.underlying126 rfl Try.sizeOf124 rfl (et (v := (Value.pointer (some ⟨w.heap.size, 0, none⟩))) rfl)) ?_)
  refine l_op wn (o_val (x_load (v := (Value.slice A_2860 n_2861 c_2862)) Try.isAgg124 (et (v := (Value.pointer (some ⟨w.heap.size, 17, none⟩))) rfl) ((bx_3126.cell 17).trans rfl)) ?_)
  refine l_op wn (o_call (x_call Try.call98 ef (a1 (et (v := (Value.slice A_2860 n_2861 c_2862)) rfl))) (to_ExprS w_3120 xs_2859 A_2860 n_2861 c_2862 _ ok_2897 (hr_2898.below hB_3124) (by omega)) ?_)
  rintro _ w_3132 ⟨c_3133, F_3134, rfl, rp_3135, sg_3136, k_3137⟩
  obtain ⟨A_3138, n_3139, c_3140, e_c_3133, ln_3141⟩ := rp_3135.list_inv
  simp only [List.cons.injEq, and_true] at e_c_3133
  subst e_c_3133
  have hB_3142 := below_next hB_3124 k_3137 (by omega)
  have z_3143 := k_3137.size
  have bx_3144 := bx_3126.below k_3137
  have bx_3145 := bx_3127.below k_3137
  have bx_3146 := bx_3123.below k_3137
  have rp_3147 := rp_3128.below k_3137
  have rp_3148 := rp_3129.below k_3137
  have rp_3149 := rp_3130.below k_3137
  have rp_3150 := rp_3131.below k_3137
  refine ⟨_, rfl, ?_⟩
  refine l_op wn (o_val (x_field (k := 0) (j := 17) Try.underlying135 rfl Try.sizeOf133 rfl (et (v := (Value.pointer (some ⟨w_2908.heap.size, 0, none⟩))) rfl)) ?_)
  refine l_op wn (o_store Try.sizeOf133 (et (v := (Value.pointer (some ⟨w_2908.heap.size, 17, none⟩))) rfl) (et (v := (Value.slice A_3138 n_3139 c_3140)) rfl) rfl bx_3146 rfl ?_)
  intro w_3152 of_3153 bx_3154
  have bx_3155 : Blk w_3152 w_2908.heap.size 135 [(Value.int .i64 i_2817), (Value.string s_2818), (Value.int .i64 i_2819), (Value.slice A_2951 n_2952 c_2953), (Value.slice A_2955 n_2956 c_2957), (Value.string s_2832), (Value.string s_2833), (Value.slice A_2974 n_2975 c_2976), (Value.slice A_3001 n_3002 c_3003), (Value.string s_2846), (Value.bool q_2847), (Value.bool q_2848), (Value.bool q_2849), (Value.bool q_2850), (Value.int .i64 i_2851), (Value.int .i64 i_2852), (Value.slice A_3107 n_3108 c_3109), (Value.slice A_3138 n_3139 c_3140), (Value.slice none 0 0)] := bx_3154
  have hB_3156 := below_off hB_3142 of_3153 (by omega)
  have z_3157 := of_3153.size
  have bx_3158 := bx_3144.off of_3153 (by omega)
  have bx_3159 := bx_3145.off of_3153 (by omega)
  have rp_3160 := rp_3147.off of_3153 (fun hm => by have := sg_2941.bd _ hm; omega)
  have rp_3161 := rp_3148.off of_3153 (fun hm => by have := sg_2972.bd _ hm; omega)
  have rp_3162 := rp_3149.off of_3153 (fun hm => by have := sg_2999.bd _ hm; omega)
  have rp_3163 := rp_3150.off of_3153 (fun hm => by have := sg_3105.bd _ hm; omega)
  have rp_3164 := rp_3135.off of_3153 (fun hm => by have := sg_3136.bd _ hm; omega)
  refine l_nil ?_
  refine w_seq ?_
  refine w_region ?_
  refine l_op wn (o_val (x_field (k := 0) (j := 18) Try.underlying126 rfl Try.sizeOf55 rfl (et (v := (Value.pointer (some ⟨w.heap.size, 0, none⟩))) rfl)) ?_)
  refine l_op wn (o_val (x_load (v := (Value.slice A_2866 n_2867 c_2868)) Try.isAgg55 (et (v := (Value.pointer (some ⟨w.heap.size, 18, none⟩))) rfl) ((bx_3158.cell 18).trans rfl)) ?_)
  refine l_op wn (o_call (x_call Try.call69 ef (a1 (et (v := (Value.slice A_2866 n_2867 c_2868)) rfl))) (ih w_3152 xs_2865 A_2866 n_2867 c_2868 _ ok_2900 (hr_2901.below hB_3156) (by omega) (by omega)) ?_)
  rintro _ w_3165 ⟨c_3166, F_3167, rfl, rp_3168, sg_3169, k_3170⟩
  obtain ⟨A_3171, n_3172, c_3173, e_c_3166, ln_3174⟩ := rp_3168.list_inv
  simp only [List.cons.injEq, and_true] at e_c_3166
  subst e_c_3166
  have hB_3175 := below_next hB_3156 k_3170 (by omega)
  have z_3176 := k_3170.size
  have bx_3177 := bx_3158.below k_3170
  have bx_3178 := bx_3159.below k_3170
  have bx_3179 := bx_3155.below k_3170
  have rp_3180 := rp_3160.below k_3170
  have rp_3181 := rp_3161.below k_3170
  have rp_3182 := rp_3162.below k_3170
  have rp_3183 := rp_3163.below k_3170
  have rp_3184 := rp_3164.below k_3170
  refine ⟨_, rfl, ?_⟩
  refine l_op wn (o_val (x_field (k := 0) (j := 18) Try.underlying135 rfl Try.sizeOf63 rfl (et (v := (Value.pointer (some ⟨w_2908.heap.size, 0, none⟩))) rfl)) ?_)
  refine l_op wn (o_store Try.sizeOf63 (et (v := (Value.pointer (some ⟨w_2908.heap.size, 18, none⟩))) rfl) (et (v := (Value.slice A_3171 n_3172 c_3173)) rfl) rfl bx_3179 rfl ?_)
  intro w_3186 of_3187 bx_3188
  have bx_3189 : Blk w_3186 w_2908.heap.size 135 [(Value.int .i64 i_2817), (Value.string s_2818), (Value.int .i64 i_2819), (Value.slice A_2951 n_2952 c_2953), (Value.slice A_2955 n_2956 c_2957), (Value.string s_2832), (Value.string s_2833), (Value.slice A_2974 n_2975 c_2976), (Value.slice A_3001 n_3002 c_3003), (Value.string s_2846), (Value.bool q_2847), (Value.bool q_2848), (Value.bool q_2849), (Value.bool q_2850), (Value.int .i64 i_2851), (Value.int .i64 i_2852), (Value.slice A_3107 n_3108 c_3109), (Value.slice A_3138 n_3139 c_3140), (Value.slice A_3171 n_3172 c_3173)] := bx_3188
  have hB_3190 := below_off hB_3175 of_3187 (by omega)
  have z_3191 := of_3187.size
  have bx_3192 := bx_3177.off of_3187 (by omega)
  have bx_3193 := bx_3178.off of_3187 (by omega)
  have rp_3194 := rp_3180.off of_3187 (fun hm => by have := sg_2941.bd _ hm; omega)
  have rp_3195 := rp_3181.off of_3187 (fun hm => by have := sg_2972.bd _ hm; omega)
  have rp_3196 := rp_3182.off of_3187 (fun hm => by have := sg_2999.bd _ hm; omega)
  have rp_3197 := rp_3183.off of_3187 (fun hm => by have := sg_3105.bd _ hm; omega)
  have rp_3198 := rp_3184.off of_3187 (fun hm => by have := sg_3136.bd _ hm; omega)
  have rp_3199 := rp_3168.off of_3187 (fun hm => by have := sg_3169.bd _ hm; omega)
  refine l_nil ?_
  refine w_seq ?_
  refine w_region ?_
  refine l_op wn (o_val (x_loadN (cs := [(Value.int .i64 i_2817), (Value.string s_2818), (Value.int .i64 i_2819), (Value.slice A_2951 n_2952 c_2953), (Value.slice A_2955 n_2956 c_2957), (Value.string s_2832), (Value.string s_2833), (Value.slice A_2974 n_2975 c_2976), (Value.slice A_3001 n_3002 c_3003), (Value.string s_2846), (Value.bool q_2847), (Value.bool q_2848), (Value.bool q_2849), (Value.bool q_2850), (Value.int .i64 i_2851), (Value.int .i64 i_2852), (Value.slice A_3107 n_3108 c_3109), (Value.slice A_3138 n_3139 c_3140), (Value.slice A_3171 n_3172 c_3173)]) Try.isAgg135 Try.sizeOf135 (et (v := (Value.pointer (some ⟨w_2908.heap.size, 0, none⟩))) rfl) rfl (bx_3189.lies)) ?_)
  refine l_op wn (o_storeN (vs := [(Value.int .i64 i_2817), (Value.string s_2818), (Value.int .i64 i_2819), (Value.slice A_2951 n_2952 c_2953), (Value.slice A_2955 n_2956 c_2957), (Value.string s_2832), (Value.string s_2833), (Value.slice A_2974 n_2975 c_2976), (Value.slice A_3001 n_3002 c_3003), (Value.string s_2846), (Value.bool q_2847), (Value.bool q_2848), (Value.bool q_2849), (Value.bool q_2850), (Value.int .i64 i_2851), (Value.int .i64 i_2852), (Value.slice A_3107 n_3108 c_3109), (Value.slice A_3138 n_3139 c_3140), (Value.slice A_3171 n_3172 c_3173)]) Try.sizeOf135 (et (v := (Value.pointer (some ⟨w_2903.heap.size, 0, none⟩))) rfl) (et (v := (Value.agg #[(Value.int .i64 i_2817), (Value.string s_2818), (Value.int .i64 i_2819), (Value.slice A_2951 n_2952 c_2953), (Value.slice A_2955 n_2956 c_2957), (Value.string s_2832), (Value.string s_2833), (Value.slice A_2974 n_2975 c_2976), (Value.slice A_3001 n_3002 c_3003), (Value.string s_2846), (Value.bool q_2847), (Value.bool q_2848), (Value.bool q_2849), (Value.bool q_2850), (Value.int .i64 i_2851), (Value.int .i64 i_2852), (Value.slice A_3107 n_3108 c_3109), (Value.slice A_3138 n_3139 c_3140), (Value.slice A_3171 n_3172 c_3173)])) rfl) rfl (by simp [one]) bx_3193 (by simp) ?_)
  intro w_3200 of_3201 bx_3202
  have bx_3203 : Blk w_3200 w_2903.heap.size 135 [(Value.int .i64 i_2817), (Value.string s_2818), (Value.int .i64 i_2819), (Value.slice A_2951 n_2952 c_2953), (Value.slice A_2955 n_2956 c_2957), (Value.string s_2832), (Value.string s_2833), (Value.slice A_2974 n_2975 c_2976), (Value.slice A_3001 n_3002 c_3003), (Value.string s_2846), (Value.bool q_2847), (Value.bool q_2848), (Value.bool q_2849), (Value.bool q_2850), (Value.int .i64 i_2851), (Value.int .i64 i_2852), (Value.slice A_3107 n_3108 c_3109), (Value.slice A_3138 n_3139 c_3140), (Value.slice A_3171 n_3172 c_3173)] := bx_3202
  have hB_3204 := below_off hB_3190 of_3201 (by omega)
  have z_3205 := of_3201.size
  have bx_3206 := bx_3192.off of_3201 (by omega)
  have bx_3207 := bx_3189.off of_3201 (by omega)
  have rp_3208 := rp_3194.off of_3201 (fun hm => by have := sg_2941.bd _ hm; omega)
  have rp_3209 := rp_3195.off of_3201 (fun hm => by have := sg_2972.bd _ hm; omega)
  have rp_3210 := rp_3196.off of_3201 (fun hm => by have := sg_2999.bd _ hm; omega)
  have rp_3211 := rp_3197.off of_3201 (fun hm => by have := sg_3105.bd _ hm; omega)
  have rp_3212 := rp_3198.off of_3201 (fun hm => by have := sg_3136.bd _ hm; omega)
  have rp_3213 := rp_3199.off of_3201 (fun hm => by have := sg_3169.bd _ hm; omega)
  refine l_nil ?_
  refine w_ret ?_
  have rr_3214 := (ragg (rcons (rint (w := w_3200) (n := i_2817) bd_2874) (rcons (rstr (w := w_3200) (n := s_2818) bd_2875) (rcons rp_3208 (rcons rp_3209 (rcons rp_3210 (rcons (rstr (w := w_3200) (n := s_2846) bd_2891) (rcons (rbool (w := w_3200) (n := q_2847)) (rcons (rbool (w := w_3200) (n := q_2848)) (rcons (rbool (w := w_3200) (n := q_2849)) (rcons (rbool (w := w_3200) (n := q_2850)) (rcons (rint (w := w_3200) (n := i_2851) bd_2892) (rcons (rint (w := w_3200) (n := i_2852) bd_2893) (rcons rp_3211 (rcons rp_3212 (rcons rp_3213 (rnil (w := w_3200))))))))))))))))))
  exact ⟨_, r_cell Try.results87 rfl Try.isAgg135 Try.sizeOf135 rfl bx_3203, _, _, rfl, rr_3214, ((seg_skip (seg_skip (seg_app sg_2941 (seg_app sg_2972 (seg_app sg_2999 (seg_skip (seg_skip (seg_skip (seg_skip (seg_skip (seg_skip (seg_skip (seg_app sg_3105 (seg_app sg_3136 (seg_app sg_3169 (seg_nil (lo := w_3200.heap.size) (hi := w_3200.heap.size) (Nat.le_refl _)) (by omega)) (by omega)) (by omega))))))))) (by omega)) (by omega)) (by omega))))).mono (by omega) (by omega), hB_3204⟩

set_option maxHeartbeats 1000000 in
theorem to_SchemaS_of (k : Nat) (ih : To_Schema k) : To_SchemaS k := by
  intro w xs A n c F ok hr hb hc
  have hB0 := Below.refl w.heap.size w
  obtain ⟨ln, lc, lm⟩ := hr.len
  have hn20 : n ≤ 1048576 := by have := bulk_list xs; omega
  refine enter (N := 23) Try.func69 rfl Try.ntmps69 rfl ?_
  refine w_seq ?_
  refine w_region ?_
  refine l_op wn (o_val (x_assign ec) ?_)
  refine l_nil ?_
  refine w_seq ?_
  refine w_region ?_
  refine l_op wn (o_val (x_move (et (v := (Value.slice A n c)) rfl)) ?_)
  refine l_op wn (o_val (x_len Try.underlying55 (et (v := (Value.slice A n c)) rfl)) ?_)
  refine l_op wn (o_make Try.underlying63 info135 (et (v := (Value.int .i64 (n : Int))) rfl) (by omega) (by omega) ?_)
  intro w_3215 cs_3216 z_3217 k_3218 bx_3219 ln_3220
  have hB_3221 := below_next hB0 k_3218 (by omega)
  refine l_op wn (o_val (x_assign (et (v := (Value.slice (some ⟨w.heap.size, 0, none⟩) n n)) rfl)) ?_)
  refine l_nil ?_
  refine w_seq ?_
  refine w_seq ?_
  refine w_region ?_
  refine l_op wn (o_val (x_assign ec) ?_)
  refine l_nil ?_
  refine w_block ?_
  refine w_loop (fun μ f w' => ∃ (i : Nat), ∃ (ds : List Value), ∃ (G : List Nat), f 0 = (Value.slice A n c) ∧ f 3 = (Value.slice (some ⟨w.heap.size, 0, none⟩) n n) ∧ f 4 = (Value.int .i64 (i : Int)) ∧ Below w.heap.size w w' ∧ (i ≤ n) ∧ (Blk w' w.heap.size 135 ds) ∧ (ds.length = n * 19) ∧ (RepFs w' (xs.take i) (ds.take (i * 19)) G) ∧ (Seg G (w.heap.size + 1) (w').heap.size) ∧ μ = n - i) (n - 0) ?_ ?_
  · exact ⟨0, cs_3216, [], rfl, rfl, vint (a := 0) (by omega), hB_3221, (by omega), (bx_3219), (ln_3220), (by simp [RepFs]), (seg_nil (by omega)), rfl⟩
  rintro m_3224 f_3222 w_3223 ⟨i, ds, G, hs_3226, hs_3227, hs_3228, hB_3225, hi, hrow, hdl, hfs, hsg, rfl⟩
  have z_3229 := hB_3225.size
  have zrow := hrow.lt
  refine w_seq ?_
  refine w_seq ?_
  refine w_region ?_
  refine l_op wn (o_val (x_move (et (v := (Value.int .i64 (i : Int))) hs_3228)) ?_)
  refine l_op wn (o_val (x_move (et (v := (Value.slice A n c)) hs_3226)) ?_)
  refine l_op wn (o_val (x_len Try.underlying55 (et (v := (Value.slice A n c)) rfl)) ?_)
  by_cases h_3230 : (i : Int) < (n : Int)
  rotate_left
  · refine l_op wn (o_val (x_lss (r := false) (et (v := (Value.int .i64 (i : Int))) rfl) (et (v := (Value.int .i64 (n : Int))) rfl) (dec_f h_3230)) ?_)
    refine l_nil ?_
    refine w_if_f (et (v := (Value.bool false)) rfl) ?_
    refine w_exit ?_
    refine Eq.mpr (if_pos rfl) ?_
    refine w_seq ?_
    refine w_region ?_
    refine l_op wn (o_val (x_move (et (v := (Value.slice (some ⟨w.heap.size, 0, none⟩) n n)) hs_3227)) ?_)
    refine l_op wn (o_val (x_assign (et (v := (Value.slice (some ⟨w.heap.size, 0, none⟩) n n)) rfl)) ?_)
    refine l_nil ?_
    refine w_ret ?_
    have en : n = i := by omega
    subst en
    have hf4 := hfs
    rw [ln, List.take_length, ← ln, List.take_of_length_le (by omega)] at hf4
    exact ⟨_, r_tmp (v := (Value.slice (some ⟨w.heap.size, 0, none⟩) n n)) Try.results69 rfl, _, _, rfl, row_rep hrow hf4 ln (Nat.le_refl _) (by omega), row_seg hsg (by omega), hB_3225⟩
  refine l_op wn (o_val (x_lss (r := true) (et (v := (Value.int .i64 (i : Int))) rfl) (et (v := (Value.int .i64 (n : Int))) rfl) (dec_t h_3230)) ?_)
  refine l_nil ?_
  refine w_if_t (et (v := (Value.bool true)) rfl) ?_
  refine w_skip ?_
  refine w_seq ?_
  refine w_block ?_
  refine w_region ?_
  refine l_op wn (o_val (x_move (et (v := (Value.slice (some ⟨w.heap.size, 0, none⟩) n n)) hs_3227)) ?_)
  refine l_op wn (o_val (x_move (et (v := (Value.int .i64 (i : Int))) hs_3228)) ?_)
  refine l_op wn (o_val (x_move (et (v := (Value.slice A n c)) hs_3226)) ?_)
  refine l_op wn (o_val (x_move (et (v := (Value.int .i64 (i : Int))) hs_3228)) ?_)
  obtain ⟨b_3231, o_3232, x_3233, cs_3234, G_3235, hA_3236, hbF_3237, hlt_3238, hx_3239, hrx_3240, hG_3241, hl_3242, hcl_3243⟩ := hr.elem (k := 19) (fun y hy => wd_Schema (ok.mem y hy)) (i := i) (by omega)
  obtain ⟨i_3244, s_3245, i_3246, xs_3247, A_3248, n_3249, c_3250, F_3251, xs_3253, A_3254, n_3255, c_3256, F_3257, s_3259, s_3260, xs_3261, A_3262, n_3263, c_3264, F_3265, xs_3267, A_3268, n_3269, c_3270, F_3271, s_3273, q_3274, q_3275, q_3276, q_3277, i_3278, i_3279, xs_3280, A_3281, n_3282, c_3283, F_3284, xs_3286, A_3287, n_3288, c_3289, F_3290, xs_3292, A_3293, n_3294, c_3295, F_3296, rfl, rfl, rfl, bd_3301, bd_3302, bd_3303, ok_3304, hr_3305, ln_3306, ok_3307, hr_3308, ln_3309, bd_3310, bd_3311, ok_3312, hr_3313, ln_3314, ok_3315, hr_3316, ln_3317, bd_3318, bd_3319, bd_3320, ok_3321, hr_3322, ln_3323, ok_3324, hr_3325, ln_3326, ok_3327, hr_3328, ln_3329⟩ := open_Schema (ok.get hx_3239) hrx_3240
  refine l_op wn (o_val (x_index' (i := i) Try.underlying55 Try.sizeOf126 (et (v := (Value.slice A n c)) rfl) hA_3236 (et (v := (Value.int .i64 (i : Int))) rfl) (by omega) (by omega)) ?_)
  refine l_op wn (o_val (x_loadN (cs := [(Value.int .i64 i_3244), (Value.string s_3245), (Value.int .i64 i_3246), (Value.slice A_3248 n_3249 c_3250), (Value.slice A_3254 n_3255 c_3256), (Value.string s_3259), (Value.string s_3260), (Value.slice A_3262 n_3263 c_3264), (Value.slice A_3268 n_3269 c_3270), (Value.string s_3273), (Value.bool q_3274), (Value.bool q_3275), (Value.bool q_3276), (Value.bool q_3277), (Value.int .i64 i_3278), (Value.int .i64 i_3279), (Value.slice A_3281 n_3282 c_3283), (Value.slice A_3287 n_3288 c_3289), (Value.slice A_3293 n_3294 c_3295)]) Try.isAgg126 Try.sizeOf126 (et (v := (Value.pointer (some ⟨b_3231, o_3232 + i * 19, none⟩))) rfl) rfl ((hl_3242.keep (hB_3225.block _ hlt_3238)))) ?_)
  have rr_3337 := (ragg (rcons (rint (w := w_3223) (n := i_3244) bd_3301) (rcons (rstr (w := w_3223) (n := s_3245) bd_3302) (rcons (ragg (rcons (rint (w := w_3223) (n := i_3246) bd_3303) (rcons (hr_3305.below hB_3225) (rcons (hr_3308.below hB_3225) (rcons (rstr (w := w_3223) (n := s_3259) bd_3310) (rcons (rstr (w := w_3223) (n := s_3260) bd_3311) (rnil (w := w_3223)))))))) (rcons (hr_3313.below hB_3225) (rcons (hr_3316.below hB_3225) (rcons (rstr (w := w_3223) (n := s_3273) bd_3318) (rcons (rbool (w := w_3223) (n := q_3274)) (rcons (rbool (w := w_3223) (n := q_3275)) (rcons (rbool (w := w_3223) (n := q_3276)) (rcons (rbool (w := w_3223) (n := q_3277)) (rcons (rint (w := w_3223) (n := i_3278) bd_3319) (rcons (rint (w := w_3223) (n := i_3279) bd_3320) (rcons (hr_3322.below hB_3225) (rcons (hr_3325.below hB_3225) (rcons (hr_3328.below hB_3225) (rnil (w := w_3223))))))))))))))))))
  refine l_op wn (o_call (x_call Try.call87 ef (a1 (et (v := (Value.agg #[(Value.int .i64 i_3244), (Value.string s_3245), (Value.int .i64 i_3246), (Value.slice A_3248 n_3249 c_3250), (Value.slice A_3254 n_3255 c_3256), (Value.string s_3259), (Value.string s_3260), (Value.slice A_3262 n_3263 c_3264), (Value.slice A_3268 n_3269 c_3270), (Value.string s_3273), (Value.bool q_3274), (Value.bool q_3275), (Value.bool q_3276), (Value.bool q_3277), (Value.int .i64 i_3278), (Value.int .i64 i_3279), (Value.slice A_3281 n_3282 c_3283), (Value.slice A_3287 n_3288 c_3289), (Value.slice A_3293 n_3294 c_3295)])) rfl))) (ih w_3223 (.agg [.int i_3244, .str s_3245, .agg [.int i_3246, .list xs_3247, .list xs_3253, .str s_3259, .str s_3260], .list xs_3261, .list xs_3267, .str s_3273, .bool q_3274, .bool q_3275, .bool q_3276, .bool q_3277, .int i_3278, .int i_3279, .list xs_3280, .list xs_3286, .list xs_3292]) [(Value.int .i64 i_3244), (Value.string s_3245), (Value.int .i64 i_3246), (Value.slice A_3248 n_3249 c_3250), (Value.slice A_3254 n_3255 c_3256), (Value.string s_3259), (Value.string s_3260), (Value.slice A_3262 n_3263 c_3264), (Value.slice A_3268 n_3269 c_3270), (Value.string s_3273), (Value.bool q_3274), (Value.bool q_3275), (Value.bool q_3276), (Value.bool q_3277), (Value.int .i64 i_3278), (Value.int .i64 i_3279), (Value.slice A_3281 n_3282 c_3283), (Value.slice A_3287 n_3288 c_3289), (Value.slice A_3293 n_3294 c_3295)] _ (ok_agg rfl (okz_cons (ok_int rfl) (okz_cons (ok_str rfl) (okz_cons (ok_agg rfl (okz_cons (ok_int rfl) (okz_cons (ok_list rfl ok_3304) (okz_cons (ok_list rfl ok_3307) (okz_cons (ok_str rfl) (okz_cons (ok_str rfl) okz_nil)))))) (okz_cons (ok_list rfl ok_3312) (okz_cons (ok_list rfl ok_3315) (okz_cons (ok_str rfl) (okz_cons (ok_bool rfl) (okz_cons (ok_bool rfl) (okz_cons (ok_bool rfl) (okz_cons (ok_bool rfl) (okz_cons (ok_int rfl) (okz_cons (ok_int rfl) (okz_cons (ok_list rfl ok_3321) (okz_cons (ok_list rfl ok_3324) (okz_cons (ok_list rfl ok_3327) okz_nil)))))))))))))))) rr_3337 (by have bs := bulks_step hx_3239; have := bulk_list xs; omega) (by have := cnt_mem hx_3239; omega)) ?_)
  rintro _ w_3330 ⟨cs_3336, F_3332, rfl, rp_3333, sg_3334, k_3335⟩
  have hB_3338 := below_next hB_3225 k_3335 (by omega)
  have z_3339 := k_3335.size
  have bx_3340 := hrow.below k_3335
  have rp_3341 := hfs.below k_3335
  obtain ⟨A_3343, n_3344, c_3345, F_3346, A_3347, n_3348, c_3349, F_3350, A_3351, n_3352, c_3353, F_3354, A_3355, n_3356, c_3357, F_3358, A_3359, n_3360, c_3361, F_3362, A_3363, n_3364, c_3365, F_3366, A_3367, n_3368, c_3369, F_3370, rfl⟩ := cells_Schema rp_3333
  refine ⟨_, rfl, ?_⟩
  refine l_op wn (o_val (x_index (i := i) Try.underlying63 Try.sizeOf135 (et (v := (Value.slice (some ⟨w.heap.size, 0, none⟩) n n)) rfl) (et (v := (Value.int .i64 (i : Int))) rfl) (by omega) (by omega)) ?_)
  have lt_3375 : i * 19 + 19 ≤ (ds).length := by rw [hdl]; omega
  refine l_op wn (o_storeN (vs := [(Value.int .i64 i_3244), (Value.string s_3245), (Value.int .i64 i_3246), (Value.slice A_3343 n_3344 c_3345), (Value.slice A_3347 n_3348 c_3349), (Value.string s_3259), (Value.string s_3260), (Value.slice A_3351 n_3352 c_3353), (Value.slice A_3355 n_3356 c_3357), (Value.string s_3273), (Value.bool q_3274), (Value.bool q_3275), (Value.bool q_3276), (Value.bool q_3277), (Value.int .i64 i_3278), (Value.int .i64 i_3279), (Value.slice A_3359 n_3360 c_3361), (Value.slice A_3363 n_3364 c_3365), (Value.slice A_3367 n_3368 c_3369)]) Try.sizeOf135 (et (v := (Value.pointer (some ⟨w.heap.size, 0 + i * 19, none⟩))) rfl) (et (v := (Value.agg #[(Value.int .i64 i_3244), (Value.string s_3245), (Value.int .i64 i_3246), (Value.slice A_3343 n_3344 c_3345), (Value.slice A_3347 n_3348 c_3349), (Value.string s_3259), (Value.string s_3260), (Value.slice A_3351 n_3352 c_3353), (Value.slice A_3355 n_3356 c_3357), (Value.string s_3273), (Value.bool q_3274), (Value.bool q_3275), (Value.bool q_3276), (Value.bool q_3277), (Value.int .i64 i_3278), (Value.int .i64 i_3279), (Value.slice A_3359 n_3360 c_3361), (Value.slice A_3363 n_3364 c_3365), (Value.slice A_3367 n_3368 c_3369)])) rfl) rfl (by simp [one]) bx_3340 (by omega) ?_)
  intro w_3371 of_3372 bx_3373
  have hB_3376 := below_off hB_3338 of_3372 (by omega)
  have z_3377 := of_3372.size
  have rp_3378 := rp_3341.off of_3372 (fun hm => by have := hsg.bd _ hm; omega)
  have rp_3379 := rp_3333.off of_3372 (fun hm => by have := sg_3334.bd _ hm; omega)
  have ln_3374 : (splice ds (0 + i * 19) [(Value.int .i64 i_3244), (Value.string s_3245), (Value.int .i64 i_3246), (Value.slice A_3343 n_3344 c_3345), (Value.slice A_3347 n_3348 c_3349), (Value.string s_3259), (Value.string s_3260), (Value.slice A_3351 n_3352 c_3353), (Value.slice A_3355 n_3356 c_3357), (Value.string s_3273), (Value.bool q_3274), (Value.bool q_3275), (Value.bool q_3276), (Value.bool q_3277), (Value.int .i64 i_3278), (Value.int .i64 i_3279), (Value.slice A_3359 n_3360 c_3361), (Value.slice A_3363 n_3364 c_3365), (Value.slice A_3367 n_3368 c_3369)]).length = n * 19 := (len_splice (by simp; omega)).trans hdl
  refine l_nil ?_
  refine w_region ?_
  refine l_op wn (o_val (x_move (et (v := (Value.int .i64 (i : Int))) hs_3228)) ?_)
  refine l_op wn (o_val (x_add (et (v := (Value.int .i64 (i : Int))) rfl) ec (by omega)) ?_)
  refine l_op wn (o_val (x_assign (et (v := (Value.int .i64 ((i : Int) + 1))) rfl)) ?_)
  refine l_nil ?_
  have rr_3380 := rp_3379
  have ht := take_splice (k := 19) (vs := [(Value.int .i64 i_3244), (Value.string s_3245), (Value.int .i64 i_3246), (Value.slice A_3343 n_3344 c_3345), (Value.slice A_3347 n_3348 c_3349), (Value.string s_3259), (Value.string s_3260), (Value.slice A_3351 n_3352 c_3353), (Value.slice A_3355 n_3356 c_3357), (Value.string s_3273), (Value.bool q_3274), (Value.bool q_3275), (Value.bool q_3276), (Value.bool q_3277), (Value.int .i64 i_3278), (Value.int .i64 i_3279), (Value.slice A_3359 n_3360 c_3361), (Value.slice A_3363 n_3364 c_3365), (Value.slice A_3367 n_3368 c_3369)]) lt_3375 rfl
  have hf2 := RepFs.snoc _ rp_3378 rr_3380
  rw [← take_snoc hx_3239] at hf2
  rw [← ht] at hf2
  exact ⟨n - (i + 1), by omega, ⟨i + 1, (splice ds (0 + i * 19) [(Value.int .i64 i_3244), (Value.string s_3245), (Value.int .i64 i_3246), (Value.slice A_3343 n_3344 c_3345), (Value.slice A_3347 n_3348 c_3349), (Value.string s_3259), (Value.string s_3260), (Value.slice A_3351 n_3352 c_3353), (Value.slice A_3355 n_3356 c_3357), (Value.string s_3273), (Value.bool q_3274), (Value.bool q_3275), (Value.bool q_3276), (Value.bool q_3277), (Value.int .i64 i_3278), (Value.int .i64 i_3279), (Value.slice A_3359 n_3360 c_3361), (Value.slice A_3363 n_3364 c_3365), (Value.slice A_3367 n_3368 c_3369)]), _, hs_3226, hs_3227, vint (a := ((i : Int) + 1)) (by omega), hB_3376, (by omega), (bx_3373), (ln_3374), (hf2), ((seg_app hsg sg_3334 (by omega)).mono (by omega) (by omega)), rfl⟩⟩
theorem to_Schema_all : ∀ k, To_Schema k
  | 0 => fun w x cs F ok hr hb hc => absurd hc (by have := cnt_pos x; omega)
  | k + 1 => to_Schema_of k (to_SchemaS_of k (to_Schema_all k))
theorem to_SchemaS (w : World) (xs : List V) (A : Option Addr) (n c : Nat) (F : List Nat) (ok : Oks xs tSchema) (hr : Rep w (.list xs) [.slice A n c] F) (hb : V.bulk (.list xs) ≤ 1048576) : Calls Try.prog 69 #[.slice A n c] w (Ret1 w (.list xs)) := to_SchemaS_of _ (to_Schema_all _) w xs A n c F ok hr hb (Nat.le_refl _)
theorem to_Schema (w : World) (x : V) (cs : List Value) (F : List Nat) (ok : Ok x tSchema) (hr : Rep w x cs F) (hb : V.bulk x ≤ 1048576) : Calls Try.prog 87 #[.agg cs.toArray] w (RetS w x) := to_Schema_all _ w x cs F ok hr hb (Nat.le_refl _)

set_option maxHeartbeats 200000 in
theorem to_Version (w : World) (x : V) (cs : List Value) (F : List Nat) (ok : Ok x tVersion) (hr : Rep w x cs F) (hb : V.bulk x ≤ 1048576) : Calls Try.prog 88 #[.agg cs.toArray] w (RetS w x) := by
  obtain ⟨xs_3381, A_3382, n_3383, c_3384, F_3385, i_3387, i_3388, rfl, rfl, rfl, ok_3392, hr_3393, ln_3394, bd_3395, bd_3396⟩ := open_Version ok hr
  have hbk : V.bulk (.agg [.list xs_3381, .int i_3387, .int i_3388]) = V.bulk (.list xs_3381) := by simp only [V.bulk, V.bulks] <;> omega
  have hB0 := Below.refl w.heap.size w
  refine enter (N := 15) Try.func88 rfl Try.ntmps88 rfl ?_
  refine w_seq ?_
  refine w_region ?_
  refine l_op wn (o_new (x_box (cs := [(Value.slice A_3382 n_3383 c_3384), (Value.int .i64 i_3387), (Value.int .i64 i_3388)]) (et (v := (Value.agg #[(Value.slice A_3382 n_3383 c_3384), (Value.int .i64 i_3387), (Value.int .i64 i_3388)])) rfl)) ?_)
  intro w_3397 z_3398 k_3399 bx_3400
  have hB_3401 := below_next hB0 k_3399 (by omega)
  refine l_op wn (o_new (x_alloc (cs := [(Value.slice none 0 0), (Value.int .i64 0), (Value.int .i64 0)]) Try.zeroValue138) ?_)
  intro w_3402 z_3403 k_3404 bx_3405
  have hB_3406 := below_next hB_3401 k_3404 (by omega)
  have bx_3407 := bx_3400.below k_3404
  refine l_nil ?_
  refine w_seq ?_
  refine w_region ?_
  refine l_op wn (o_new (x_alloc (cs := [(Value.slice none 0 0), (Value.int .i64 0), (Value.int .i64 0)]) Try.zeroValue138) ?_)
  intro w_3408 z_3409 k_3410 bx_3411
  have hB_3412 := below_next hB_3406 k_3410 (by omega)
  have bx_3413 := bx_3407.below k_3410
  have bx_3414 := bx_3405.below k_3410
  refine l_nil ?_
  refine w_seq ?_
  refine w_region ?_
  refine l_op wn (o_val (x_field (k := 0) (j := 0) Try.underlying129 rfl Try.sizeOf35 rfl (et (v := (Value.pointer (some ⟨w.heap.size, 0, none⟩))) rfl)) ?_)
  refine l_op wn (o_val (x_load (v := (Value.slice A_3382 n_3383 c_3384)) Try.isAgg35 (et (v := (Value.pointer (some ⟨w.heap.size, 0, none⟩))) rfl) ((bx_3413.cell 0).trans rfl)) ?_)
  refine l_op wn (o_call (x_call Try.call26 ef (a1 (et (v := (Value.slice A_3382 n_3383 c_3384)) rfl))) (to_NodeS w_3408 xs_3381 A_3382 n_3383 c_3384 _ ok_3392 (hr_3393.below hB_3412) (by omega)) ?_)
  rintro _ w_3415 ⟨c_3416, F_3417, rfl, rp_3418, sg_3419, k_3420⟩
  obtain ⟨A_3421, n_3422, c_3423, e_c_3416, ln_3424⟩ := rp_3418.list_inv
  simp only [List.cons.injEq, and_true] at e_c_3416
  subst e_c_3416
  have hB_3425 := below_next hB_3412 k_3420 (by omega)
  have z_3426 := k_3420.size
  have bx_3427 := bx_3413.below k_3420
  have bx_3428 := bx_3414.below k_3420
  have bx_3429 := bx_3411.below k_3420
  refine ⟨_, rfl, ?_⟩
  refine l_op wn (o_val (x_field (k := 0) (j := 0) Try.underlying138 rfl Try.sizeOf41 rfl (et (v := (Value.pointer (some ⟨w_3402.heap.size, 0, none⟩))) rfl)) ?_)
  refine l_op wn (o_store Try.sizeOf41 (et (v := (Value.pointer (some ⟨w_3402.heap.size, 0, none⟩))) rfl) (et (v := (Value.slice A_3421 n_3422 c_3423)) rfl) rfl bx_3429 rfl ?_)
  intro w_3431 of_3432 bx_3433
  have bx_3434 : Blk w_3431 w_3402.heap.size 138 [(Value.slice A_3421 n_3422 c_3423), (Value.int .i64 0), (Value.int .i64 0)] := bx_3433
  have hB_3435 := below_off hB_3425 of_3432 (by omega)
  have z_3436 := of_3432.size
  have bx_3437 := bx_3427.off of_3432 (by omega)
  have bx_3438 := bx_3428.off of_3432 (by omega)
  have rp_3439 := rp_3418.off of_3432 (fun hm => by have := sg_3419.bd _ hm; omega)
  refine l_nil ?_
  refine w_seq ?_
  refine w_region ?_
  refine l_op wn (o_val (x_field (k := 0) (j := 1) Try.underlying129 rfl Try.sizeOf3 rfl (et (v := (Value.pointer (some ⟨w.heap.size, 0, none⟩))) rfl)) ?_)
  refine l_op wn (o_val (x_load (v := (Value.int .i64 i_3387)) Try.isAgg3 (et (v := (Value.pointer (some ⟨w.heap.size, 1, none⟩))) rfl) ((bx_3437.cell 1).trans rfl)) ?_)
  refine l_op wn (o_val (x_field (k := 0) (j := 1) Try.underlying138 rfl Try.sizeOf3 rfl (et (v := (Value.pointer (some ⟨w_3402.heap.size, 0, none⟩))) rfl)) ?_)
  refine l_op wn (o_store Try.sizeOf3 (et (v := (Value.pointer (some ⟨w_3402.heap.size, 1, none⟩))) rfl) (et (v := (Value.int .i64 i_3387)) rfl) rfl bx_3434 rfl ?_)
  intro w_3440 of_3441 bx_3442
  have bx_3443 : Blk w_3440 w_3402.heap.size 138 [(Value.slice A_3421 n_3422 c_3423), (Value.int .i64 i_3387), (Value.int .i64 0)] := bx_3442
  have hB_3444 := below_off hB_3435 of_3441 (by omega)
  have z_3445 := of_3441.size
  have bx_3446 := bx_3437.off of_3441 (by omega)
  have bx_3447 := bx_3438.off of_3441 (by omega)
  have rp_3448 := rp_3439.off of_3441 (fun hm => by have := sg_3419.bd _ hm; omega)
  refine l_nil ?_
  refine w_seq ?_
  refine w_region ?_
  refine l_op wn (o_val (x_field (k := 0) (j := 2) Try.underlying129 rfl Try.sizeOf3 rfl (et (v := (Value.pointer (some ⟨w.heap.size, 0, none⟩))) rfl)) ?_)
  refine l_op wn (o_val (x_load (v := (Value.int .i64 i_3388)) Try.isAgg3 (et (v := (Value.pointer (some ⟨w.heap.size, 2, none⟩))) rfl) ((bx_3446.cell 2).trans rfl)) ?_)
  refine l_op wn (o_val (x_field (k := 0) (j := 2) Try.underlying138 rfl Try.sizeOf3 rfl (et (v := (Value.pointer (some ⟨w_3402.heap.size, 0, none⟩))) rfl)) ?_)
  refine l_op wn (o_store Try.sizeOf3 (et (v := (Value.pointer (some ⟨w_3402.heap.size, 2, none⟩))) rfl) (et (v := (Value.int .i64 i_3388)) rfl) rfl bx_3443 rfl ?_)
  intro w_3449 of_3450 bx_3451
  have bx_3452 : Blk w_3449 w_3402.heap.size 138 [(Value.slice A_3421 n_3422 c_3423), (Value.int .i64 i_3387), (Value.int .i64 i_3388)] := bx_3451
  have hB_3453 := below_off hB_3444 of_3450 (by omega)
  have z_3454 := of_3450.size
  have bx_3455 := bx_3446.off of_3450 (by omega)
  have bx_3456 := bx_3447.off of_3450 (by omega)
  have rp_3457 := rp_3448.off of_3450 (fun hm => by have := sg_3419.bd _ hm; omega)
  refine l_nil ?_
  refine w_seq ?_
  refine w_region ?_
  refine l_op wn (o_val (x_loadN (cs := [(Value.slice A_3421 n_3422 c_3423), (Value.int .i64 i_3387), (Value.int .i64 i_3388)]) Try.isAgg138 Try.sizeOf138 (et (v := (Value.pointer (some ⟨w_3402.heap.size, 0, none⟩))) rfl) rfl (bx_3452.lies)) ?_)
  refine l_op wn (o_storeN (vs := [(Value.slice A_3421 n_3422 c_3423), (Value.int .i64 i_3387), (Value.int .i64 i_3388)]) Try.sizeOf138 (et (v := (Value.pointer (some ⟨w_3397.heap.size, 0, none⟩))) rfl) (et (v := (Value.agg #[(Value.slice A_3421 n_3422 c_3423), (Value.int .i64 i_3387), (Value.int .i64 i_3388)])) rfl) rfl (by simp [one]) bx_3456 (by simp) ?_)
  intro w_3458 of_3459 bx_3460
  have bx_3461 : Blk w_3458 w_3397.heap.size 138 [(Value.slice A_3421 n_3422 c_3423), (Value.int .i64 i_3387), (Value.int .i64 i_3388)] := bx_3460
  have hB_3462 := below_off hB_3453 of_3459 (by omega)
  have z_3463 := of_3459.size
  have bx_3464 := bx_3455.off of_3459 (by omega)
  have bx_3465 := bx_3452.off of_3459 (by omega)
  have rp_3466 := rp_3457.off of_3459 (fun hm => by have := sg_3419.bd _ hm; omega)
  refine l_nil ?_
  refine w_ret ?_
  have rr_3467 := (ragg (rcons rp_3466 (rcons (rint (w := w_3458) (n := i_3387) bd_3395) (rcons (rint (w := w_3458) (n := i_3388) bd_3396) (rnil (w := w_3458))))))
  exact ⟨_, r_cell Try.results88 rfl Try.isAgg138 Try.sizeOf138 rfl bx_3461, _, _, rfl, rr_3467, ((seg_app sg_3419 (seg_skip (seg_skip (seg_nil (lo := w_3458.heap.size) (hi := w_3458.heap.size) (Nat.le_refl _)))) (by omega))).mono (by omega) (by omega), hB_3462⟩

set_option maxHeartbeats 200000 in
theorem to_VersionS (w : World) (xs : List V) (A : Option Addr) (n c : Nat) (F : List Nat) (ok : Oks xs tVersion) (hr : Rep w (.list xs) [.slice A n c] F) (hb : V.bulk (.list xs) ≤ 1048576) : Calls Try.prog 70 #[.slice A n c] w (Ret1 w (.list xs)) := by
  have hB0 := Below.refl w.heap.size w
  obtain ⟨ln, lc, lm⟩ := hr.len
  have hn20 : n ≤ 1048576 := by have := bulk_list xs; omega
  refine enter (N := 23) Try.func70 rfl Try.ntmps70 rfl ?_
  refine w_seq ?_
  refine w_region ?_
  refine l_op wn (o_val (x_assign ec) ?_)
  refine l_nil ?_
  refine w_seq ?_
  refine w_region ?_
  refine l_op wn (o_val (x_move (et (v := (Value.slice A n c)) rfl)) ?_)
  refine l_op wn (o_val (x_len Try.underlying56 (et (v := (Value.slice A n c)) rfl)) ?_)
  refine l_op wn (o_make Try.underlying64 info138 (et (v := (Value.int .i64 (n : Int))) rfl) (by omega) (by omega) ?_)
  intro w_3468 cs_3469 z_3470 k_3471 bx_3472 ln_3473
  have hB_3474 := below_next hB0 k_3471 (by omega)
  refine l_op wn (o_val (x_assign (et (v := (Value.slice (some ⟨w.heap.size, 0, none⟩) n n)) rfl)) ?_)
  refine l_nil ?_
  refine w_seq ?_
  refine w_seq ?_
  refine w_region ?_
  refine l_op wn (o_val (x_assign ec) ?_)
  refine l_nil ?_
  refine w_block ?_
  refine w_loop (fun μ f w' => ∃ (i : Nat), ∃ (ds : List Value), ∃ (G : List Nat), f 0 = (Value.slice A n c) ∧ f 3 = (Value.slice (some ⟨w.heap.size, 0, none⟩) n n) ∧ f 4 = (Value.int .i64 (i : Int)) ∧ Below w.heap.size w w' ∧ (i ≤ n) ∧ (Blk w' w.heap.size 138 ds) ∧ (ds.length = n * 3) ∧ (RepFs w' (xs.take i) (ds.take (i * 3)) G) ∧ (Seg G (w.heap.size + 1) (w').heap.size) ∧ μ = n - i) (n - 0) ?_ ?_
  · exact ⟨0, cs_3469, [], rfl, rfl, vint (a := 0) (by omega), hB_3474, (by omega), (bx_3472), (ln_3473), (by simp [RepFs]), (seg_nil (by omega)), rfl⟩
  rintro m_3477 f_3475 w_3476 ⟨i, ds, G, hs_3479, hs_3480, hs_3481, hB_3478, hi, hrow, hdl, hfs, hsg, rfl⟩
  have z_3482 := hB_3478.size
  have zrow := hrow.lt
  refine w_seq ?_
  refine w_seq ?_
  refine w_region ?_
  refine l_op wn (o_val (x_move (et (v := (Value.int .i64 (i : Int))) hs_3481)) ?_)
  refine l_op wn (o_val (x_move (et (v := (Value.slice A n c)) hs_3479)) ?_)
  refine l_op wn (o_val (x_len Try.underlying56 (et (v := (Value.slice A n c)) rfl)) ?_)
  by_cases h_3483 : (i : Int) < (n : Int)
  rotate_left
  · refine l_op wn (o_val (x_lss (r := false) (et (v := (Value.int .i64 (i : Int))) rfl) (et (v := (Value.int .i64 (n : Int))) rfl) (dec_f h_3483)) ?_)
    refine l_nil ?_
    refine w_if_f (et (v := (Value.bool false)) rfl) ?_
    refine w_exit ?_
    refine Eq.mpr (if_pos rfl) ?_
    refine w_seq ?_
    refine w_region ?_
    refine l_op wn (o_val (x_move (et (v := (Value.slice (some ⟨w.heap.size, 0, none⟩) n n)) hs_3480)) ?_)
    refine l_op wn (o_val (x_assign (et (v := (Value.slice (some ⟨w.heap.size, 0, none⟩) n n)) rfl)) ?_)
    refine l_nil ?_
    refine w_ret ?_
    have en : n = i := by omega
    subst en
    have hf4 := hfs
    rw [ln, List.take_length, ← ln, List.take_of_length_le (by omega)] at hf4
    exact ⟨_, r_tmp (v := (Value.slice (some ⟨w.heap.size, 0, none⟩) n n)) Try.results70 rfl, _, _, rfl, row_rep hrow hf4 ln (Nat.le_refl _) (by omega), row_seg hsg (by omega), hB_3478⟩
  refine l_op wn (o_val (x_lss (r := true) (et (v := (Value.int .i64 (i : Int))) rfl) (et (v := (Value.int .i64 (n : Int))) rfl) (dec_t h_3483)) ?_)
  refine l_nil ?_
  refine w_if_t (et (v := (Value.bool true)) rfl) ?_
  refine w_skip ?_
  refine w_seq ?_
  refine w_block ?_
  refine w_region ?_
  refine l_op wn (o_val (x_move (et (v := (Value.slice (some ⟨w.heap.size, 0, none⟩) n n)) hs_3480)) ?_)
  refine l_op wn (o_val (x_move (et (v := (Value.int .i64 (i : Int))) hs_3481)) ?_)
  refine l_op wn (o_val (x_move (et (v := (Value.slice A n c)) hs_3479)) ?_)
  refine l_op wn (o_val (x_move (et (v := (Value.int .i64 (i : Int))) hs_3481)) ?_)
  obtain ⟨b_3484, o_3485, x_3486, cs_3487, G_3488, hA_3489, hbF_3490, hlt_3491, hx_3492, hrx_3493, hG_3494, hl_3495, hcl_3496⟩ := hr.elem (k := 3) (fun y hy => wd_Version (ok.mem y hy)) (i := i) (by omega)
  obtain ⟨xs_3497, A_3498, n_3499, c_3500, F_3501, i_3503, i_3504, rfl, rfl, rfl, ok_3508, hr_3509, ln_3510, bd_3511, bd_3512⟩ := open_Version (ok.get hx_3492) hrx_3493
  refine l_op wn (o_val (x_index' (i := i) Try.underlying56 Try.sizeOf129 (et (v := (Value.slice A n c)) rfl) hA_3489 (et (v := (Value.int .i64 (i : Int))) rfl) (by omega) (by omega)) ?_)
  refine l_op wn (o_val (x_loadN (cs := [(Value.slice A_3498 n_3499 c_3500), (Value.int .i64 i_3503), (Value.int .i64 i_3504)]) Try.isAgg129 Try.sizeOf129 (et (v := (Value.pointer (some ⟨b_3484, o_3485 + i * 3, none⟩))) rfl) rfl ((hl_3495.keep (hB_3478.block _ hlt_3491)))) ?_)
  have rr_3520 := (ragg (rcons (hr_3509.below hB_3478) (rcons (rint (w := w_3476) (n := i_3503) bd_3511) (rcons (rint (w := w_3476) (n := i_3504) bd_3512) (rnil (w := w_3476))))))
  refine l_op wn (o_call (x_call Try.call88 ef (a1 (et (v := (Value.agg #[(Value.slice A_3498 n_3499 c_3500), (Value.int .i64 i_3503), (Value.int .i64 i_3504)])) rfl))) (to_Version w_3476 (.agg [.list xs_3497, .int i_3503, .int i_3504]) [(Value.slice A_3498 n_3499 c_3500), (Value.int .i64 i_3503), (Value.int .i64 i_3504)] _ (ok_agg rfl (okz_cons (ok_list rfl ok_3508) (okz_cons (ok_int rfl) (okz_cons (ok_int rfl) okz_nil)))) rr_3520 (by have bs := bulks_step hx_3492; have := bulk_list xs; omega)) ?_)
  rintro _ w_3513 ⟨cs_3519, F_3515, rfl, rp_3516, sg_3517, k_3518⟩
  have hB_3521 := below_next hB_3478 k_3518 (by omega)
  have z_3522 := k_3518.size
  have bx_3523 := hrow.below k_3518
  have rp_3524 := hfs.below k_3518
  obtain ⟨A_3526, n_3527, c_3528, F_3529, rfl⟩ := cells_Version rp_3516
  refine ⟨_, rfl, ?_⟩
  refine l_op wn (o_val (x_index (i := i) Try.underlying64 Try.sizeOf138 (et (v := (Value.slice (some ⟨w.heap.size, 0, none⟩) n n)) rfl) (et (v := (Value.int .i64 (i : Int))) rfl) (by omega) (by omega)) ?_)
  have lt_3534 : i * 3 + 3 ≤ (ds).length := by rw [hdl]; omega
  refine l_op wn (o_storeN (vs := [(Value.slice A_3526 n_3527 c_3528), (Value.int .i64 i_3503), (Value.int .i64 i_3504)]) Try.sizeOf138 (et (v := (Value.pointer (some ⟨w.heap.size, 0 + i * 3, none⟩))) rfl) (et (v := (Value.agg #[(Value.slice A_3526 n_3527 c_3528), (Value.int .i64 i_3503), (Value.int .i64 i_3504)])) rfl) rfl (by simp [one]) bx_3523 (by omega) ?_)
  intro w_3530 of_3531 bx_3532
  have hB_3535 := below_off hB_3521 of_3531 (by omega)
  have z_3536 := of_3531.size
  have rp_3537 := rp_3524.off of_3531 (fun hm => by have := hsg.bd _ hm; omega)
  have rp_3538 := rp_3516.off of_3531 (fun hm => by have := sg_3517.bd _ hm; omega)
  have ln_3533 : (splice ds (0 + i * 3) [(Value.slice A_3526 n_3527 c_3528), (Value.int .i64 i_3503), (Value.int .i64 i_3504)]).length = n * 3 := (len_splice (by simp; omega)).trans hdl
  refine l_nil ?_
  refine w_region ?_
  refine l_op wn (o_val (x_move (et (v := (Value.int .i64 (i : Int))) hs_3481)) ?_)
  refine l_op wn (o_val (x_add (et (v := (Value.int .i64 (i : Int))) rfl) ec (by omega)) ?_)
  refine l_op wn (o_val (x_assign (et (v := (Value.int .i64 ((i : Int) + 1))) rfl)) ?_)
  refine l_nil ?_
  have rr_3539 := rp_3538
  have ht := take_splice (k := 3) (vs := [(Value.slice A_3526 n_3527 c_3528), (Value.int .i64 i_3503), (Value.int .i64 i_3504)]) lt_3534 rfl
  have hf2 := RepFs.snoc _ rp_3537 rr_3539
  rw [← take_snoc hx_3492] at hf2
  rw [← ht] at hf2
  exact ⟨n - (i + 1), by omega, ⟨i + 1, (splice ds (0 + i * 3) [(Value.slice A_3526 n_3527 c_3528), (Value.int .i64 i_3503), (Value.int .i64 i_3504)]), _, hs_3479, hs_3480, vint (a := ((i : Int) + 1)) (by omega), hB_3535, (by omega), (bx_3532), (ln_3533), (hf2), ((seg_app hsg sg_3517 (by omega)).mono (by omega) (by omega)), rfl⟩⟩

set_option maxHeartbeats 200000 in
theorem to_Pending (w : World) (x : V) (cs : List Value) (F : List Nat) (ok : Ok x tPending) (hr : Rep w x cs F) (hb : V.bulk x ≤ 1048576) : Calls Try.prog 71 #[.agg cs.toArray] w (RetS w x) := by
  obtain ⟨q_3540, i_3541, i_3542, s_3543, xs_3544, A_3545, n_3546, c_3547, F_3548, rfl, rfl, rfl, bd_3553, bd_3554, bd_3555, ok_3556, hr_3557, ln_3558⟩ := open_Pending ok hr
  have hbk : V.bulk (.agg [.bool q_3540, .int i_3541, .int i_3542, .str s_3543, .list xs_3544]) = s_3543.size + V.bulk (.list xs_3544) := by simp only [V.bulk, V.bulks] <;> omega
  have hB0 := Below.refl w.heap.size w
  refine enter (N := 21) Try.func71 rfl Try.ntmps71 rfl ?_
  refine w_seq ?_
  refine w_region ?_
  refine l_op wn (o_new (x_box (cs := [(Value.bool q_3540), (Value.int .i64 i_3541), (Value.int .i64 i_3542), (Value.string s_3543), (Value.slice A_3545 n_3546 c_3547)]) (et (v := (Value.agg #[(Value.bool q_3540), (Value.int .i64 i_3541), (Value.int .i64 i_3542), (Value.string s_3543), (Value.slice A_3545 n_3546 c_3547)])) rfl)) ?_)
  intro w_3559 z_3560 k_3561 bx_3562
  have hB_3563 := below_next hB0 k_3561 (by omega)
  refine l_op wn (o_new (x_alloc (cs := [(Value.bool false), (Value.int .i64 0), (Value.int .i64 0), (Value.string (⟨#[]⟩)), (Value.slice none 0 0)]) Try.zeroValue66) ?_)
  intro w_3564 z_3565 k_3566 bx_3567
  have hB_3568 := below_next hB_3563 k_3566 (by omega)
  have bx_3569 := bx_3562.below k_3566
  refine l_nil ?_
  refine w_seq ?_
  refine w_region ?_
  refine l_op wn (o_new (x_alloc (cs := [(Value.bool false), (Value.int .i64 0), (Value.int .i64 0), (Value.string (⟨#[]⟩)), (Value.slice none 0 0)]) Try.zeroValue66) ?_)
  intro w_3570 z_3571 k_3572 bx_3573
  have hB_3574 := below_next hB_3568 k_3572 (by omega)
  have bx_3575 := bx_3569.below k_3572
  have bx_3576 := bx_3567.below k_3572
  refine l_nil ?_
  refine w_seq ?_
  refine w_region ?_
  refine l_op wn (o_val (x_field (k := 0) (j := 0) Try.underlying58 rfl Try.sizeOf4 rfl (et (v := (Value.pointer (some ⟨w.heap.size, 0, none⟩))) rfl)) ?_)
  refine l_op wn (o_val (x_load (v := (Value.bool q_3540)) Try.isAgg4 (et (v := (Value.pointer (some ⟨w.heap.size, 0, none⟩))) rfl) ((bx_3575.cell 0).trans rfl)) ?_)
  refine l_op wn (o_val (x_field (k := 0) (j := 0) Try.underlying66 rfl Try.sizeOf4 rfl (et (v := (Value.pointer (some ⟨w_3564.heap.size, 0, none⟩))) rfl)) ?_)
  refine l_op wn (o_store Try.sizeOf4 (et (v := (Value.pointer (some ⟨w_3564.heap.size, 0, none⟩))) rfl) (et (v := (Value.bool q_3540)) rfl) rfl bx_3573 rfl ?_)
  intro w_3577 of_3578 bx_3579
  have bx_3580 : Blk w_3577 w_3564.heap.size 66 [(Value.bool q_3540), (Value.int .i64 0), (Value.int .i64 0), (Value.string (⟨#[]⟩)), (Value.slice none 0 0)] := bx_3579
  have hB_3581 := below_off hB_3574 of_3578 (by omega)
  have z_3582 := of_3578.size
  have bx_3583 := bx_3575.off of_3578 (by omega)
  have bx_3584 := bx_3576.off of_3578 (by omega)
  refine l_nil ?_
  refine w_seq ?_
  refine w_region ?_
  refine l_op wn (o_val (x_field (k := 0) (j := 1) Try.underlying58 rfl Try.sizeOf3 rfl (et (v := (Value.pointer (some ⟨w.heap.size, 0, none⟩))) rfl)) ?_)
  refine l_op wn (o_val (x_load (v := (Value.int .i64 i_3541)) Try.isAgg3 (et (v := (Value.pointer (some ⟨w.heap.size, 1, none⟩))) rfl) ((bx_3583.cell 1).trans rfl)) ?_)
  refine l_op wn (o_val (x_field (k := 0) (j := 1) Try.underlying66 rfl Try.sizeOf3 rfl (et (v := (Value.pointer (some ⟨w_3564.heap.size, 0, none⟩))) rfl)) ?_)
  refine l_op wn (o_store Try.sizeOf3 (et (v := (Value.pointer (some ⟨w_3564.heap.size, 1, none⟩))) rfl) (et (v := (Value.int .i64 i_3541)) rfl) rfl bx_3580 rfl ?_)
  intro w_3585 of_3586 bx_3587
  have bx_3588 : Blk w_3585 w_3564.heap.size 66 [(Value.bool q_3540), (Value.int .i64 i_3541), (Value.int .i64 0), (Value.string (⟨#[]⟩)), (Value.slice none 0 0)] := bx_3587
  have hB_3589 := below_off hB_3581 of_3586 (by omega)
  have z_3590 := of_3586.size
  have bx_3591 := bx_3583.off of_3586 (by omega)
  have bx_3592 := bx_3584.off of_3586 (by omega)
  refine l_nil ?_
  refine w_seq ?_
  refine w_region ?_
  refine l_op wn (o_val (x_field (k := 0) (j := 2) Try.underlying58 rfl Try.sizeOf3 rfl (et (v := (Value.pointer (some ⟨w.heap.size, 0, none⟩))) rfl)) ?_)
  refine l_op wn (o_val (x_load (v := (Value.int .i64 i_3542)) Try.isAgg3 (et (v := (Value.pointer (some ⟨w.heap.size, 2, none⟩))) rfl) ((bx_3591.cell 2).trans rfl)) ?_)
  refine l_op wn (o_val (x_field (k := 0) (j := 2) Try.underlying66 rfl Try.sizeOf3 rfl (et (v := (Value.pointer (some ⟨w_3564.heap.size, 0, none⟩))) rfl)) ?_)
  refine l_op wn (o_store Try.sizeOf3 (et (v := (Value.pointer (some ⟨w_3564.heap.size, 2, none⟩))) rfl) (et (v := (Value.int .i64 i_3542)) rfl) rfl bx_3588 rfl ?_)
  intro w_3593 of_3594 bx_3595
  have bx_3596 : Blk w_3593 w_3564.heap.size 66 [(Value.bool q_3540), (Value.int .i64 i_3541), (Value.int .i64 i_3542), (Value.string (⟨#[]⟩)), (Value.slice none 0 0)] := bx_3595
  have hB_3597 := below_off hB_3589 of_3594 (by omega)
  have z_3598 := of_3594.size
  have bx_3599 := bx_3591.off of_3594 (by omega)
  have bx_3600 := bx_3592.off of_3594 (by omega)
  refine l_nil ?_
  refine w_seq ?_
  refine w_region ?_
  refine l_op wn (o_val (x_field (k := 0) (j := 3) Try.underlying58 rfl Try.sizeOf9 rfl (et (v := (Value.pointer (some ⟨w.heap.size, 0, none⟩))) rfl)) ?_)
  refine l_op wn (o_val (x_load (v := (Value.string s_3543)) Try.isAgg9 (et (v := (Value.pointer (some ⟨w.heap.size, 3, none⟩))) rfl) ((bx_3599.cell 3).trans rfl)) ?_)
  refine l_op wn (o_val (x_field (k := 0) (j := 3) Try.underlying66 rfl Try.sizeOf9 rfl (et (v := (Value.pointer (some ⟨w_3564.heap.size, 0, none⟩))) rfl)) ?_)
  refine l_op wn (o_store Try.sizeOf9 (et (v := (Value.pointer (some ⟨w_3564.heap.size, 3, none⟩))) rfl) (et (v := (Value.string s_3543)) rfl) rfl bx_3596 rfl ?_)
  intro w_3601 of_3602 bx_3603
  have bx_3604 : Blk w_3601 w_3564.heap.size 66 [(Value.bool q_3540), (Value.int .i64 i_3541), (Value.int .i64 i_3542), (Value.string s_3543), (Value.slice none 0 0)] := bx_3603
  have hB_3605 := below_off hB_3597 of_3602 (by omega)
  have z_3606 := of_3602.size
  have bx_3607 := bx_3599.off of_3602 (by omega)
  have bx_3608 := bx_3600.off of_3602 (by omega)
  refine l_nil ?_
  refine w_seq ?_
  refine w_region ?_
  refine l_op wn (o_val (x_field (k := 0) (j := 4) Try.underlying58 rfl Try.sizeOf35 rfl (et (v := (Value.pointer (some ⟨w.heap.size, 0, none⟩))) rfl)) ?_)
  refine l_op wn (o_val (x_load (v := (Value.slice A_3545 n_3546 c_3547)) Try.isAgg35 (et (v := (Value.pointer (some ⟨w.heap.size, 4, none⟩))) rfl) ((bx_3607.cell 4).trans rfl)) ?_)
  refine l_op wn (o_call (x_call Try.call26 ef (a1 (et (v := (Value.slice A_3545 n_3546 c_3547)) rfl))) (to_NodeS w_3601 xs_3544 A_3545 n_3546 c_3547 _ ok_3556 (hr_3557.below hB_3605) (by omega)) ?_)
  rintro _ w_3609 ⟨c_3610, F_3611, rfl, rp_3612, sg_3613, k_3614⟩
  obtain ⟨A_3615, n_3616, c_3617, e_c_3610, ln_3618⟩ := rp_3612.list_inv
  simp only [List.cons.injEq, and_true] at e_c_3610
  subst e_c_3610
  have hB_3619 := below_next hB_3605 k_3614 (by omega)
  have z_3620 := k_3614.size
  have bx_3621 := bx_3607.below k_3614
  have bx_3622 := bx_3608.below k_3614
  have bx_3623 := bx_3604.below k_3614
  refine ⟨_, rfl, ?_⟩
  refine l_op wn (o_val (x_field (k := 0) (j := 4) Try.underlying66 rfl Try.sizeOf41 rfl (et (v := (Value.pointer (some ⟨w_3564.heap.size, 0, none⟩))) rfl)) ?_)
  refine l_op wn (o_store Try.sizeOf41 (et (v := (Value.pointer (some ⟨w_3564.heap.size, 4, none⟩))) rfl) (et (v := (Value.slice A_3615 n_3616 c_3617)) rfl) rfl bx_3623 rfl ?_)
  intro w_3625 of_3626 bx_3627
  have bx_3628 : Blk w_3625 w_3564.heap.size 66 [(Value.bool q_3540), (Value.int .i64 i_3541), (Value.int .i64 i_3542), (Value.string s_3543), (Value.slice A_3615 n_3616 c_3617)] := bx_3627
  have hB_3629 := below_off hB_3619 of_3626 (by omega)
  have z_3630 := of_3626.size
  have bx_3631 := bx_3621.off of_3626 (by omega)
  have bx_3632 := bx_3622.off of_3626 (by omega)
  have rp_3633 := rp_3612.off of_3626 (fun hm => by have := sg_3613.bd _ hm; omega)
  refine l_nil ?_
  refine w_seq ?_
  refine w_region ?_
  refine l_op wn (o_val (x_loadN (cs := [(Value.bool q_3540), (Value.int .i64 i_3541), (Value.int .i64 i_3542), (Value.string s_3543), (Value.slice A_3615 n_3616 c_3617)]) Try.isAgg66 Try.sizeOf66 (et (v := (Value.pointer (some ⟨w_3564.heap.size, 0, none⟩))) rfl) rfl (bx_3628.lies)) ?_)
  refine l_op wn (o_storeN (vs := [(Value.bool q_3540), (Value.int .i64 i_3541), (Value.int .i64 i_3542), (Value.string s_3543), (Value.slice A_3615 n_3616 c_3617)]) Try.sizeOf66 (et (v := (Value.pointer (some ⟨w_3559.heap.size, 0, none⟩))) rfl) (et (v := (Value.agg #[(Value.bool q_3540), (Value.int .i64 i_3541), (Value.int .i64 i_3542), (Value.string s_3543), (Value.slice A_3615 n_3616 c_3617)])) rfl) rfl (by simp [one]) bx_3632 (by simp) ?_)
  intro w_3634 of_3635 bx_3636
  have bx_3637 : Blk w_3634 w_3559.heap.size 66 [(Value.bool q_3540), (Value.int .i64 i_3541), (Value.int .i64 i_3542), (Value.string s_3543), (Value.slice A_3615 n_3616 c_3617)] := bx_3636
  have hB_3638 := below_off hB_3629 of_3635 (by omega)
  have z_3639 := of_3635.size
  have bx_3640 := bx_3631.off of_3635 (by omega)
  have bx_3641 := bx_3628.off of_3635 (by omega)
  have rp_3642 := rp_3633.off of_3635 (fun hm => by have := sg_3613.bd _ hm; omega)
  refine l_nil ?_
  refine w_ret ?_
  have rr_3643 := (ragg (rcons (rbool (w := w_3634) (n := q_3540)) (rcons (rint (w := w_3634) (n := i_3541) bd_3553) (rcons (rint (w := w_3634) (n := i_3542) bd_3554) (rcons (rstr (w := w_3634) (n := s_3543) bd_3555) (rcons rp_3642 (rnil (w := w_3634))))))))
  exact ⟨_, r_cell Try.results71 rfl Try.isAgg66 Try.sizeOf66 rfl bx_3637, _, _, rfl, rr_3643, ((seg_skip (seg_skip (seg_skip (seg_skip (seg_app sg_3613 (seg_nil (lo := w_3634.heap.size) (hi := w_3634.heap.size) (Nat.le_refl _)) (by omega))))))).mono (by omega) (by omega), hB_3638⟩

set_option maxHeartbeats 1000000 in
theorem to_Store (w : World) (x : V) (cs : List Value) (F : List Nat) (ok : Ok x tStore) (hr : Rep w x cs F) (hb : V.bulk x ≤ 1048576) : Calls Try.prog 36 #[.agg cs.toArray] w (RetS w x) := by
  obtain ⟨xs_3644, A_3645, n_3646, c_3647, F_3648, xs_3650, A_3651, n_3652, c_3653, F_3654, xs_3656, A_3657, n_3658, c_3659, F_3660, i_3662, xs_3663, A_3664, n_3665, c_3666, F_3667, q_3669, i_3670, i_3671, s_3672, xs_3673, A_3674, n_3675, c_3676, F_3677, rfl, rfl, rfl, ok_3682, hr_3683, ln_3684, ok_3685, hr_3686, ln_3687, ok_3688, hr_3689, ln_3690, bd_3691, ok_3692, hr_3693, ln_3694, bd_3695, bd_3696, bd_3697, ok_3698, hr_3699, ln_3700⟩ := open_Store ok hr
  have hbk : V.bulk (.agg [.list xs_3644, .list xs_3650, .list xs_3656, .int i_3662, .list xs_3663, .agg [.bool q_3669, .int i_3670, .int i_3671, .str s_3672, .list xs_3673]]) = V.bulk (.list xs_3644) + V.bulk (.list xs_3650) + V.bulk (.list xs_3656) + V.bulk (.list xs_3663) + V.bulk (.agg [.bool q_3669, .int i_3670, .int i_3671, .str s_3672, .list xs_3673]) := by simp only [V.bulk, V.bulks] <;> omega
  have hB0 := Below.refl w.heap.size w
  refine enter (N := 28) Try.func36 rfl Try.ntmps36 rfl ?_
  refine w_seq ?_
  refine w_region ?_
  refine l_op wn (o_new (x_box (cs := [(Value.slice A_3645 n_3646 c_3647), (Value.slice A_3651 n_3652 c_3653), (Value.slice A_3657 n_3658 c_3659), (Value.int .i64 i_3662), (Value.slice A_3664 n_3665 c_3666), (Value.bool q_3669), (Value.int .i64 i_3670), (Value.int .i64 i_3671), (Value.string s_3672), (Value.slice A_3674 n_3675 c_3676)]) (et (v := (Value.agg #[(Value.slice A_3645 n_3646 c_3647), (Value.slice A_3651 n_3652 c_3653), (Value.slice A_3657 n_3658 c_3659), (Value.int .i64 i_3662), (Value.slice A_3664 n_3665 c_3666), (Value.bool q_3669), (Value.int .i64 i_3670), (Value.int .i64 i_3671), (Value.string s_3672), (Value.slice A_3674 n_3675 c_3676)])) rfl)) ?_)
  intro w_3701 z_3702 k_3703 bx_3704
  have hB_3705 := below_next hB0 k_3703 (by omega)
  refine l_op wn (o_new (x_alloc (cs := [(Value.slice none 0 0), (Value.slice none 0 0), (Value.slice none 0 0), (Value.int .i64 0), (Value.slice none 0 0), (Value.bool false), (Value.int .i64 0), (Value.int .i64 0), (Value.string (⟨#[]⟩)), (Value.slice none 0 0)]) Try.zeroValue68) ?_)
  intro w_3706 z_3707 k_3708 bx_3709
  have hB_3710 := below_next hB_3705 k_3708 (by omega)
  have bx_3711 := bx_3704.below k_3708
  refine l_nil ?_
  refine w_seq ?_
  refine w_region ?_
  refine l_op wn (o_new (x_alloc (cs := [(Value.slice none 0 0), (Value.slice none 0 0), (Value.slice none 0 0), (Value.int .i64 0), (Value.slice none 0 0), (Value.bool false), (Value.int .i64 0), (Value.int .i64 0), (Value.string (⟨#[]⟩)), (Value.slice none 0 0)]) Try.zeroValue68) ?_)
  intro w_3712 z_3713 k_3714 bx_3715
  have hB_3716 := below_next hB_3710 k_3714 (by omega)
  have bx_3717 := bx_3711.below k_3714
  have bx_3718 := bx_3709.below k_3714
  refine l_nil ?_
  refine w_seq ?_
  refine w_region ?_
  refine l_op wn (o_val (x_field (k := 0) (j := 0) Try.underlying60 rfl Try.sizeOf55 rfl (et (v := (Value.pointer (some ⟨w.heap.size, 0, none⟩))) rfl)) ?_)
  refine l_op wn (o_val (x_load (v := (Value.slice A_3645 n_3646 c_3647)) Try.isAgg55 (et (v := (Value.pointer (some ⟨w.heap.size, 0, none⟩))) rfl) ((bx_3717.cell 0).trans rfl)) ?_)
  refine l_op wn (o_call (x_call Try.call69 ef (a1 (et (v := (Value.slice A_3645 n_3646 c_3647)) rfl))) (to_SchemaS w_3712 xs_3644 A_3645 n_3646 c_3647 _ ok_3682 (hr_3683.below hB_3716) (by omega)) ?_)
  rintro _ w_3719 ⟨c_3720, F_3721, rfl, rp_3722, sg_3723, k_3724⟩
  obtain ⟨A_3725, n_3726, c_3727, e_c_3720, ln_3728⟩ := rp_3722.list_inv
  simp only [List.cons.injEq, and_true] at e_c_3720
  subst e_c_3720
  have hB_3729 := below_next hB_3716 k_3724 (by omega)
  have z_3730 := k_3724.size
  have bx_3731 := bx_3717.below k_3724
  have bx_3732 := bx_3718.below k_3724
  have bx_3733 := bx_3715.below k_3724
  refine ⟨_, rfl, ?_⟩
  refine l_op wn (o_val (x_field (k := 0) (j := 0) Try.underlying68 rfl Try.sizeOf63 rfl (et (v := (Value.pointer (some ⟨w_3706.heap.size, 0, none⟩))) rfl)) ?_)
  refine l_op wn (o_store Try.sizeOf63 (et (v := (Value.pointer (some ⟨w_3706.heap.size, 0, none⟩))) rfl) (et (v := (Value.slice A_3725 n_3726 c_3727)) rfl) rfl bx_3733 rfl ?_)
  intro w_3735 of_3736 bx_3737
  have bx_3738 : Blk w_3735 w_3706.heap.size 68 [(Value.slice A_3725 n_3726 c_3727), (Value.slice none 0 0), (Value.slice none 0 0), (Value.int .i64 0), (Value.slice none 0 0), (Value.bool false), (Value.int .i64 0), (Value.int .i64 0), (Value.string (⟨#[]⟩)), (Value.slice none 0 0)] := bx_3737
  have hB_3739 := below_off hB_3729 of_3736 (by omega)
  have z_3740 := of_3736.size
  have bx_3741 := bx_3731.off of_3736 (by omega)
  have bx_3742 := bx_3732.off of_3736 (by omega)
  have rp_3743 := rp_3722.off of_3736 (fun hm => by have := sg_3723.bd _ hm; omega)
  refine l_nil ?_
  refine w_seq ?_
  refine w_region ?_
  refine l_op wn (o_val (x_field (k := 0) (j := 1) Try.underlying60 rfl Try.sizeOf35 rfl (et (v := (Value.pointer (some ⟨w.heap.size, 0, none⟩))) rfl)) ?_)
  refine l_op wn (o_val (x_load (v := (Value.slice A_3651 n_3652 c_3653)) Try.isAgg35 (et (v := (Value.pointer (some ⟨w.heap.size, 1, none⟩))) rfl) ((bx_3741.cell 1).trans rfl)) ?_)
  refine l_op wn (o_call (x_call Try.call26 ef (a1 (et (v := (Value.slice A_3651 n_3652 c_3653)) rfl))) (to_NodeS w_3735 xs_3650 A_3651 n_3652 c_3653 _ ok_3685 (hr_3686.below hB_3739) (by omega)) ?_)
  rintro _ w_3744 ⟨c_3745, F_3746, rfl, rp_3747, sg_3748, k_3749⟩
  obtain ⟨A_3750, n_3751, c_3752, e_c_3745, ln_3753⟩ := rp_3747.list_inv
  simp only [List.cons.injEq, and_true] at e_c_3745
  subst e_c_3745
  have hB_3754 := below_next hB_3739 k_3749 (by omega)
  have z_3755 := k_3749.size
  have bx_3756 := bx_3741.below k_3749
  have bx_3757 := bx_3742.below k_3749
  have bx_3758 := bx_3738.below k_3749
  have rp_3759 := rp_3743.below k_3749
  refine ⟨_, rfl, ?_⟩
  refine l_op wn (o_val (x_field (k := 0) (j := 1) Try.underlying68 rfl Try.sizeOf41 rfl (et (v := (Value.pointer (some ⟨w_3706.heap.size, 0, none⟩))) rfl)) ?_)
  refine l_op wn (o_store Try.sizeOf41 (et (v := (Value.pointer (some ⟨w_3706.heap.size, 1, none⟩))) rfl) (et (v := (Value.slice A_3750 n_3751 c_3752)) rfl) rfl bx_3758 rfl ?_)
  intro w_3761 of_3762 bx_3763
  have bx_3764 : Blk w_3761 w_3706.heap.size 68 [(Value.slice A_3725 n_3726 c_3727), (Value.slice A_3750 n_3751 c_3752), (Value.slice none 0 0), (Value.int .i64 0), (Value.slice none 0 0), (Value.bool false), (Value.int .i64 0), (Value.int .i64 0), (Value.string (⟨#[]⟩)), (Value.slice none 0 0)] := bx_3763
  have hB_3765 := below_off hB_3754 of_3762 (by omega)
  have z_3766 := of_3762.size
  have bx_3767 := bx_3756.off of_3762 (by omega)
  have bx_3768 := bx_3757.off of_3762 (by omega)
  have rp_3769 := rp_3759.off of_3762 (fun hm => by have := sg_3723.bd _ hm; omega)
  have rp_3770 := rp_3747.off of_3762 (fun hm => by have := sg_3748.bd _ hm; omega)
  refine l_nil ?_
  refine w_seq ?_
  refine w_region ?_
  refine l_op wn (o_val (x_field (k := 0) (j := 2) Try.underlying60 rfl Try.sizeOf35 rfl (et (v := (Value.pointer (some ⟨w.heap.size, 0, none⟩))) rfl)) ?_)
  refine l_op wn (o_val (x_load (v := (Value.slice A_3657 n_3658 c_3659)) Try.isAgg35 (et (v := (Value.pointer (some ⟨w.heap.size, 2, none⟩))) rfl) ((bx_3767.cell 2).trans rfl)) ?_)
  refine l_op wn (o_call (x_call Try.call26 ef (a1 (et (v := (Value.slice A_3657 n_3658 c_3659)) rfl))) (to_NodeS w_3761 xs_3656 A_3657 n_3658 c_3659 _ ok_3688 (hr_3689.below hB_3765) (by omega)) ?_)
  rintro _ w_3771 ⟨c_3772, F_3773, rfl, rp_3774, sg_3775, k_3776⟩
  obtain ⟨A_3777, n_3778, c_3779, e_c_3772, ln_3780⟩ := rp_3774.list_inv
  simp only [List.cons.injEq, and_true] at e_c_3772
  subst e_c_3772
  have hB_3781 := below_next hB_3765 k_3776 (by omega)
  have z_3782 := k_3776.size
  have bx_3783 := bx_3767.below k_3776
  have bx_3784 := bx_3768.below k_3776
  have bx_3785 := bx_3764.below k_3776
  have rp_3786 := rp_3769.below k_3776
  have rp_3787 := rp_3770.below k_3776
  refine ⟨_, rfl, ?_⟩
  refine l_op wn (o_val (x_field (k := 0) (j := 2) Try.underlying68 rfl Try.sizeOf41 rfl (et (v := (Value.pointer (some ⟨w_3706.heap.size, 0, none⟩))) rfl)) ?_)
  refine l_op wn (o_store Try.sizeOf41 (et (v := (Value.pointer (some ⟨w_3706.heap.size, 2, none⟩))) rfl) (et (v := (Value.slice A_3777 n_3778 c_3779)) rfl) rfl bx_3785 rfl ?_)
  intro w_3789 of_3790 bx_3791
  have bx_3792 : Blk w_3789 w_3706.heap.size 68 [(Value.slice A_3725 n_3726 c_3727), (Value.slice A_3750 n_3751 c_3752), (Value.slice A_3777 n_3778 c_3779), (Value.int .i64 0), (Value.slice none 0 0), (Value.bool false), (Value.int .i64 0), (Value.int .i64 0), (Value.string (⟨#[]⟩)), (Value.slice none 0 0)] := bx_3791
  have hB_3793 := below_off hB_3781 of_3790 (by omega)
  have z_3794 := of_3790.size
  have bx_3795 := bx_3783.off of_3790 (by omega)
  have bx_3796 := bx_3784.off of_3790 (by omega)
  have rp_3797 := rp_3786.off of_3790 (fun hm => by have := sg_3723.bd _ hm; omega)
  have rp_3798 := rp_3787.off of_3790 (fun hm => by have := sg_3748.bd _ hm; omega)
  have rp_3799 := rp_3774.off of_3790 (fun hm => by have := sg_3775.bd _ hm; omega)
  refine l_nil ?_
  refine w_seq ?_
  refine w_region ?_
  refine l_op wn (o_val (x_field (k := 0) (j := 3) Try.underlying60 rfl Try.sizeOf3 rfl (et (v := (Value.pointer (some ⟨w.heap.size, 0, none⟩))) rfl)) ?_)
  refine l_op wn (o_val (x_load (v := (Value.int .i64 i_3662)) Try.isAgg3 (et (v := (Value.pointer (some ⟨w.heap.size, 3, none⟩))) rfl) ((bx_3795.cell 3).trans rfl)) ?_)
  refine l_op wn (o_val (x_field (k := 0) (j := 3) Try.underlying68 rfl Try.sizeOf3 rfl (et (v := (Value.pointer (some ⟨w_3706.heap.size, 0, none⟩))) rfl)) ?_)
  refine l_op wn (o_store Try.sizeOf3 (et (v := (Value.pointer (some ⟨w_3706.heap.size, 3, none⟩))) rfl) (et (v := (Value.int .i64 i_3662)) rfl) rfl bx_3792 rfl ?_)
  intro w_3800 of_3801 bx_3802
  have bx_3803 : Blk w_3800 w_3706.heap.size 68 [(Value.slice A_3725 n_3726 c_3727), (Value.slice A_3750 n_3751 c_3752), (Value.slice A_3777 n_3778 c_3779), (Value.int .i64 i_3662), (Value.slice none 0 0), (Value.bool false), (Value.int .i64 0), (Value.int .i64 0), (Value.string (⟨#[]⟩)), (Value.slice none 0 0)] := bx_3802
  have hB_3804 := below_off hB_3793 of_3801 (by omega)
  have z_3805 := of_3801.size
  have bx_3806 := bx_3795.off of_3801 (by omega)
  have bx_3807 := bx_3796.off of_3801 (by omega)
  have rp_3808 := rp_3797.off of_3801 (fun hm => by have := sg_3723.bd _ hm; omega)
  have rp_3809 := rp_3798.off of_3801 (fun hm => by have := sg_3748.bd _ hm; omega)
  have rp_3810 := rp_3799.off of_3801 (fun hm => by have := sg_3775.bd _ hm; omega)
  refine l_nil ?_
  refine w_seq ?_
  refine w_region ?_
  refine l_op wn (o_val (x_field (k := 0) (j := 4) Try.underlying60 rfl Try.sizeOf56 rfl (et (v := (Value.pointer (some ⟨w.heap.size, 0, none⟩))) rfl)) ?_)
  refine l_op wn (o_val (x_load (v := (Value.slice A_3664 n_3665 c_3666)) Try.isAgg56 (et (v := (Value.pointer (some ⟨w.heap.size, 4, none⟩))) rfl) ((bx_3806.cell 4).trans rfl)) ?_)
  refine l_op wn (o_call (x_call Try.call70 ef (a1 (et (v := (Value.slice A_3664 n_3665 c_3666)) rfl))) (to_VersionS w_3800 xs_3663 A_3664 n_3665 c_3666 _ ok_3692 (hr_3693.below hB_3804) (by omega)) ?_)
  rintro _ w_3811 ⟨c_3812, F_3813, rfl, rp_3814, sg_3815, k_3816⟩
  obtain ⟨A_3817, n_3818, c_3819, e_c_3812, ln_3820⟩ := rp_3814.list_inv
  simp only [List.cons.injEq, and_true] at e_c_3812
  subst e_c_3812
  have hB_3821 := below_next hB_3804 k_3816 (by omega)
  have z_3822 := k_3816.size
  have bx_3823 := bx_3806.below k_3816
  have bx_3824 := bx_3807.below k_3816
  have bx_3825 := bx_3803.below k_3816
  have rp_3826 := rp_3808.below k_3816
  have rp_3827 := rp_3809.below k_3816
  have rp_3828 := rp_3810.below k_3816
  refine ⟨_, rfl, ?_⟩
  refine l_op wn (o_val (x_field (k := 0) (j := 4) Try.underlying68 rfl Try.sizeOf64 rfl (et (v := (Value.pointer (some ⟨w_3706.heap.size, 0, none⟩))) rfl)) ?_)
  refine l_op wn (o_store Try.sizeOf64 (et (v := (Value.pointer (some ⟨w_3706.heap.size, 4, none⟩))) rfl) (et (v := (Value.slice A_3817 n_3818 c_3819)) rfl) rfl bx_3825 rfl ?_)
  intro w_3830 of_3831 bx_3832
  have bx_3833 : Blk w_3830 w_3706.heap.size 68 [(Value.slice A_3725 n_3726 c_3727), (Value.slice A_3750 n_3751 c_3752), (Value.slice A_3777 n_3778 c_3779), (Value.int .i64 i_3662), (Value.slice A_3817 n_3818 c_3819), (Value.bool false), (Value.int .i64 0), (Value.int .i64 0), (Value.string (⟨#[]⟩)), (Value.slice none 0 0)] := bx_3832
  have hB_3834 := below_off hB_3821 of_3831 (by omega)
  have z_3835 := of_3831.size
  have bx_3836 := bx_3823.off of_3831 (by omega)
  have bx_3837 := bx_3824.off of_3831 (by omega)
  have rp_3838 := rp_3826.off of_3831 (fun hm => by have := sg_3723.bd _ hm; omega)
  have rp_3839 := rp_3827.off of_3831 (fun hm => by have := sg_3748.bd _ hm; omega)
  have rp_3840 := rp_3828.off of_3831 (fun hm => by have := sg_3775.bd _ hm; omega)
  have rp_3841 := rp_3814.off of_3831 (fun hm => by have := sg_3815.bd _ hm; omega)
  refine l_nil ?_
  refine w_seq ?_
  refine w_region ?_
  refine l_op wn (o_val (x_field (k := 4) (j := 5) Try.underlying60 rfl Try.sizeOf58 rfl (et (v := (Value.pointer (some ⟨w.heap.size, 0, none⟩))) rfl)) ?_)
  refine l_op wn (o_val (x_loadN (cs := [(Value.bool q_3669), (Value.int .i64 i_3670), (Value.int .i64 i_3671), (Value.string s_3672), (Value.slice A_3674 n_3675 c_3676)]) Try.isAgg58 Try.sizeOf58 (et (v := (Value.pointer (some ⟨w.heap.size, 5, none⟩))) rfl) rfl (bx_3836.lies.sub 5 5)) ?_)
  have rr_3849 := (ragg (rcons (rbool (w := w_3830) (n := q_3669)) (rcons (rint (w := w_3830) (n := i_3670) bd_3695) (rcons (rint (w := w_3830) (n := i_3671) bd_3696) (rcons (rstr (w := w_3830) (n := s_3672) bd_3697) (rcons (hr_3699.below hB_3834) (rnil (w := w_3830))))))))
  refine l_op wn (o_call (x_call Try.call71 ef (a1 (et (v := (Value.agg #[(Value.bool q_3669), (Value.int .i64 i_3670), (Value.int .i64 i_3671), (Value.string s_3672), (Value.slice A_3674 n_3675 c_3676)])) rfl))) (to_Pending w_3830 (.agg [.bool q_3669, .int i_3670, .int i_3671, .str s_3672, .list xs_3673]) [(Value.bool q_3669), (Value.int .i64 i_3670), (Value.int .i64 i_3671), (Value.string s_3672), (Value.slice A_3674 n_3675 c_3676)] _ (ok_agg rfl (okz_cons (ok_bool rfl) (okz_cons (ok_int rfl) (okz_cons (ok_int rfl) (okz_cons (ok_str rfl) (okz_cons (ok_list rfl ok_3698) okz_nil)))))) rr_3849 (by omega)) ?_)
  rintro _ w_3842 ⟨cs_3848, F_3844, rfl, rp_3845, sg_3846, k_3847⟩
  have hB_3850 := below_next hB_3834 k_3847 (by omega)
  have z_3851 := k_3847.size
  have bx_3852 := bx_3836.below k_3847
  have bx_3853 := bx_3837.below k_3847
  have bx_3854 := bx_3833.below k_3847
  have rp_3855 := rp_3838.below k_3847
  have rp_3856 := rp_3839.below k_3847
  have rp_3857 := rp_3840.below k_3847
  have rp_3858 := rp_3841.below k_3847
  obtain ⟨A_3860, n_3861, c_3862, F_3863, rfl⟩ := cells_Pending rp_3845
  refine ⟨_, rfl, ?_⟩
  refine l_op wn (o_val (x_field (k := 4) (j := 5) Try.underlying68 rfl Try.sizeOf66 rfl (et (v := (Value.pointer (some ⟨w_3706.heap.size, 0, none⟩))) rfl)) ?_)
  refine l_op wn (o_storeN (vs := [(Value.bool q_3669), (Value.int .i64 i_3670), (Value.int .i64 i_3671), (Value.string s_3672), (Value.slice A_3860 n_3861 c_3862)]) Try.sizeOf66 (et (v := (Value.pointer (some ⟨w_3706.heap.size, 5, none⟩))) rfl) (et (v := (Value.agg #[(Value.bool q_3669), (Value.int .i64 i_3670), (Value.int .i64 i_3671), (Value.string s_3672), (Value.slice A_3860 n_3861 c_3862)])) rfl) rfl (by simp [one]) bx_3854 (by simp) ?_)
  intro w_3864 of_3865 bx_3866
  have bx_3867 : Blk w_3864 w_3706.heap.size 68 [(Value.slice A_3725 n_3726 c_3727), (Value.slice A_3750 n_3751 c_3752), (Value.slice A_3777 n_3778 c_3779), (Value.int .i64 i_3662), (Value.slice A_3817 n_3818 c_3819), (Value.bool q_3669), (Value.int .i64 i_3670), (Value.int .i64 i_3671), (Value.string s_3672), (Value.slice A_3860 n_3861 c_3862)] := bx_3866
  have hB_3868 := below_off hB_3850 of_3865 (by omega)
  have z_3869 := of_3865.size
  have bx_3870 := bx_3852.off of_3865 (by omega)
  have bx_3871 := bx_3853.off of_3865 (by omega)
  have rp_3872 := rp_3855.off of_3865 (fun hm => by have := sg_3723.bd _ hm; omega)
  have rp_3873 := rp_3856.off of_3865 (fun hm => by have := sg_3748.bd _ hm; omega)
  have rp_3874 := rp_3857.off of_3865 (fun hm => by have := sg_3775.bd _ hm; omega)
  have rp_3875 := rp_3858.off of_3865 (fun hm => by have := sg_3815.bd _ hm; omega)
  have rp_3876 := rp_3845.off of_3865 (fun hm => by have := sg_3846.bd _ hm; omega)
  refine l_nil ?_
  refine w_seq ?_
  refine w_region ?_
  refine l_op wn (o_val (x_loadN (cs := [(Value.slice A_3725 n_3726 c_3727), (Value.slice A_3750 n_3751 c_3752), (Value.slice A_3777 n_3778 c_3779), (Value.int .i64 i_3662), (Value.slice A_3817 n_3818 c_3819), (Value.bool q_3669), (Value.int .i64 i_3670), (Value.int .i64 i_3671), (Value.string s_3672), (Value.slice A_3860 n_3861 c_3862)]) Try.isAgg68 Try.sizeOf68 (et (v := (Value.pointer (some ⟨w_3706.heap.size, 0, none⟩))) rfl) rfl (bx_3867.lies)) ?_)
  refine l_op wn (o_storeN (vs := [(Value.slice A_3725 n_3726 c_3727), (Value.slice A_3750 n_3751 c_3752), (Value.slice A_3777 n_3778 c_3779), (Value.int .i64 i_3662), (Value.slice A_3817 n_3818 c_3819), (Value.bool q_3669), (Value.int .i64 i_3670), (Value.int .i64 i_3671), (Value.string s_3672), (Value.slice A_3860 n_3861 c_3862)]) Try.sizeOf68 (et (v := (Value.pointer (some ⟨w_3701.heap.size, 0, none⟩))) rfl) (et (v := (Value.agg #[(Value.slice A_3725 n_3726 c_3727), (Value.slice A_3750 n_3751 c_3752), (Value.slice A_3777 n_3778 c_3779), (Value.int .i64 i_3662), (Value.slice A_3817 n_3818 c_3819), (Value.bool q_3669), (Value.int .i64 i_3670), (Value.int .i64 i_3671), (Value.string s_3672), (Value.slice A_3860 n_3861 c_3862)])) rfl) rfl (by simp [one]) bx_3871 (by simp) ?_)
  intro w_3877 of_3878 bx_3879
  have bx_3880 : Blk w_3877 w_3701.heap.size 68 [(Value.slice A_3725 n_3726 c_3727), (Value.slice A_3750 n_3751 c_3752), (Value.slice A_3777 n_3778 c_3779), (Value.int .i64 i_3662), (Value.slice A_3817 n_3818 c_3819), (Value.bool q_3669), (Value.int .i64 i_3670), (Value.int .i64 i_3671), (Value.string s_3672), (Value.slice A_3860 n_3861 c_3862)] := bx_3879
  have hB_3881 := below_off hB_3868 of_3878 (by omega)
  have z_3882 := of_3878.size
  have bx_3883 := bx_3870.off of_3878 (by omega)
  have bx_3884 := bx_3867.off of_3878 (by omega)
  have rp_3885 := rp_3872.off of_3878 (fun hm => by have := sg_3723.bd _ hm; omega)
  have rp_3886 := rp_3873.off of_3878 (fun hm => by have := sg_3748.bd _ hm; omega)
  have rp_3887 := rp_3874.off of_3878 (fun hm => by have := sg_3775.bd _ hm; omega)
  have rp_3888 := rp_3875.off of_3878 (fun hm => by have := sg_3815.bd _ hm; omega)
  have rp_3889 := rp_3876.off of_3878 (fun hm => by have := sg_3846.bd _ hm; omega)
  refine l_nil ?_
  refine w_ret ?_
  have rr_3890 := (ragg (rcons rp_3885 (rcons rp_3886 (rcons rp_3887 (rcons (rint (w := w_3877) (n := i_3662) bd_3691) (rcons rp_3888 (rcons rp_3889 (rnil (w := w_3877)))))))))
  exact ⟨_, r_cell Try.results36 rfl Try.isAgg68 Try.sizeOf68 rfl bx_3880, _, _, rfl, rr_3890, ((seg_app sg_3723 (seg_app sg_3748 (seg_app sg_3775 (seg_skip (seg_app sg_3815 (seg_app sg_3846 (seg_nil (lo := w_3877.heap.size) (hi := w_3877.heap.size) (Nat.le_refl _)) (by omega)) (by omega))) (by omega)) (by omega)) (by omega))).mono (by omega) (by omega), hB_3881⟩


end Go.Proofs.Ytilohpakglpdcaa
