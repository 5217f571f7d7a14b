/-
  The walk of the law FnExactChangesBy. Printed by a program of our own.
-/
import Derived.Test.YtilohpakglpdcaaCntW
import Derived.Test.YtilohpakglpdcaaSzW
import Derived.Test.YtilohpakglpdcaaToW
import Derived.Test.YtilohpakglpdcaaEqW
namespace Go.Proofs.Ytilohpakglpdcaa
open Go.RowKit
set_option linter.unusedVariables false
set_option maxRecDepth 100000

set_option maxHeartbeats 2000000 in
theorem law_ChangesBy (w : World) (x : V) (cs : List Value) (F : List Nat) (ok : Ok x tJournal) (hr : Rep w x cs F) (by_ : Int) (hby : -9223372036854775808 ≤ by_ ∧ by_ ≤ 9223372036854775807) : Calls Try.prog 5 #[.agg cs.toArray, .int .i64 by_] w (Rets w (.bool true)) := by
  obtain ⟨xs_1508, A_1509, n_1510, c_1511, F_1512, xs_1514, A_1515, n_1516, c_1517, F_1518, rfl, rfl, rfl, ok_1523, hr_1524, ln_1525, ok_1526, hr_1527, ln_1528⟩ := open_Journal ok hr
  have hB0 := Below.refl w.heap.size w
  refine enter (N := 31) Try.func5 rfl Try.ntmps5 rfl ?_
  refine w_seq ?_
  refine w_region ?_
  refine l_op wn (o_new (x_box (cs := [(Value.slice A_1509 n_1510 c_1511), (Value.slice A_1515 n_1516 c_1517)]) (et (v := (Value.agg #[(Value.slice A_1509 n_1510 c_1511), (Value.slice A_1515 n_1516 c_1517)])) rfl)) ?_)
  intro w_1529 z_1530 k_1531 bx_1532
  have hB_1533 := below_next hB0 k_1531 (by omega)
  refine l_op wn (o_val (x_assign ec) ?_)
  refine l_nil ?_
  refine w_seq ?_
  refine w_region ?_
  refine l_op wn (o_val (x_assign ec) ?_)
  refine l_nil ?_
  refine w_seq ?_
  refine w_region ?_
  refine l_op wn (o_val (x_loadN (cs := [(Value.slice A_1509 n_1510 c_1511), (Value.slice A_1515 n_1516 c_1517)]) Try.isAgg38 Try.sizeOf38 (et (v := (Value.pointer (some ⟨w.heap.size, 0, none⟩))) rfl) rfl (bx_1532.lies)) ?_)
  refine l_op wn (o_val (x_move (et (v := (Value.int .i64 1048576)) rfl)) ?_)
  have rr_1538 := (ragg (rcons (hr_1524.below hB_1533) (rcons (hr_1527.below hB_1533) (rnil (w := w_1529)))))
  refine l_op wn (o_call (x_call Try.call19 ef (a2 (et (v := (Value.agg #[(Value.slice A_1509 n_1510 c_1511), (Value.slice A_1515 n_1516 c_1517)])) rfl) (et (v := (Value.int .i64 1048576)) rfl))) (sz_Journal w_1529 (.agg [.list xs_1508, .list xs_1514]) [(Value.slice A_1509 n_1510 c_1511), (Value.slice A_1515 n_1516 c_1517)] _ 1048576 (ok_agg rfl (okz_cons (ok_list rfl ok_1523) (okz_cons (ok_list rfl ok_1526) okz_nil))) rr_1538 (by omega) (by omega)) ?_)
  rintro _ w_1534 ⟨r_1535, rfl, er_1536, k_1537⟩
  refine ⟨_, rfl, ?_⟩
  have sc_1539 := sz_cases er_1536
  have hB_1540 := below_next hB_1533 k_1537 (by omega)
  have z_1541 := k_1537.size
  have bx_1542 := bx_1532.below k_1537
  refine l_op wn (o_val (x_assign (et (v := (Value.int .i64 r_1535)) rfl)) ?_)
  refine l_nil ?_
  refine w_seq ?_
  refine w_seq ?_
  refine w_region ?_
  refine l_op wn (o_val (x_move (et (v := (Value.int .i64 r_1535)) rfl)) ?_)
  by_cases h_1543 : r_1535 < 0
  · refine l_op wn (o_val (x_lss (r := true) (et (v := (Value.int .i64 r_1535)) rfl) ec (dec_t h_1543)) ?_)
    refine l_nil ?_
    refine w_if_t (et (v := (Value.bool true)) rfl) ?_
    refine w_seq ?_
    refine w_region ?_
    refine l_op wn (o_val (x_assign ec) ?_)
    refine l_nil ?_
    refine w_ret ?_
    exact ⟨_, r_tmp (v := (Value.bool true)) Try.results5 rfl, rfl, hB_1540⟩
  refine l_op wn (o_val (x_lss (r := false) (et (v := (Value.int .i64 r_1535)) rfl) ec (dec_f h_1543)) ?_)
  refine l_nil ?_
  refine w_if_f (et (v := (Value.bool false)) rfl) ?_
  refine w_skip ?_
  refine w_seq ?_
  refine w_region ?_
  refine l_op wn (o_val (x_loadN (cs := [(Value.slice A_1509 n_1510 c_1511), (Value.slice A_1515 n_1516 c_1517)]) Try.isAgg38 Try.sizeOf38 (et (v := (Value.pointer (some ⟨w.heap.size, 0, none⟩))) rfl) rfl (bx_1542.lies)) ?_)
  have rr_1551 := (ragg (rcons (hr_1524.below hB_1540) (rcons (hr_1527.below hB_1540) (rnil (w := w_1534)))))
  refine l_op wn (o_call (x_call Try.call21 ef (a1 (et (v := (Value.agg #[(Value.slice A_1509 n_1510 c_1511), (Value.slice A_1515 n_1516 c_1517)])) rfl))) (to_Journal w_1534 (.agg [.list xs_1508, .list xs_1514]) [(Value.slice A_1509 n_1510 c_1511), (Value.slice A_1515 n_1516 c_1517)] _ (ok_agg rfl (okz_cons (ok_list rfl ok_1523) (okz_cons (ok_list rfl ok_1526) okz_nil))) rr_1551 (by omega)) ?_)
  rintro _ w_1544 ⟨cs_1550, F_1546, rfl, rp_1547, sg_1548, k_1549⟩
  have hB_1552 := below_next hB_1540 k_1549 (by omega)
  have z_1553 := k_1549.size
  have bx_1554 := bx_1542.below k_1549
  obtain ⟨A_1556, n_1557, c_1558, F_1559, A_1560, n_1561, c_1562, F_1563, rfl⟩ := cells_Journal rp_1547
  refine ⟨_, rfl, ?_⟩
  refine l_op wn (o_val (x_move (et (v := (Value.int .i64 by_)) rfl)) ?_)
  have rr_1568 := rp_1547
  refine l_op wn (o_call (x_call Try.call20 ef (a2 (et (v := (Value.agg #[(Value.slice A_1556 n_1557 c_1558), (Value.slice A_1560 n_1561 c_1562)])) rfl) (et (v := (Value.int .i64 by_)) rfl))) (sChangesBy_c w_1544 (.agg [.list xs_1508, .list xs_1514]) [(Value.slice A_1556 n_1557 c_1558), (Value.slice A_1560 n_1561 c_1562)] _ (ok_agg rfl (okz_cons (ok_list rfl ok_1523) (okz_cons (ok_list rfl ok_1526) okz_nil))) rr_1568 by_ (by omega)) ?_)
  rintro _ w_1564 ⟨r_1565, rfl, er_1566, k_1567⟩
  refine ⟨_, rfl, ?_⟩
  have hB_1569 := below_next hB_1552 k_1567 (by omega)
  have z_1570 := k_1567.size
  have bx_1571 := bx_1554.below k_1567
  have rp_1572 := rp_1547.below k_1567
  refine l_op wn (o_val (x_assign (et (v := (Value.int .i64 r_1565)) rfl)) ?_)
  refine l_nil ?_
  refine w_seq ?_
  refine w_region ?_
  refine l_op wn (o_val (x_loadN (cs := [(Value.slice A_1509 n_1510 c_1511), (Value.slice A_1515 n_1516 c_1517)]) Try.isAgg38 Try.sizeOf38 (et (v := (Value.pointer (some ⟨w.heap.size, 0, none⟩))) rfl) rfl (bx_1571.lies)) ?_)
  have rr_1580 := (ragg (rcons (hr_1524.below hB_1569) (rcons (hr_1527.below hB_1569) (rnil (w := w_1564)))))
  refine l_op wn (o_call (x_call Try.call21 ef (a1 (et (v := (Value.agg #[(Value.slice A_1509 n_1510 c_1511), (Value.slice A_1515 n_1516 c_1517)])) rfl))) (to_Journal w_1564 (.agg [.list xs_1508, .list xs_1514]) [(Value.slice A_1509 n_1510 c_1511), (Value.slice A_1515 n_1516 c_1517)] _ (ok_agg rfl (okz_cons (ok_list rfl ok_1523) (okz_cons (ok_list rfl ok_1526) okz_nil))) rr_1580 (by omega)) ?_)
  rintro _ w_1573 ⟨cs_1579, F_1575, rfl, rp_1576, sg_1577, k_1578⟩
  have hB_1581 := below_next hB_1569 k_1578 (by omega)
  have z_1582 := k_1578.size
  have bx_1583 := bx_1571.below k_1578
  have rp_1584 := rp_1572.below k_1578
  obtain ⟨A_1586, n_1587, c_1588, F_1589, A_1590, n_1591, c_1592, F_1593, rfl⟩ := cells_Journal rp_1576
  refine ⟨_, rfl, ?_⟩
  refine l_op wn (o_new (x_alloc (cs := [(Value.slice none 0 0), (Value.slice none 0 0)]) Try.zeroValue44) ?_)
  intro w_1594 z_1595 k_1596 bx_1597
  have hB_1598 := below_next hB_1581 k_1596 (by omega)
  have bx_1599 := bx_1583.below k_1596
  have rp_1600 := rp_1584.below k_1596
  have rp_1601 := rp_1576.below k_1596
  refine l_op wn (o_storeN (vs := [(Value.slice A_1586 n_1587 c_1588), (Value.slice A_1590 n_1591 c_1592)]) Try.sizeOf44 (et (v := (Value.pointer (some ⟨w_1573.heap.size, 0, none⟩))) rfl) (et (v := (Value.agg #[(Value.slice A_1586 n_1587 c_1588), (Value.slice A_1590 n_1591 c_1592)])) rfl) rfl (by simp [one]) bx_1597 (by simp) ?_)
  intro w_1602 of_1603 bx_1604
  have bx_1605 : Blk w_1602 w_1573.heap.size 44 [(Value.slice A_1586 n_1587 c_1588), (Value.slice A_1590 n_1591 c_1592)] := bx_1604
  have hB_1606 := below_off hB_1598 of_1603 (by omega)
  have z_1607 := of_1603.size
  have bx_1608 := bx_1599.off of_1603 (by omega)
  have rp_1609 := rp_1600.off of_1603 (fun hm => by have := sg_1548.bd _ hm; omega)
  have rp_1610 := rp_1601.off of_1603 (fun hm => by have := sg_1577.bd _ hm; omega)
  refine l_nil ?_
  refine w_seq ?_
  refine w_region ?_
  refine l_op wn (o_val (x_loadN (cs := [(Value.slice A_1586 n_1587 c_1588), (Value.slice A_1590 n_1591 c_1592)]) Try.isAgg44 Try.sizeOf44 (et (v := (Value.pointer (some ⟨w_1573.heap.size, 0, none⟩))) rfl) rfl (bx_1605.lies)) ?_)
  refine l_op wn (o_val (x_move (et (v := (Value.int .i64 by_)) rfl)) ?_)
  have rr_1615 := rp_1610
  refine l_op wn (o_call (x_call Try.call22 ef (a2 (et (v := (Value.agg #[(Value.slice A_1586 n_1587 c_1588), (Value.slice A_1590 n_1591 c_1592)])) rfl) (et (v := (Value.int .i64 by_)) rfl))) (changesBy_c w_1602 (.agg [.list xs_1508, .list xs_1514]) [(Value.slice A_1586 n_1587 c_1588), (Value.slice A_1590 n_1591 c_1592)] _ (ok_agg rfl (okz_cons (ok_list rfl ok_1523) (okz_cons (ok_list rfl ok_1526) okz_nil))) rr_1615 by_ (by omega)) ?_)
  rintro _ w_1611 ⟨r_1612, rfl, er_1613, k_1614⟩
  refine ⟨_, rfl, ?_⟩
  have hB_1616 := below_next hB_1606 k_1614 (by omega)
  have z_1617 := k_1614.size
  have bx_1618 := bx_1608.below k_1614
  have bx_1619 := bx_1605.below k_1614
  have rp_1620 := rp_1609.below k_1614
  have rp_1621 := rp_1610.below k_1614
  refine l_op wn (o_val (x_assign (et (v := (Value.int .i64 r_1612)) rfl)) ?_)
  refine l_nil ?_
  refine w_seq ?_
  refine w_seq ?_
  refine w_region ?_
  refine l_op wn (o_val (x_move (et (v := (Value.int .i64 r_1612)) rfl)) ?_)
  refine l_op wn (o_val (x_move (et (v := (Value.int .i64 r_1565)) rfl)) ?_)
  have h_1622 : r_1612 = r_1565 := by omega
  refine l_op wn (o_val (x_neq (r := false) (et (v := (Value.int .i64 r_1612)) rfl) (et (v := (Value.int .i64 r_1565)) rfl) (dec_t h_1622)) ?_)
  refine l_nil ?_
  refine w_if_f (et (v := (Value.bool false)) rfl) ?_
  refine w_skip ?_
  refine w_seq ?_
  refine w_seq ?_
  have hS_1624 := Sm.start [w_1573.heap.size, w.heap.size] w_1611
  refine w_draw (Sm [w_1573.heap.size, w.heap.size] w_1611) [(0, true), (1, true), (2, false), (3, false), (4, true)] (by kernel_rfl) (by kernel_rfl) rfl (by kernel_rfl) ?_
  have hB_1625 := hB_1616.drew
  have bx_1626 := bx_1618.drew
  have bx_1627 := bx_1619.drew
  have rp_1628 := rp_1620.drew
  have rp_1629 := rp_1621.drew
  have z_1630 : w_1611.drew.heap.size = w_1611.heap.size := rfl
  refine d_q rfl rfl wn (fun w' hS' => (x_loadN (cs := [(Value.slice A_1586 n_1587 c_1588), (Value.slice A_1590 n_1591 c_1592)]) Try.isAgg44 Try.sizeOf44 (et (v := (Value.pointer (some ⟨w_1573.heap.size, 0, none⟩))) rfl) rfl ((bx_1619.keep (hS' _ (by simp))).lies))) hS_1624 ?_
  refine d_q rfl rfl wn (fun w' hS' => (x_loadN (cs := [(Value.slice A_1509 n_1510 c_1511), (Value.slice A_1515 n_1516 c_1517)]) Try.isAgg38 Try.sizeOf38 (et (v := (Value.pointer (some ⟨w.heap.size, 0, none⟩))) rfl) rfl ((bx_1618.keep (hS' _ (by simp))).lies))) hS_1624 ?_
  have rr_1638 := (ragg (rcons (hr_1524.below hB_1625) (rcons (hr_1527.below hB_1625) (rnil (w := w_1611.drew)))))
  refine d_op rfl wn (o_call (x_call Try.call21 ef (a1 (et (v := (Value.agg #[(Value.slice A_1509 n_1510 c_1511), (Value.slice A_1515 n_1516 c_1517)])) rfl))) (to_Journal w_1611.drew (.agg [.list xs_1508, .list xs_1514]) [(Value.slice A_1509 n_1510 c_1511), (Value.slice A_1515 n_1516 c_1517)] _ (ok_agg rfl (okz_cons (ok_list rfl ok_1523) (okz_cons (ok_list rfl ok_1526) okz_nil))) rr_1638 (by omega)) ?_)
  rintro _ w_1631 ⟨cs_1637, F_1633, rfl, rp_1634, sg_1635, k_1636⟩
  have hB_1639 := below_next hB_1625 k_1636 (by omega)
  have z_1640 := k_1636.size
  have bx_1641 := bx_1626.below k_1636
  have bx_1642 := bx_1627.below k_1636
  have rp_1643 := rp_1628.below k_1636
  have rp_1644 := rp_1629.below k_1636
  obtain ⟨A_1646, n_1647, c_1648, F_1649, A_1650, n_1651, c_1652, F_1653, rfl⟩ := cells_Journal rp_1634
  refine ⟨_, rfl, ?_⟩
  have hS_1654 := hS_1624.next k_1636 (by simp; omega)
  refine ⟨hS_1654, ?_⟩
  have rr_1657 := rp_1644
  have rr_1658 := rp_1634
  refine d_op rfl wn (o_call (x_call Try.call23 ef (a2 (et (v := (Value.agg #[(Value.slice A_1586 n_1587 c_1588), (Value.slice A_1590 n_1591 c_1592)])) rfl) (et (v := (Value.agg #[(Value.slice A_1646 n_1647 c_1648), (Value.slice A_1650 n_1651 c_1652)])) rfl))) (eq_Journal w_1631 (.agg [.list xs_1508, .list xs_1514]) [(Value.slice A_1586 n_1587 c_1588), (Value.slice A_1590 n_1591 c_1592)] _ [(Value.slice A_1646 n_1647 c_1648), (Value.slice A_1650 n_1651 c_1652)] _ (ok_agg rfl (okz_cons (ok_list rfl ok_1523) (okz_cons (ok_list rfl ok_1526) okz_nil))) rr_1657 rr_1658) ?_)
  rintro _ w_1655 ⟨rfl, k_1656⟩
  refine ⟨_, rfl, ?_⟩
  have hB_1659 := below_next hB_1639 k_1656 (by omega)
  have z_1660 := k_1656.size
  have bx_1661 := bx_1641.below k_1656
  have bx_1662 := bx_1642.below k_1656
  have rp_1663 := rp_1643.below k_1656
  have rp_1664 := rp_1644.below k_1656
  have rp_1665 := rp_1634.below k_1656
  have hS_1666 := hS_1654.next k_1656 (by simp; omega)
  refine ⟨hS_1666, ?_⟩
  refine d_q rfl rfl wn (fun w' hS' => (x_not (et (v := (Value.bool true)) rfl))) hS_1666 ?_
  refine d_nil ?_
  refine w_if_f (et (v := (Value.bool false)) rfl) ?_
  refine w_skip ?_
  refine w_seq ?_
  refine w_region ?_
  refine l_op wn (o_val (x_assign ec) ?_)
  refine l_nil ?_
  refine w_ret ?_
  exact ⟨_, r_tmp (v := (Value.bool true)) Try.results5 rfl, rfl, hB_1659⟩

end Go.Proofs.Ytilohpakglpdcaa
