/-
  The walk of the law FnExactMayWork. Printed by a program of our own.
-/
import Derived.Test.YtilohpakglpdcaaCntW
import Derived.Test.YtilohpakglpdcaaSzW
import Derived.Test.YtilohpakglpdcaaToW
import Derived.Test.YtilohpakglpdcaaEqW
namespace Go.Proofs.Ytilohpakglpdcaa
open Go.RowKit
set_option linter.unusedVariables false
set_option maxRecDepth 100000

set_option maxHeartbeats 2000000 in
theorem law_MayWork (w : World) (x : V) (cs : List Value) (F : List Nat) (ok : Ok x tStore) (hr : Rep w x cs F) (sn : Int) (hsn : -9223372036854775808 ≤ sn ∧ sn ≤ 9223372036854775807) : Calls Try.prog 8 #[.agg cs.toArray, .int .i64 sn] w (Rets w (.bool true)) := by
  obtain ⟨xs_1667, A_1668, n_1669, c_1670, F_1671, xs_1673, A_1674, n_1675, c_1676, F_1677, xs_1679, A_1680, n_1681, c_1682, F_1683, i_1685, xs_1686, A_1687, n_1688, c_1689, F_1690, q_1692, i_1693, i_1694, s_1695, xs_1696, A_1697, n_1698, c_1699, F_1700, rfl, rfl, rfl, ok_1705, hr_1706, ln_1707, ok_1708, hr_1709, ln_1710, ok_1711, hr_1712, ln_1713, bd_1714, ok_1715, hr_1716, ln_1717, bd_1718, bd_1719, bd_1720, ok_1721, hr_1722, ln_1723⟩ := open_Store ok hr
  have hB0 := Below.refl w.heap.size w
  refine enter (N := 31) Try.func8 rfl Try.ntmps8 rfl ?_
  refine w_seq ?_
  refine w_region ?_
  refine l_op wn (o_new (x_box (cs := [(Value.slice A_1668 n_1669 c_1670), (Value.slice A_1674 n_1675 c_1676), (Value.slice A_1680 n_1681 c_1682), (Value.int .i64 i_1685), (Value.slice A_1687 n_1688 c_1689), (Value.bool q_1692), (Value.int .i64 i_1693), (Value.int .i64 i_1694), (Value.string s_1695), (Value.slice A_1697 n_1698 c_1699)]) (et (v := (Value.agg #[(Value.slice A_1668 n_1669 c_1670), (Value.slice A_1674 n_1675 c_1676), (Value.slice A_1680 n_1681 c_1682), (Value.int .i64 i_1685), (Value.slice A_1687 n_1688 c_1689), (Value.bool q_1692), (Value.int .i64 i_1693), (Value.int .i64 i_1694), (Value.string s_1695), (Value.slice A_1697 n_1698 c_1699)])) rfl)) ?_)
  intro w_1724 z_1725 k_1726 bx_1727
  have hB_1728 := below_next hB0 k_1726 (by omega)
  refine l_op wn (o_val (x_assign ec) ?_)
  refine l_nil ?_
  refine w_seq ?_
  refine w_region ?_
  refine l_op wn (o_val (x_assign ec) ?_)
  refine l_nil ?_
  refine w_seq ?_
  refine w_region ?_
  refine l_op wn (o_val (x_loadN (cs := [(Value.slice A_1668 n_1669 c_1670), (Value.slice A_1674 n_1675 c_1676), (Value.slice A_1680 n_1681 c_1682), (Value.int .i64 i_1685), (Value.slice A_1687 n_1688 c_1689), (Value.bool q_1692), (Value.int .i64 i_1693), (Value.int .i64 i_1694), (Value.string s_1695), (Value.slice A_1697 n_1698 c_1699)]) Try.isAgg60 Try.sizeOf60 (et (v := (Value.pointer (some ⟨w.heap.size, 0, none⟩))) rfl) rfl (bx_1727.lies)) ?_)
  refine l_op wn (o_val (x_move (et (v := (Value.int .i64 1048576)) rfl)) ?_)
  have rr_1733 := (ragg (rcons (hr_1706.below hB_1728) (rcons (hr_1709.below hB_1728) (rcons (hr_1712.below hB_1728) (rcons (rint (w := w_1724) (n := i_1685) bd_1714) (rcons (hr_1716.below hB_1728) (rcons (ragg (rcons (rbool (w := w_1724) (n := q_1692)) (rcons (rint (w := w_1724) (n := i_1693) bd_1718) (rcons (rint (w := w_1724) (n := i_1694) bd_1719) (rcons (rstr (w := w_1724) (n := s_1695) bd_1720) (rcons (hr_1722.below hB_1728) (rnil (w := w_1724)))))))) (rnil (w := w_1724)))))))))
  refine l_op wn (o_call (x_call Try.call34 ef (a2 (et (v := (Value.agg #[(Value.slice A_1668 n_1669 c_1670), (Value.slice A_1674 n_1675 c_1676), (Value.slice A_1680 n_1681 c_1682), (Value.int .i64 i_1685), (Value.slice A_1687 n_1688 c_1689), (Value.bool q_1692), (Value.int .i64 i_1693), (Value.int .i64 i_1694), (Value.string s_1695), (Value.slice A_1697 n_1698 c_1699)])) rfl) (et (v := (Value.int .i64 1048576)) rfl))) (sz_Store w_1724 (.agg [.list xs_1667, .list xs_1673, .list xs_1679, .int i_1685, .list xs_1686, .agg [.bool q_1692, .int i_1693, .int i_1694, .str s_1695, .list xs_1696]]) [(Value.slice A_1668 n_1669 c_1670), (Value.slice A_1674 n_1675 c_1676), (Value.slice A_1680 n_1681 c_1682), (Value.int .i64 i_1685), (Value.slice A_1687 n_1688 c_1689), (Value.bool q_1692), (Value.int .i64 i_1693), (Value.int .i64 i_1694), (Value.string s_1695), (Value.slice A_1697 n_1698 c_1699)] _ 1048576 (ok_agg rfl (okz_cons (ok_list rfl ok_1705) (okz_cons (ok_list rfl ok_1708) (okz_cons (ok_list rfl ok_1711) (okz_cons (ok_int rfl) (okz_cons (ok_list rfl ok_1715) (okz_cons (ok_agg rfl (okz_cons (ok_bool rfl) (okz_cons (ok_int rfl) (okz_cons (ok_int rfl) (okz_cons (ok_str rfl) (okz_cons (ok_list rfl ok_1721) okz_nil)))))) okz_nil))))))) rr_1733 (by omega) (by omega)) ?_)
  rintro _ w_1729 ⟨r_1730, rfl, er_1731, k_1732⟩
  refine ⟨_, rfl, ?_⟩
  have sc_1734 := sz_cases er_1731
  have hB_1735 := below_next hB_1728 k_1732 (by omega)
  have z_1736 := k_1732.size
  have bx_1737 := bx_1727.below k_1732
  refine l_op wn (o_val (x_assign (et (v := (Value.int .i64 r_1730)) rfl)) ?_)
  refine l_nil ?_
  refine w_seq ?_
  refine w_seq ?_
  refine w_region ?_
  refine l_op wn (o_val (x_move (et (v := (Value.int .i64 r_1730)) rfl)) ?_)
  by_cases h_1738 : r_1730 < 0
  · refine l_op wn (o_val (x_lss (r := true) (et (v := (Value.int .i64 r_1730)) rfl) ec (dec_t h_1738)) ?_)
    refine l_nil ?_
    refine w_if_t (et (v := (Value.bool true)) rfl) ?_
    refine w_seq ?_
    refine w_region ?_
    refine l_op wn (o_val (x_assign ec) ?_)
    refine l_nil ?_
    refine w_ret ?_
    exact ⟨_, r_tmp (v := (Value.bool true)) Try.results8 rfl, rfl, hB_1735⟩
  refine l_op wn (o_val (x_lss (r := false) (et (v := (Value.int .i64 r_1730)) rfl) ec (dec_f h_1738)) ?_)
  refine l_nil ?_
  refine w_if_f (et (v := (Value.bool false)) rfl) ?_
  refine w_skip ?_
  refine w_seq ?_
  refine w_region ?_
  refine l_op wn (o_val (x_loadN (cs := [(Value.slice A_1668 n_1669 c_1670), (Value.slice A_1674 n_1675 c_1676), (Value.slice A_1680 n_1681 c_1682), (Value.int .i64 i_1685), (Value.slice A_1687 n_1688 c_1689), (Value.bool q_1692), (Value.int .i64 i_1693), (Value.int .i64 i_1694), (Value.string s_1695), (Value.slice A_1697 n_1698 c_1699)]) Try.isAgg60 Try.sizeOf60 (et (v := (Value.pointer (some ⟨w.heap.size, 0, none⟩))) rfl) rfl (bx_1737.lies)) ?_)
  have rr_1746 := (ragg (rcons (hr_1706.below hB_1735) (rcons (hr_1709.below hB_1735) (rcons (hr_1712.below hB_1735) (rcons (rint (w := w_1729) (n := i_1685) bd_1714) (rcons (hr_1716.below hB_1735) (rcons (ragg (rcons (rbool (w := w_1729) (n := q_1692)) (rcons (rint (w := w_1729) (n := i_1693) bd_1718) (rcons (rint (w := w_1729) (n := i_1694) bd_1719) (rcons (rstr (w := w_1729) (n := s_1695) bd_1720) (rcons (hr_1722.below hB_1735) (rnil (w := w_1729)))))))) (rnil (w := w_1729)))))))))
  refine l_op wn (o_call (x_call Try.call36 ef (a1 (et (v := (Value.agg #[(Value.slice A_1668 n_1669 c_1670), (Value.slice A_1674 n_1675 c_1676), (Value.slice A_1680 n_1681 c_1682), (Value.int .i64 i_1685), (Value.slice A_1687 n_1688 c_1689), (Value.bool q_1692), (Value.int .i64 i_1693), (Value.int .i64 i_1694), (Value.string s_1695), (Value.slice A_1697 n_1698 c_1699)])) rfl))) (to_Store w_1729 (.agg [.list xs_1667, .list xs_1673, .list xs_1679, .int i_1685, .list xs_1686, .agg [.bool q_1692, .int i_1693, .int i_1694, .str s_1695, .list xs_1696]]) [(Value.slice A_1668 n_1669 c_1670), (Value.slice A_1674 n_1675 c_1676), (Value.slice A_1680 n_1681 c_1682), (Value.int .i64 i_1685), (Value.slice A_1687 n_1688 c_1689), (Value.bool q_1692), (Value.int .i64 i_1693), (Value.int .i64 i_1694), (Value.string s_1695), (Value.slice A_1697 n_1698 c_1699)] _ (ok_agg rfl (okz_cons (ok_list rfl ok_1705) (okz_cons (ok_list rfl ok_1708) (okz_cons (ok_list rfl ok_1711) (okz_cons (ok_int rfl) (okz_cons (ok_list rfl ok_1715) (okz_cons (ok_agg rfl (okz_cons (ok_bool rfl) (okz_cons (ok_int rfl) (okz_cons (ok_int rfl) (okz_cons (ok_str rfl) (okz_cons (ok_list rfl ok_1721) okz_nil)))))) okz_nil))))))) rr_1746 (by omega)) ?_)
  rintro _ w_1739 ⟨cs_1745, F_1741, rfl, rp_1742, sg_1743, k_1744⟩
  have hB_1747 := below_next hB_1735 k_1744 (by omega)
  have z_1748 := k_1744.size
  have bx_1749 := bx_1737.below k_1744
  obtain ⟨A_1751, n_1752, c_1753, F_1754, A_1755, n_1756, c_1757, F_1758, A_1759, n_1760, c_1761, F_1762, A_1763, n_1764, c_1765, F_1766, A_1767, n_1768, c_1769, F_1770, rfl⟩ := cells_Store rp_1742
  refine ⟨_, rfl, ?_⟩
  refine l_op wn (o_val (x_move (et (v := (Value.int .i64 sn)) rfl)) ?_)
  have rr_1771 := rp_1742
  refine l_op wn (o_call (x_call Try.call35 ef (a2 (et (v := (Value.agg #[(Value.slice A_1751 n_1752 c_1753), (Value.slice A_1755 n_1756 c_1757), (Value.slice A_1759 n_1760 c_1761), (Value.int .i64 i_1685), (Value.slice A_1763 n_1764 c_1765), (Value.bool q_1692), (Value.int .i64 i_1693), (Value.int .i64 i_1694), (Value.string s_1695), (Value.slice A_1767 n_1768 c_1769)])) rfl) (et (v := (Value.int .i64 sn)) rfl))) (sMayWork_c w_1739 (.agg [.list xs_1667, .list xs_1673, .list xs_1679, .int i_1685, .list xs_1686, .agg [.bool q_1692, .int i_1693, .int i_1694, .str s_1695, .list xs_1696]]) [(Value.slice A_1751 n_1752 c_1753), (Value.slice A_1755 n_1756 c_1757), (Value.slice A_1759 n_1760 c_1761), (Value.int .i64 i_1685), (Value.slice A_1763 n_1764 c_1765), (Value.bool q_1692), (Value.int .i64 i_1693), (Value.int .i64 i_1694), (Value.string s_1695), (Value.slice A_1767 n_1768 c_1769)] _ (ok_agg rfl (okz_cons (ok_list rfl ok_1705) (okz_cons (ok_list rfl ok_1708) (okz_cons (ok_list rfl ok_1711) (okz_cons (ok_int rfl) (okz_cons (ok_list rfl ok_1715) (okz_cons (ok_agg rfl (okz_cons (ok_bool rfl) (okz_cons (ok_int rfl) (okz_cons (ok_int rfl) (okz_cons (ok_str rfl) (okz_cons (ok_list rfl ok_1721) okz_nil)))))) okz_nil))))))) rr_1771 sn (by omega)) ?_)
  rintro _ w_1772 ⟨r_1773, rfl, hr_1774, k_1775⟩
  refine ⟨_, rfl, ?_⟩
  have hB_1777 := below_next hB_1747 k_1775 (by omega)
  have z_1778 := k_1775.size
  have bx_1779 := bx_1749.below k_1775
  have rp_1780 := rp_1742.below k_1775
  cases r_1773
  rotate_left
  · have h_1776 : 1 ≤ sn ∧ (i_1685 = 0 ∨ i_1685 = sn) := hr_1774.1 rfl
    refine l_op wn (o_val (x_assign (et (v := (Value.bool true)) rfl)) ?_)
    refine l_nil ?_
    refine w_seq ?_
    refine w_region ?_
    refine l_op wn (o_val (x_loadN (cs := [(Value.slice A_1668 n_1669 c_1670), (Value.slice A_1674 n_1675 c_1676), (Value.slice A_1680 n_1681 c_1682), (Value.int .i64 i_1685), (Value.slice A_1687 n_1688 c_1689), (Value.bool q_1692), (Value.int .i64 i_1693), (Value.int .i64 i_1694), (Value.string s_1695), (Value.slice A_1697 n_1698 c_1699)]) Try.isAgg60 Try.sizeOf60 (et (v := (Value.pointer (some ⟨w.heap.size, 0, none⟩))) rfl) rfl (bx_1779.lies)) ?_)
    have rr_1908 := (ragg (rcons (hr_1706.below hB_1777) (rcons (hr_1709.below hB_1777) (rcons (hr_1712.below hB_1777) (rcons (rint (w := w_1772) (n := i_1685) bd_1714) (rcons (hr_1716.below hB_1777) (rcons (ragg (rcons (rbool (w := w_1772) (n := q_1692)) (rcons (rint (w := w_1772) (n := i_1693) bd_1718) (rcons (rint (w := w_1772) (n := i_1694) bd_1719) (rcons (rstr (w := w_1772) (n := s_1695) bd_1720) (rcons (hr_1722.below hB_1777) (rnil (w := w_1772)))))))) (rnil (w := w_1772)))))))))
    refine l_op wn (o_call (x_call Try.call36 ef (a1 (et (v := (Value.agg #[(Value.slice A_1668 n_1669 c_1670), (Value.slice A_1674 n_1675 c_1676), (Value.slice A_1680 n_1681 c_1682), (Value.int .i64 i_1685), (Value.slice A_1687 n_1688 c_1689), (Value.bool q_1692), (Value.int .i64 i_1693), (Value.int .i64 i_1694), (Value.string s_1695), (Value.slice A_1697 n_1698 c_1699)])) rfl))) (to_Store w_1772 (.agg [.list xs_1667, .list xs_1673, .list xs_1679, .int i_1685, .list xs_1686, .agg [.bool q_1692, .int i_1693, .int i_1694, .str s_1695, .list xs_1696]]) [(Value.slice A_1668 n_1669 c_1670), (Value.slice A_1674 n_1675 c_1676), (Value.slice A_1680 n_1681 c_1682), (Value.int .i64 i_1685), (Value.slice A_1687 n_1688 c_1689), (Value.bool q_1692), (Value.int .i64 i_1693), (Value.int .i64 i_1694), (Value.string s_1695), (Value.slice A_1697 n_1698 c_1699)] _ (ok_agg rfl (okz_cons (ok_list rfl ok_1705) (okz_cons (ok_list rfl ok_1708) (okz_cons (ok_list rfl ok_1711) (okz_cons (ok_int rfl) (okz_cons (ok_list rfl ok_1715) (okz_cons (ok_agg rfl (okz_cons (ok_bool rfl) (okz_cons (ok_int rfl) (okz_cons (ok_int rfl) (okz_cons (ok_str rfl) (okz_cons (ok_list rfl ok_1721) okz_nil)))))) okz_nil))))))) rr_1908 (by omega)) ?_)
    rintro _ w_1901 ⟨cs_1907, F_1903, rfl, rp_1904, sg_1905, k_1906⟩
    have hB_1909 := below_next hB_1777 k_1906 (by omega)
    have z_1910 := k_1906.size
    have bx_1911 := bx_1779.below k_1906
    have rp_1912 := rp_1780.below k_1906
    obtain ⟨A_1914, n_1915, c_1916, F_1917, A_1918, n_1919, c_1920, F_1921, A_1922, n_1923, c_1924, F_1925, A_1926, n_1927, c_1928, F_1929, A_1930, n_1931, c_1932, F_1933, rfl⟩ := cells_Store rp_1904
    refine ⟨_, rfl, ?_⟩
    refine l_op wn (o_new (x_alloc (cs := [(Value.slice none 0 0), (Value.slice none 0 0), (Value.slice none 0 0), (Value.int .i64 0), (Value.slice none 0 0), (Value.bool false), (Value.int .i64 0), (Value.int .i64 0), (Value.string (⟨#[]⟩)), (Value.slice none 0 0)]) Try.zeroValue68) ?_)
    intro w_1934 z_1935 k_1936 bx_1937
    have hB_1938 := below_next hB_1909 k_1936 (by omega)
    have bx_1939 := bx_1911.below k_1936
    have rp_1940 := rp_1912.below k_1936
    have rp_1941 := rp_1904.below k_1936
    refine l_op wn (o_storeN (vs := [(Value.slice A_1914 n_1915 c_1916), (Value.slice A_1918 n_1919 c_1920), (Value.slice A_1922 n_1923 c_1924), (Value.int .i64 i_1685), (Value.slice A_1926 n_1927 c_1928), (Value.bool q_1692), (Value.int .i64 i_1693), (Value.int .i64 i_1694), (Value.string s_1695), (Value.slice A_1930 n_1931 c_1932)]) Try.sizeOf68 (et (v := (Value.pointer (some ⟨w_1901.heap.size, 0, none⟩))) rfl) (et (v := (Value.agg #[(Value.slice A_1914 n_1915 c_1916), (Value.slice A_1918 n_1919 c_1920), (Value.slice A_1922 n_1923 c_1924), (Value.int .i64 i_1685), (Value.slice A_1926 n_1927 c_1928), (Value.bool q_1692), (Value.int .i64 i_1693), (Value.int .i64 i_1694), (Value.string s_1695), (Value.slice A_1930 n_1931 c_1932)])) rfl) rfl (by simp [one]) bx_1937 (by simp) ?_)
    intro w_1942 of_1943 bx_1944
    have bx_1945 : Blk w_1942 w_1901.heap.size 68 [(Value.slice A_1914 n_1915 c_1916), (Value.slice A_1918 n_1919 c_1920), (Value.slice A_1922 n_1923 c_1924), (Value.int .i64 i_1685), (Value.slice A_1926 n_1927 c_1928), (Value.bool q_1692), (Value.int .i64 i_1693), (Value.int .i64 i_1694), (Value.string s_1695), (Value.slice A_1930 n_1931 c_1932)] := bx_1944
    have hB_1946 := below_off hB_1938 of_1943 (by omega)
    have z_1947 := of_1943.size
    have bx_1948 := bx_1939.off of_1943 (by omega)
    have rp_1949 := rp_1940.off of_1943 (fun hm => by have := sg_1743.bd _ hm; omega)
    have rp_1950 := rp_1941.off of_1943 (fun hm => by have := sg_1905.bd _ hm; omega)
    refine l_nil ?_
    refine w_seq ?_
    refine w_region ?_
    refine l_op wn (o_val (x_loadN (cs := [(Value.slice A_1914 n_1915 c_1916), (Value.slice A_1918 n_1919 c_1920), (Value.slice A_1922 n_1923 c_1924), (Value.int .i64 i_1685), (Value.slice A_1926 n_1927 c_1928), (Value.bool q_1692), (Value.int .i64 i_1693), (Value.int .i64 i_1694), (Value.string s_1695), (Value.slice A_1930 n_1931 c_1932)]) Try.isAgg68 Try.sizeOf68 (et (v := (Value.pointer (some ⟨w_1901.heap.size, 0, none⟩))) rfl) rfl (bx_1945.lies)) ?_)
    refine l_op wn (o_val (x_move (et (v := (Value.int .i64 sn)) rfl)) ?_)
    have rr_1951 := rp_1950
    refine l_op wn (o_call (x_call Try.call37 ef (a2 (et (v := (Value.agg #[(Value.slice A_1914 n_1915 c_1916), (Value.slice A_1918 n_1919 c_1920), (Value.slice A_1922 n_1923 c_1924), (Value.int .i64 i_1685), (Value.slice A_1926 n_1927 c_1928), (Value.bool q_1692), (Value.int .i64 i_1693), (Value.int .i64 i_1694), (Value.string s_1695), (Value.slice A_1930 n_1931 c_1932)])) rfl) (et (v := (Value.int .i64 sn)) rfl))) (mayWork_c w_1942 (.agg [.list xs_1667, .list xs_1673, .list xs_1679, .int i_1685, .list xs_1686, .agg [.bool q_1692, .int i_1693, .int i_1694, .str s_1695, .list xs_1696]]) [(Value.slice A_1914 n_1915 c_1916), (Value.slice A_1918 n_1919 c_1920), (Value.slice A_1922 n_1923 c_1924), (Value.int .i64 i_1685), (Value.slice A_1926 n_1927 c_1928), (Value.bool q_1692), (Value.int .i64 i_1693), (Value.int .i64 i_1694), (Value.string s_1695), (Value.slice A_1930 n_1931 c_1932)] _ (ok_agg rfl (okz_cons (ok_list rfl ok_1705) (okz_cons (ok_list rfl ok_1708) (okz_cons (ok_list rfl ok_1711) (okz_cons (ok_int rfl) (okz_cons (ok_list rfl ok_1715) (okz_cons (ok_agg rfl (okz_cons (ok_bool rfl) (okz_cons (ok_int rfl) (okz_cons (ok_int rfl) (okz_cons (ok_str rfl) (okz_cons (ok_list rfl ok_1721) okz_nil)))))) okz_nil))))))) rr_1951 sn (by omega)) ?_)
    rintro _ w_1952 ⟨r_1953, rfl, hr_1954, k_1955⟩
    refine ⟨_, rfl, ?_⟩
    have hB_1957 := below_next hB_1946 k_1955 (by omega)
    have z_1958 := k_1955.size
    have bx_1959 := bx_1948.below k_1955
    have bx_1960 := bx_1945.below k_1955
    have rp_1961 := rp_1949.below k_1955
    have rp_1962 := rp_1950.below k_1955
    cases r_1953
    · have h_1956 : ¬ (1 ≤ sn ∧ (i_1685 = 0 ∨ i_1685 = sn)) := not_of_f hr_1954
      refine l_op wn (o_val (x_assign (et (v := (Value.bool false)) rfl)) ?_)
      refine l_nil ?_
      refine w_seq ?_
      refine w_seq ?_
      refine w_region ?_
      refine l_op wn (o_val (x_move (et (v := (Value.bool false)) rfl)) ?_)
      refine l_op wn (o_val (x_move (et (v := (Value.bool true)) rfl)) ?_)
      have h_1963 : ¬ (false = true) := by decide
      refine l_op wn (o_val (x_bneq Try.underlying4 (r := true) (et (v := (Value.bool false)) rfl) (et (v := (Value.bool true)) rfl) (dec_f h_1963)) ?_)
      refine l_nil ?_
      refine w_if_t (et (v := (Value.bool true)) rfl) ?_
      refine w_seq ?_
      refine w_region ?_
      refine l_op wn (o_val (x_assign ec) ?_)
      refine l_nil ?_
      refine w_ret ?_
      omega
    have h_1956 : 1 ≤ sn ∧ (i_1685 = 0 ∨ i_1685 = sn) := hr_1954.1 rfl
    refine l_op wn (o_val (x_assign (et (v := (Value.bool true)) rfl)) ?_)
    refine l_nil ?_
    refine w_seq ?_
    refine w_seq ?_
    refine w_region ?_
    refine l_op wn (o_val (x_move (et (v := (Value.bool true)) rfl)) ?_)
    refine l_op wn (o_val (x_move (et (v := (Value.bool true)) rfl)) ?_)
    have h_1964 : true = true := rfl
    refine l_op wn (o_val (x_bneq Try.underlying4 (r := false) (et (v := (Value.bool true)) rfl) (et (v := (Value.bool true)) rfl) (dec_t h_1964)) ?_)
    refine l_nil ?_
    refine w_if_f (et (v := (Value.bool false)) rfl) ?_
    refine w_skip ?_
    refine w_seq ?_
    refine w_seq ?_
    have hS_1966 := Sm.start [w_1901.heap.size, w.heap.size] w_1952
    refine w_draw (Sm [w_1901.heap.size, w.heap.size] w_1952) [(0, true), (1, true), (2, false), (3, false), (4, true)] (by kernel_rfl) (by kernel_rfl) rfl (by kernel_rfl) ?_
    have hB_1967 := hB_1957.drew
    have bx_1968 := bx_1959.drew
    have bx_1969 := bx_1960.drew
    have rp_1970 := rp_1961.drew
    have rp_1971 := rp_1962.drew
    have z_1972 : w_1952.drew.heap.size = w_1952.heap.size := rfl
    refine d_q rfl rfl wn (fun w' hS' => (x_loadN (cs := [(Value.slice A_1914 n_1915 c_1916), (Value.slice A_1918 n_1919 c_1920), (Value.slice A_1922 n_1923 c_1924), (Value.int .i64 i_1685), (Value.slice A_1926 n_1927 c_1928), (Value.bool q_1692), (Value.int .i64 i_1693), (Value.int .i64 i_1694), (Value.string s_1695), (Value.slice A_1930 n_1931 c_1932)]) Try.isAgg68 Try.sizeOf68 (et (v := (Value.pointer (some ⟨w_1901.heap.size, 0, none⟩))) rfl) rfl ((bx_1960.keep (hS' _ (by simp))).lies))) hS_1966 ?_
    refine d_q rfl rfl wn (fun w' hS' => (x_loadN (cs := [(Value.slice A_1668 n_1669 c_1670), (Value.slice A_1674 n_1675 c_1676), (Value.slice A_1680 n_1681 c_1682), (Value.int .i64 i_1685), (Value.slice A_1687 n_1688 c_1689), (Value.bool q_1692), (Value.int .i64 i_1693), (Value.int .i64 i_1694), (Value.string s_1695), (Value.slice A_1697 n_1698 c_1699)]) Try.isAgg60 Try.sizeOf60 (et (v := (Value.pointer (some ⟨w.heap.size, 0, none⟩))) rfl) rfl ((bx_1959.keep (hS' _ (by simp))).lies))) hS_1966 ?_
    have rr_1980 := (ragg (rcons (hr_1706.below hB_1967) (rcons (hr_1709.below hB_1967) (rcons (hr_1712.below hB_1967) (rcons (rint (w := w_1952.drew) (n := i_1685) bd_1714) (rcons (hr_1716.below hB_1967) (rcons (ragg (rcons (rbool (w := w_1952.drew) (n := q_1692)) (rcons (rint (w := w_1952.drew) (n := i_1693) bd_1718) (rcons (rint (w := w_1952.drew) (n := i_1694) bd_1719) (rcons (rstr (w := w_1952.drew) (n := s_1695) bd_1720) (rcons (hr_1722.below hB_1967) (rnil (w := w_1952.drew)))))))) (rnil (w := w_1952.drew)))))))))
    refine d_op rfl wn (o_call (x_call Try.call36 ef (a1 (et (v := (Value.agg #[(Value.slice A_1668 n_1669 c_1670), (Value.slice A_1674 n_1675 c_1676), (Value.slice A_1680 n_1681 c_1682), (Value.int .i64 i_1685), (Value.slice A_1687 n_1688 c_1689), (Value.bool q_1692), (Value.int .i64 i_1693), (Value.int .i64 i_1694), (Value.string s_1695), (Value.slice A_1697 n_1698 c_1699)])) rfl))) (to_Store w_1952.drew (.agg [.list xs_1667, .list xs_1673, .list xs_1679, .int i_1685, .list xs_1686, .agg [.bool q_1692, .int i_1693, .int i_1694, .str s_1695, .list xs_1696]]) [(Value.slice A_1668 n_1669 c_1670), (Value.slice A_1674 n_1675 c_1676), (Value.slice A_1680 n_1681 c_1682), (Value.int .i64 i_1685), (Value.slice A_1687 n_1688 c_1689), (Value.bool q_1692), (Value.int .i64 i_1693), (Value.int .i64 i_1694), (Value.string s_1695), (Value.slice A_1697 n_1698 c_1699)] _ (ok_agg rfl (okz_cons (ok_list rfl ok_1705) (okz_cons (ok_list rfl ok_1708) (okz_cons (ok_list rfl ok_1711) (okz_cons (ok_int rfl) (okz_cons (ok_list rfl ok_1715) (okz_cons (ok_agg rfl (okz_cons (ok_bool rfl) (okz_cons (ok_int rfl) (okz_cons (ok_int rfl) (okz_cons (ok_str rfl) (okz_cons (ok_list rfl ok_1721) okz_nil)))))) okz_nil))))))) rr_1980 (by omega)) ?_)
    rintro _ w_1973 ⟨cs_1979, F_1975, rfl, rp_1976, sg_1977, k_1978⟩
    have hB_1981 := below_next hB_1967 k_1978 (by omega)
    have z_1982 := k_1978.size
    have bx_1983 := bx_1968.below k_1978
    have bx_1984 := bx_1969.below k_1978
    have rp_1985 := rp_1970.below k_1978
    have rp_1986 := rp_1971.below k_1978
    obtain ⟨A_1988, n_1989, c_1990, F_1991, A_1992, n_1993, c_1994, F_1995, A_1996, n_1997, c_1998, F_1999, A_2000, n_2001, c_2002, F_2003, A_2004, n_2005, c_2006, F_2007, rfl⟩ := cells_Store rp_1976
    refine ⟨_, rfl, ?_⟩
    have hS_2008 := hS_1966.next k_1978 (by simp; omega)
    refine ⟨hS_2008, ?_⟩
    have rr_2011 := rp_1986
    have rr_2012 := rp_1976
    refine d_op rfl wn (o_call (x_call Try.call38 ef (a2 (et (v := (Value.agg #[(Value.slice A_1914 n_1915 c_1916), (Value.slice A_1918 n_1919 c_1920), (Value.slice A_1922 n_1923 c_1924), (Value.int .i64 i_1685), (Value.slice A_1926 n_1927 c_1928), (Value.bool q_1692), (Value.int .i64 i_1693), (Value.int .i64 i_1694), (Value.string s_1695), (Value.slice A_1930 n_1931 c_1932)])) rfl) (et (v := (Value.agg #[(Value.slice A_1988 n_1989 c_1990), (Value.slice A_1992 n_1993 c_1994), (Value.slice A_1996 n_1997 c_1998), (Value.int .i64 i_1685), (Value.slice A_2000 n_2001 c_2002), (Value.bool q_1692), (Value.int .i64 i_1693), (Value.int .i64 i_1694), (Value.string s_1695), (Value.slice A_2004 n_2005 c_2006)])) rfl))) (eq_Store w_1973 (.agg [.list xs_1667, .list xs_1673, .list xs_1679, .int i_1685, .list xs_1686, .agg [.bool q_1692, .int i_1693, .int i_1694, .str s_1695, .list xs_1696]]) [(Value.slice A_1914 n_1915 c_1916), (Value.slice A_1918 n_1919 c_1920), (Value.slice A_1922 n_1923 c_1924), (Value.int .i64 i_1685), (Value.slice A_1926 n_1927 c_1928), (Value.bool q_1692), (Value.int .i64 i_1693), (Value.int .i64 i_1694), (Value.string s_1695), (Value.slice A_1930 n_1931 c_1932)] _ [(Value.slice A_1988 n_1989 c_1990), (Value.slice A_1992 n_1993 c_1994), (Value.slice A_1996 n_1997 c_1998), (Value.int .i64 i_1685), (Value.slice A_2000 n_2001 c_2002), (Value.bool q_1692), (Value.int .i64 i_1693), (Value.int .i64 i_1694), (Value.string s_1695), (Value.slice A_2004 n_2005 c_2006)] _ (ok_agg rfl (okz_cons (ok_list rfl ok_1705) (okz_cons (ok_list rfl ok_1708) (okz_cons (ok_list rfl ok_1711) (okz_cons (ok_int rfl) (okz_cons (ok_list rfl ok_1715) (okz_cons (ok_agg rfl (okz_cons (ok_bool rfl) (okz_cons (ok_int rfl) (okz_cons (ok_int rfl) (okz_cons (ok_str rfl) (okz_cons (ok_list rfl ok_1721) okz_nil)))))) okz_nil))))))) rr_2011 rr_2012) ?_)
    rintro _ w_2009 ⟨rfl, k_2010⟩
    refine ⟨_, rfl, ?_⟩
    have hB_2013 := below_next hB_1981 k_2010 (by omega)
    have z_2014 := k_2010.size
    have bx_2015 := bx_1983.below k_2010
    have bx_2016 := bx_1984.below k_2010
    have rp_2017 := rp_1985.below k_2010
    have rp_2018 := rp_1986.below k_2010
    have rp_2019 := rp_1976.below k_2010
    have hS_2020 := hS_2008.next k_2010 (by simp; omega)
    refine ⟨hS_2020, ?_⟩
    refine d_q rfl rfl wn (fun w' hS' => (x_not (et (v := (Value.bool true)) rfl))) hS_2020 ?_
    refine d_nil ?_
    refine w_if_f (et (v := (Value.bool false)) rfl) ?_
    refine w_skip ?_
    refine w_seq ?_
    refine w_region ?_
    refine l_op wn (o_val (x_assign ec) ?_)
    refine l_nil ?_
    refine w_ret ?_
    exact ⟨_, r_tmp (v := (Value.bool true)) Try.results8 rfl, rfl, hB_2013⟩
  have h_1776 : ¬ (1 ≤ sn ∧ (i_1685 = 0 ∨ i_1685 = sn)) := not_of_f hr_1774
  refine l_op wn (o_val (x_assign (et (v := (Value.bool false)) rfl)) ?_)
  refine l_nil ?_
  refine w_seq ?_
  refine w_region ?_
  refine l_op wn (o_val (x_loadN (cs := [(Value.slice A_1668 n_1669 c_1670), (Value.slice A_1674 n_1675 c_1676), (Value.slice A_1680 n_1681 c_1682), (Value.int .i64 i_1685), (Value.slice A_1687 n_1688 c_1689), (Value.bool q_1692), (Value.int .i64 i_1693), (Value.int .i64 i_1694), (Value.string s_1695), (Value.slice A_1697 n_1698 c_1699)]) Try.isAgg60 Try.sizeOf60 (et (v := (Value.pointer (some ⟨w.heap.size, 0, none⟩))) rfl) rfl (bx_1779.lies)) ?_)
  have rr_1788 := (ragg (rcons (hr_1706.below hB_1777) (rcons (hr_1709.below hB_1777) (rcons (hr_1712.below hB_1777) (rcons (rint (w := w_1772) (n := i_1685) bd_1714) (rcons (hr_1716.below hB_1777) (rcons (ragg (rcons (rbool (w := w_1772) (n := q_1692)) (rcons (rint (w := w_1772) (n := i_1693) bd_1718) (rcons (rint (w := w_1772) (n := i_1694) bd_1719) (rcons (rstr (w := w_1772) (n := s_1695) bd_1720) (rcons (hr_1722.below hB_1777) (rnil (w := w_1772)))))))) (rnil (w := w_1772)))))))))
  refine l_op wn (o_call (x_call Try.call36 ef (a1 (et (v := (Value.agg #[(Value.slice A_1668 n_1669 c_1670), (Value.slice A_1674 n_1675 c_1676), (Value.slice A_1680 n_1681 c_1682), (Value.int .i64 i_1685), (Value.slice A_1687 n_1688 c_1689), (Value.bool q_1692), (Value.int .i64 i_1693), (Value.int .i64 i_1694), (Value.string s_1695), (Value.slice A_1697 n_1698 c_1699)])) rfl))) (to_Store w_1772 (.agg [.list xs_1667, .list xs_1673, .list xs_1679, .int i_1685, .list xs_1686, .agg [.bool q_1692, .int i_1693, .int i_1694, .str s_1695, .list xs_1696]]) [(Value.slice A_1668 n_1669 c_1670), (Value.slice A_1674 n_1675 c_1676), (Value.slice A_1680 n_1681 c_1682), (Value.int .i64 i_1685), (Value.slice A_1687 n_1688 c_1689), (Value.bool q_1692), (Value.int .i64 i_1693), (Value.int .i64 i_1694), (Value.string s_1695), (Value.slice A_1697 n_1698 c_1699)] _ (ok_agg rfl (okz_cons (ok_list rfl ok_1705) (okz_cons (ok_list rfl ok_1708) (okz_cons (ok_list rfl ok_1711) (okz_cons (ok_int rfl) (okz_cons (ok_list rfl ok_1715) (okz_cons (ok_agg rfl (okz_cons (ok_bool rfl) (okz_cons (ok_int rfl) (okz_cons (ok_int rfl) (okz_cons (ok_str rfl) (okz_cons (ok_list rfl ok_1721) okz_nil)))))) okz_nil))))))) rr_1788 (by omega)) ?_)
  rintro _ w_1781 ⟨cs_1787, F_1783, rfl, rp_1784, sg_1785, k_1786⟩
  have hB_1789 := below_next hB_1777 k_1786 (by omega)
  have z_1790 := k_1786.size
  have bx_1791 := bx_1779.below k_1786
  have rp_1792 := rp_1780.below k_1786
  obtain ⟨A_1794, n_1795, c_1796, F_1797, A_1798, n_1799, c_1800, F_1801, A_1802, n_1803, c_1804, F_1805, A_1806, n_1807, c_1808, F_1809, A_1810, n_1811, c_1812, F_1813, rfl⟩ := cells_Store rp_1784
  refine ⟨_, rfl, ?_⟩
  refine l_op wn (o_new (x_alloc (cs := [(Value.slice none 0 0), (Value.slice none 0 0), (Value.slice none 0 0), (Value.int .i64 0), (Value.slice none 0 0), (Value.bool false), (Value.int .i64 0), (Value.int .i64 0), (Value.string (⟨#[]⟩)), (Value.slice none 0 0)]) Try.zeroValue68) ?_)
  intro w_1814 z_1815 k_1816 bx_1817
  have hB_1818 := below_next hB_1789 k_1816 (by omega)
  have bx_1819 := bx_1791.below k_1816
  have rp_1820 := rp_1792.below k_1816
  have rp_1821 := rp_1784.below k_1816
  refine l_op wn (o_storeN (vs := [(Value.slice A_1794 n_1795 c_1796), (Value.slice A_1798 n_1799 c_1800), (Value.slice A_1802 n_1803 c_1804), (Value.int .i64 i_1685), (Value.slice A_1806 n_1807 c_1808), (Value.bool q_1692), (Value.int .i64 i_1693), (Value.int .i64 i_1694), (Value.string s_1695), (Value.slice A_1810 n_1811 c_1812)]) Try.sizeOf68 (et (v := (Value.pointer (some ⟨w_1781.heap.size, 0, none⟩))) rfl) (et (v := (Value.agg #[(Value.slice A_1794 n_1795 c_1796), (Value.slice A_1798 n_1799 c_1800), (Value.slice A_1802 n_1803 c_1804), (Value.int .i64 i_1685), (Value.slice A_1806 n_1807 c_1808), (Value.bool q_1692), (Value.int .i64 i_1693), (Value.int .i64 i_1694), (Value.string s_1695), (Value.slice A_1810 n_1811 c_1812)])) rfl) rfl (by simp [one]) bx_1817 (by simp) ?_)
  intro w_1822 of_1823 bx_1824
  have bx_1825 : Blk w_1822 w_1781.heap.size 68 [(Value.slice A_1794 n_1795 c_1796), (Value.slice A_1798 n_1799 c_1800), (Value.slice A_1802 n_1803 c_1804), (Value.int .i64 i_1685), (Value.slice A_1806 n_1807 c_1808), (Value.bool q_1692), (Value.int .i64 i_1693), (Value.int .i64 i_1694), (Value.string s_1695), (Value.slice A_1810 n_1811 c_1812)] := bx_1824
  have hB_1826 := below_off hB_1818 of_1823 (by omega)
  have z_1827 := of_1823.size
  have bx_1828 := bx_1819.off of_1823 (by omega)
  have rp_1829 := rp_1820.off of_1823 (fun hm => by have := sg_1743.bd _ hm; omega)
  have rp_1830 := rp_1821.off of_1823 (fun hm => by have := sg_1785.bd _ hm; omega)
  refine l_nil ?_
  refine w_seq ?_
  refine w_region ?_
  refine l_op wn (o_val (x_loadN (cs := [(Value.slice A_1794 n_1795 c_1796), (Value.slice A_1798 n_1799 c_1800), (Value.slice A_1802 n_1803 c_1804), (Value.int .i64 i_1685), (Value.slice A_1806 n_1807 c_1808), (Value.bool q_1692), (Value.int .i64 i_1693), (Value.int .i64 i_1694), (Value.string s_1695), (Value.slice A_1810 n_1811 c_1812)]) Try.isAgg68 Try.sizeOf68 (et (v := (Value.pointer (some ⟨w_1781.heap.size, 0, none⟩))) rfl) rfl (bx_1825.lies)) ?_)
  refine l_op wn (o_val (x_move (et (v := (Value.int .i64 sn)) rfl)) ?_)
  have rr_1831 := rp_1830
  refine l_op wn (o_call (x_call Try.call37 ef (a2 (et (v := (Value.agg #[(Value.slice A_1794 n_1795 c_1796), (Value.slice A_1798 n_1799 c_1800), (Value.slice A_1802 n_1803 c_1804), (Value.int .i64 i_1685), (Value.slice A_1806 n_1807 c_1808), (Value.bool q_1692), (Value.int .i64 i_1693), (Value.int .i64 i_1694), (Value.string s_1695), (Value.slice A_1810 n_1811 c_1812)])) rfl) (et (v := (Value.int .i64 sn)) rfl))) (mayWork_c w_1822 (.agg [.list xs_1667, .list xs_1673, .list xs_1679, .int i_1685, .list xs_1686, .agg [.bool q_1692, .int i_1693, .int i_1694, .str s_1695, .list xs_1696]]) [(Value.slice A_1794 n_1795 c_1796), (Value.slice A_1798 n_1799 c_1800), (Value.slice A_1802 n_1803 c_1804), (Value.int .i64 i_1685), (Value.slice A_1806 n_1807 c_1808), (Value.bool q_1692), (Value.int .i64 i_1693), (Value.int .i64 i_1694), (Value.string s_1695), (Value.slice A_1810 n_1811 c_1812)] _ (ok_agg rfl (okz_cons (ok_list rfl ok_1705) (okz_cons (ok_list rfl ok_1708) (okz_cons (ok_list rfl ok_1711) (okz_cons (ok_int rfl) (okz_cons (ok_list rfl ok_1715) (okz_cons (ok_agg rfl (okz_cons (ok_bool rfl) (okz_cons (ok_int rfl) (okz_cons (ok_int rfl) (okz_cons (ok_str rfl) (okz_cons (ok_list rfl ok_1721) okz_nil)))))) okz_nil))))))) rr_1831 sn (by omega)) ?_)
  rintro _ w_1832 ⟨r_1833, rfl, hr_1834, k_1835⟩
  refine ⟨_, rfl, ?_⟩
  have hB_1837 := below_next hB_1826 k_1835 (by omega)
  have z_1838 := k_1835.size
  have bx_1839 := bx_1828.below k_1835
  have bx_1840 := bx_1825.below k_1835
  have rp_1841 := rp_1829.below k_1835
  have rp_1842 := rp_1830.below k_1835
  cases r_1833
  rotate_left
  · have h_1836 : 1 ≤ sn ∧ (i_1685 = 0 ∨ i_1685 = sn) := hr_1834.1 rfl
    refine l_op wn (o_val (x_assign (et (v := (Value.bool true)) rfl)) ?_)
    refine l_nil ?_
    refine w_seq ?_
    refine w_seq ?_
    refine w_region ?_
    refine l_op wn (o_val (x_move (et (v := (Value.bool true)) rfl)) ?_)
    refine l_op wn (o_val (x_move (et (v := (Value.bool false)) rfl)) ?_)
    have h_1900 : ¬ (true = false) := by decide
    refine l_op wn (o_val (x_bneq Try.underlying4 (r := true) (et (v := (Value.bool true)) rfl) (et (v := (Value.bool false)) rfl) (dec_f h_1900)) ?_)
    refine l_nil ?_
    refine w_if_t (et (v := (Value.bool true)) rfl) ?_
    refine w_seq ?_
    refine w_region ?_
    refine l_op wn (o_val (x_assign ec) ?_)
    refine l_nil ?_
    refine w_ret ?_
    omega
  have h_1836 : ¬ (1 ≤ sn ∧ (i_1685 = 0 ∨ i_1685 = sn)) := not_of_f hr_1834
  refine l_op wn (o_val (x_assign (et (v := (Value.bool false)) rfl)) ?_)
  refine l_nil ?_
  refine w_seq ?_
  refine w_seq ?_
  refine w_region ?_
  refine l_op wn (o_val (x_move (et (v := (Value.bool false)) rfl)) ?_)
  refine l_op wn (o_val (x_move (et (v := (Value.bool false)) rfl)) ?_)
  have h_1843 : false = false := rfl
  refine l_op wn (o_val (x_bneq Try.underlying4 (r := false) (et (v := (Value.bool false)) rfl) (et (v := (Value.bool false)) rfl) (dec_t h_1843)) ?_)
  refine l_nil ?_
  refine w_if_f (et (v := (Value.bool false)) rfl) ?_
  refine w_skip ?_
  refine w_seq ?_
  refine w_seq ?_
  have hS_1845 := Sm.start [w_1781.heap.size, w.heap.size] w_1832
  refine w_draw (Sm [w_1781.heap.size, w.heap.size] w_1832) [(0, true), (1, true), (2, false), (3, false), (4, true)] (by kernel_rfl) (by kernel_rfl) rfl (by kernel_rfl) ?_
  have hB_1846 := hB_1837.drew
  have bx_1847 := bx_1839.drew
  have bx_1848 := bx_1840.drew
  have rp_1849 := rp_1841.drew
  have rp_1850 := rp_1842.drew
  have z_1851 : w_1832.drew.heap.size = w_1832.heap.size := rfl
  refine d_q rfl rfl wn (fun w' hS' => (x_loadN (cs := [(Value.slice A_1794 n_1795 c_1796), (Value.slice A_1798 n_1799 c_1800), (Value.slice A_1802 n_1803 c_1804), (Value.int .i64 i_1685), (Value.slice A_1806 n_1807 c_1808), (Value.bool q_1692), (Value.int .i64 i_1693), (Value.int .i64 i_1694), (Value.string s_1695), (Value.slice A_1810 n_1811 c_1812)]) Try.isAgg68 Try.sizeOf68 (et (v := (Value.pointer (some ⟨w_1781.heap.size, 0, none⟩))) rfl) rfl ((bx_1840.keep (hS' _ (by simp))).lies))) hS_1845 ?_
  refine d_q rfl rfl wn (fun w' hS' => (x_loadN (cs := [(Value.slice A_1668 n_1669 c_1670), (Value.slice A_1674 n_1675 c_1676), (Value.slice A_1680 n_1681 c_1682), (Value.int .i64 i_1685), (Value.slice A_1687 n_1688 c_1689), (Value.bool q_1692), (Value.int .i64 i_1693), (Value.int .i64 i_1694), (Value.string s_1695), (Value.slice A_1697 n_1698 c_1699)]) Try.isAgg60 Try.sizeOf60 (et (v := (Value.pointer (some ⟨w.heap.size, 0, none⟩))) rfl) rfl ((bx_1839.keep (hS' _ (by simp))).lies))) hS_1845 ?_
  have rr_1859 := (ragg (rcons (hr_1706.below hB_1846) (rcons (hr_1709.below hB_1846) (rcons (hr_1712.below hB_1846) (rcons (rint (w := w_1832.drew) (n := i_1685) bd_1714) (rcons (hr_1716.below hB_1846) (rcons (ragg (rcons (rbool (w := w_1832.drew) (n := q_1692)) (rcons (rint (w := w_1832.drew) (n := i_1693) bd_1718) (rcons (rint (w := w_1832.drew) (n := i_1694) bd_1719) (rcons (rstr (w := w_1832.drew) (n := s_1695) bd_1720) (rcons (hr_1722.below hB_1846) (rnil (w := w_1832.drew)))))))) (rnil (w := w_1832.drew)))))))))
  refine d_op rfl wn (o_call (x_call Try.call36 ef (a1 (et (v := (Value.agg #[(Value.slice A_1668 n_1669 c_1670), (Value.slice A_1674 n_1675 c_1676), (Value.slice A_1680 n_1681 c_1682), (Value.int .i64 i_1685), (Value.slice A_1687 n_1688 c_1689), (Value.bool q_1692), (Value.int .i64 i_1693), (Value.int .i64 i_1694), (Value.string s_1695), (Value.slice A_1697 n_1698 c_1699)])) rfl))) (to_Store w_1832.drew (.agg [.list xs_1667, .list xs_1673, .list xs_1679, .int i_1685, .list xs_1686, .agg [.bool q_1692, .int i_1693, .int i_1694, .str s_1695, .list xs_1696]]) [(Value.slice A_1668 n_1669 c_1670), (Value.slice A_1674 n_1675 c_1676), (Value.slice A_1680 n_1681 c_1682), (Value.int .i64 i_1685), (Value.slice A_1687 n_1688 c_1689), (Value.bool q_1692), (Value.int .i64 i_1693), (Value.int .i64 i_1694), (Value.string s_1695), (Value.slice A_1697 n_1698 c_1699)] _ (ok_agg rfl (okz_cons (ok_list rfl ok_1705) (okz_cons (ok_list rfl ok_1708) (okz_cons (ok_list rfl ok_1711) (okz_cons (ok_int rfl) (okz_cons (ok_list rfl ok_1715) (okz_cons (ok_agg rfl (okz_cons (ok_bool rfl) (okz_cons (ok_int rfl) (okz_cons (ok_int rfl) (okz_cons (ok_str rfl) (okz_cons (ok_list rfl ok_1721) okz_nil)))))) okz_nil))))))) rr_1859 (by omega)) ?_)
  rintro _ w_1852 ⟨cs_1858, F_1854, rfl, rp_1855, sg_1856, k_1857⟩
  have hB_1860 := below_next hB_1846 k_1857 (by omega)
  have z_1861 := k_1857.size
  have bx_1862 := bx_1847.below k_1857
  have bx_1863 := bx_1848.below k_1857
  have rp_1864 := rp_1849.below k_1857
  have rp_1865 := rp_1850.below k_1857
  obtain ⟨A_1867, n_1868, c_1869, F_1870, A_1871, n_1872, c_1873, F_1874, A_1875, n_1876, c_1877, F_1878, A_1879, n_1880, c_1881, F_1882, A_1883, n_1884, c_1885, F_1886, rfl⟩ := cells_Store rp_1855
  refine ⟨_, rfl, ?_⟩
  have hS_1887 := hS_1845.next k_1857 (by simp; omega)
  refine ⟨hS_1887, ?_⟩
  have rr_1890 := rp_1865
  have rr_1891 := rp_1855
  refine d_op rfl wn (o_call (x_call Try.call38 ef (a2 (et (v := (Value.agg #[(Value.slice A_1794 n_1795 c_1796), (Value.slice A_1798 n_1799 c_1800), (Value.slice A_1802 n_1803 c_1804), (Value.int .i64 i_1685), (Value.slice A_1806 n_1807 c_1808), (Value.bool q_1692), (Value.int .i64 i_1693), (Value.int .i64 i_1694), (Value.string s_1695), (Value.slice A_1810 n_1811 c_1812)])) rfl) (et (v := (Value.agg #[(Value.slice A_1867 n_1868 c_1869), (Value.slice A_1871 n_1872 c_1873), (Value.slice A_1875 n_1876 c_1877), (Value.int .i64 i_1685), (Value.slice A_1879 n_1880 c_1881), (Value.bool q_1692), (Value.int .i64 i_1693), (Value.int .i64 i_1694), (Value.string s_1695), (Value.slice A_1883 n_1884 c_1885)])) rfl))) (eq_Store w_1852 (.agg [.list xs_1667, .list xs_1673, .list xs_1679, .int i_1685, .list xs_1686, .agg [.bool q_1692, .int i_1693, .int i_1694, .str s_1695, .list xs_1696]]) [(Value.slice A_1794 n_1795 c_1796), (Value.slice A_1798 n_1799 c_1800), (Value.slice A_1802 n_1803 c_1804), (Value.int .i64 i_1685), (Value.slice A_1806 n_1807 c_1808), (Value.bool q_1692), (Value.int .i64 i_1693), (Value.int .i64 i_1694), (Value.string s_1695), (Value.slice A_1810 n_1811 c_1812)] _ [(Value.slice A_1867 n_1868 c_1869), (Value.slice A_1871 n_1872 c_1873), (Value.slice A_1875 n_1876 c_1877), (Value.int .i64 i_1685), (Value.slice A_1879 n_1880 c_1881), (Value.bool q_1692), (Value.int .i64 i_1693), (Value.int .i64 i_1694), (Value.string s_1695), (Value.slice A_1883 n_1884 c_1885)] _ (ok_agg rfl (okz_cons (ok_list rfl ok_1705) (okz_cons (ok_list rfl ok_1708) (okz_cons (ok_list rfl ok_1711) (okz_cons (ok_int rfl) (okz_cons (ok_list rfl ok_1715) (okz_cons (ok_agg rfl (okz_cons (ok_bool rfl) (okz_cons (ok_int rfl) (okz_cons (ok_int rfl) (okz_cons (ok_str rfl) (okz_cons (ok_list rfl ok_1721) okz_nil)))))) okz_nil))))))) rr_1890 rr_1891) ?_)
  rintro _ w_1888 ⟨rfl, k_1889⟩
  refine ⟨_, rfl, ?_⟩
  have hB_1892 := below_next hB_1860 k_1889 (by omega)
  have z_1893 := k_1889.size
  have bx_1894 := bx_1862.below k_1889
  have bx_1895 := bx_1863.below k_1889
  have rp_1896 := rp_1864.below k_1889
  have rp_1897 := rp_1865.below k_1889
  have rp_1898 := rp_1855.below k_1889
  have hS_1899 := hS_1887.next k_1889 (by simp; omega)
  refine ⟨hS_1899, ?_⟩
  refine d_q rfl rfl wn (fun w' hS' => (x_not (et (v := (Value.bool true)) rfl))) hS_1899 ?_
  refine d_nil ?_
  refine w_if_f (et (v := (Value.bool false)) rfl) ?_
  refine w_skip ?_
  refine w_seq ?_
  refine w_region ?_
  refine l_op wn (o_val (x_assign ec) ?_)
  refine l_nil ?_
  refine w_ret ?_
  exact ⟨_, r_tmp (v := (Value.bool true)) Try.results8 rfl, rfl, hB_1892⟩

end Go.Proofs.Ytilohpakglpdcaa
